-- Written by wip/myprint.py (a program of mine round the kit's printer). Lean checks it.
import Derived.Test.YtonobgbpgeielaaQFnArchesPutx8
namespace Go.Proofs.Ytonobgbpgeielaa.QFnArchesPut
open Go.RowKit Go.Proofs.YtonobgbpgeielaaW.PrintWords Go.Proofs.YtonobgbpgeielaaW.PrintLast Go.Proofs.YtonobgbpgeielaaW.PrintMore
attribute [local go_sem] max2_int min2_int max_two min_two max_three min_three max_four min_four   -- for this text's walks alone
set_option linter.unusedVariables false
set_option linter.unusedSimpArgs false

noncomputable def laws_FnArchesPut.part4.rest : Code := ((Try.f3.body.bind (laws_FnArchesPut.findRest 30)).getD .skip)
noncomputable def laws_FnArchesPut.part4.joint : Code := ((Try.f3.body.bind (laws_FnArchesPut.findCond 222)).getD .skip)
set_option maxHeartbeats 8000000 in
set_option maxRecDepth 1000000 in
theorem laws_FnArchesPut.part4 (k : Nat) (A0 : Option Addr) (c0 : Nat) (l0 : List Int) (A1 : Option Addr) (c1 : Nat) (l1 : List Int) (r : Bool) (w : World) (hr_ : r = true) (t353 : List Int) (t354 : Int) (t358 : Bool) (t362 : Bool) (Ao10 : Option Addr) (co10 : Nat) (v359 : Value) (v363 : Value) (kj7 : Nat) (HJ7 : Aside0 (kj7 + 1 ≤ k)) (u11 : Value) (u12 : Value) (kj17 : Nat) (HJ17 : Aside0 (kj17 + 1 ≤ kj7)) (t372 : List Int) (t373 : Int) (t374 : Int) (t378 : Bool) (t382 : Bool) (Ao39 : Option Addr) (co39 : Nat) (v379 : Value) (v383 : Value) (kj36 : Nat) (HJ36 : Aside0 (kj36 + 1 ≤ kj17)) (u4 : Value) (u20 : Value) (u21 : Value) (kj46 : Nat) (HJ46 : Aside0 (kj46 + 1 ≤ kj36)) (t392 : List Int) (t395 : List Int) (t396 : Bool) (t399 : List Int) (t400 : Bool) (t403 : List Int) (t404 : Bool) (t407 : List Int) (t408 : Bool) (t411 : List Int) (t412 : Bool) (t415 : List Int) (t416 : Bool) (HC74 : Aside0 ((if (t396 != t400) = true then j4 kj46 t392 t395 t396 t403 t411 true else (laws_sSame.f kj46 t395 t399).bind fun t419 => if t419 = true then if (t404 != t408) = true then j4 kj46 t392 t395 t396 t403 t411 true else (laws_sSame.f kj46 t403 t407).bind fun t420 => if t420 = true then if (t412 != t416) = true then j4 kj46 t392 t395 t396 t403 t411 true else (laws_sSame.f kj46 t411 t415).bind fun t421 => if t421 = true then (impl_IsSystem.f kj46 t392).bind fun t422 => if (t396 != t422) = true then j4 kj46 t392 t395 t396 t403 t411 true else if (t404 != t396) = true then j4 kj46 t392 t395 t396 t403 t411 true else j4 kj46 t392 t395 t396 t403 t411 (t412 != t396) else j4 kj46 t392 t395 t396 t403 t411 true else j4 kj46 t392 t395 t396 t403 t411 true else j4 kj46 t392 t395 t396 t403 t411 true) = some r)) (Ao76 : Option Addr) (co76 : Nat) (v397 : Value) (v401 : Value) (v405 : Value) (v409 : Value) (v413 : Value) (w82 : World) (v417 : Value) (HB : Aside0 (Below w.heap.size w w82)) (wc : World) (u44 : Value) (u45 : Value) (u46 : Value) (u47 : Value) (u48 : Value) (u49 : Value) (u50 : Value) (u51 : Value) (u52 : Value) (u53 : Value) (u54 : Value) (u55 : Value) (u56 : Value) (u57 : Value) (u58 : Value) (u59 : Value) (u60 : Value) (u61 : Value) (u62 : Value) (u63 : Value) (u64 : Value) (u65 : Value) (u66 : Value) (u67 : Value) (u68 : Value) (u69 : Value) (u70 : Value) (u71 : Value) (u72 : Value) (u73 : Value) (u74 : Value) (u75 : Value) (u76 : Value) (u77 : Value) (u78 : Value) (u79 : Value) (u80 : Value) (u81 : Value) (u82 : Value) (u83 : Value) (u84 : Value) (u85 : Value) (u86 : Value) (u87 : Value) (u88 : Value) (u89 : Value) (u90 : Value) (u91 : Value) (u92 : Value) (u93 : Value) (u94 : Value) (u95 : Value) (u96 : Value) (u97 : Value) (u98 : Value) (u99 : Value) (u100 : Value) (u101 : Value) (u102 : Value) (u103 : Value) (u104 : Value) (u105 : Value) (u106 : Value) (u107 : Value) (u108 : Value) (u109 : Value) (u110 : Value) (u111 : Value) (u112 : Value) (u113 : Value) (u114 : Value) (u115 : Value) (u116 : Value) (u117 : Value) (u118 : Value) (u119 : Value) (u120 : Value) (u121 : Value) (u122 : Value) (u123 : Value) (u124 : Value) (u125 : Value) (u126 : Value) (u127 : Value) (u128 : Value) (u129 : Value) (u130 : Value) (u131 : Value) (u132 : Value) (u133 : Value) (u134 : Value) (u135 : Value) (u136 : Value) (u137 : Value) (u138 : Value) (u139 : Value) (u140 : Value) (u141 : Value) (u142 : Value) (u143 : Value) (u144 : Value) (u145 : Value) (u146 : Value) (u147 : Value) (u148 : Value) (u149 : Value) (u150 : Value) (u151 : Value) (u152 : Value) (u153 : Value) (u154 : Value) (u155 : Value) (u156 : Value) (u157 : Value) (u158 : Value) (u159 : Value) (u160 : Value) (u161 : Value) (u162 : Value) (u163 : Value) (u164 : Value) (u165 : Value) (u166 : Value) (u167 : Value) (u168 : Value) (u169 : Value) (u170 : Value) (u171 : Value) (u172 : Value) (u173 : Value) (u174 : Value) (u175 : Value) (u176 : Value) (u177 : Value) (u178 : Value) (u179 : Value) (u180 : Value) (u181 : Value) (u182 : Value) (u183 : Value) (u184 : Value) (u185 : Value) (u186 : Value) (u187 : Value) (u188 : Value) (u189 : Value) (u190 : Value) (u191 : Value) (u192 : Value) (u193 : Value) (u194 : Value) (u195 : Value) (u196 : Value) (u197 : Value) (u198 : Value) (u199 : Value) (u200 : Value) (u201 : Value) (u202 : Value) (u203 : Value) (u204 : Value) (u205 : Value) (u206 : Value) (u207 : Value) (u208 : Value) (u209 : Value) (u210 : Value) (u211 : Value) (u212 : Value) (u213 : Value) (u214 : Value) (u215 : Value) (u216 : Value) (u217 : Value) (u218 : Value) (u219 : Value) (u220 : Value) (u221 : Value) (u222 : Value) (u223 : Value) (u224 : Value) (u228 : Value) (u229 : Value) (u230 : Value) (u231 : Value) (u232 : Value) (u233 : Value) (u234 : Value) (u238 : Value) (u239 : Value) (u240 : Value) (u241 : Value) (u242 : Value) (u243 : Value) (u244 : Value) (u245 : Value) (u246 : Value) (u247 : Value) (u248 : Value) (u249 : Value) (u250 : Value) (u251 : Value) (u252 : Value) (u253 : Value) (u254 : Value) (u255 : Value) (u256 : Value) (u257 : Value) (u258 : Value) (u259 : Value) (u260 : Value) (u261 : Value) (u262 : Value) (u263 : Value) (u264 : Value) (u265 : Value) (u266 : Value) (u267 : Value) (u268 : Value) (u269 : Value) (u270 : Value) (u271 : Value) (u275 : Value) (u276 : Value) (u277 : Value) (u278 : Value) (u279 : Value) (u280 : Value) (u281 : Value) (u282 : Value) (u283 : Value) (u284 : Value) (u285 : Value) (u286 : Value) (u287 : Value) (u288 : Value) (u289 : Value) (u290 : Value) (u291 : Value) (u292 : Value) (u293 : Value) (u294 : Value) (u295 : Value) (u296 : Value) (u297 : Value) (u298 : Value) (u299 : Value) (K1_ : Act → World → Prop) (a1_ : ∀ (a_ : Act) (w_ : World), Code.wp Try.prog laws_FnArchesPut.part4.rest (bodyPost Try.prog Try.f3 fun e w' => e = Ending.returned (Value.bool r) ∧ Below w.heap.size w w') a_ w_ → K1_ a_ w_) (K2_ : Act → World → Prop) (a2_ : ∀ (a_ : Act) (w_ : World), Code.wp Try.prog laws_FnArchesPut.part4.joint (Exit.then K1_ (bodyPost Try.prog Try.f3 fun e w' => e = Ending.returned (Value.bool r) ∧ Below w.heap.size w w')) a_ w_ → K2_ a_ w_) (hcut : ∃ kq x222_73, u222 = Value.bool x222_73 ∧ Aside0 (j4 kq t392 t395 t396 t403 t411 x222_73 = some r) ∧ Aside0 (kq ≤ kj46) ∧ Aside0 ((Kd.int IntKind.i64).R 3 wc w.heap.size (fun k_ => some k_ ≠ v397.ownBlock ∧ some k_ ≠ v405.ownBlock ∧ some k_ ≠ v413.ownBlock) (Value.slice Ao76 t392.length co76) t392) ∧ Aside0 ((Kd.int IntKind.i64).R 3 wc w.heap.size (fun k_ => some k_ ≠ (Value.slice Ao76 t392.length co76).ownBlock ∧ some k_ ≠ v405.ownBlock ∧ some k_ ≠ v413.ownBlock) v397 t395) ∧ Aside0 ((Kd.int IntKind.i64).R 3 wc w.heap.size (fun k_ => some k_ ≠ (Value.slice Ao76 t392.length co76).ownBlock ∧ some k_ ≠ v397.ownBlock ∧ some k_ ≠ v413.ownBlock) v405 t403) ∧ Aside0 ((Kd.int IntKind.i64).R 3 wc w.heap.size (fun k_ => some k_ ≠ (Value.slice Ao76 t392.length co76).ownBlock ∧ some k_ ≠ v397.ownBlock ∧ some k_ ≠ v405.ownBlock) v413 t411) ∧ Aside0 (Below w.heap.size w wc)) :
    K2_ { tmps := #[Value.slice A0 l0.length c0, Value.slice A1 l1.length c1, undef, undef, u4, Value.slice Ao10 t353.length co10, Value.int IntKind.i64 t354, v359, Value.bool t358, v363, Value.bool t362, u11, u12, Value.slice Ao39 t372.length co39, Value.int IntKind.i64 t373, Value.int IntKind.i64 t374, v379, Value.bool t378, v383, Value.bool t382, u20, u21, Value.slice Ao76 t392.length co76, v397, Value.bool t396, v401, Value.bool t400, v405, Value.bool t404, v409, Value.bool t408, v413, Value.bool t412, v417, Value.bool t416, undef, undef, undef, undef, undef, undef, undef, undef, undef, u44, u45, u46, u47, u48, u49, u50, u51, u52, u53, u54, u55, u56, u57, u58, u59, u60, u61, u62, u63, u64, u65, u66, u67, u68, u69, u70, u71, u72, u73, u74, u75, u76, u77, u78, u79, u80, u81, u82, u83, u84, u85, u86, u87, u88, u89, u90, u91, u92, u93, u94, u95, u96, u97, u98, u99, u100, u101, u102, u103, u104, u105, u106, u107, u108, u109, u110, u111, u112, u113, u114, u115, u116, u117, u118, u119, u120, u121, u122, u123, u124, u125, u126, u127, u128, u129, u130, u131, u132, u133, u134, u135, u136, u137, u138, u139, u140, u141, u142, u143, u144, u145, u146, u147, u148, u149, u150, u151, u152, u153, u154, u155, u156, u157, u158, u159, u160, u161, u162, u163, u164, u165, u166, u167, u168, u169, u170, u171, u172, u173, u174, u175, u176, u177, u178, u179, u180, u181, u182, u183, u184, u185, u186, u187, u188, u189, u190, u191, u192, u193, u194, u195, u196, u197, u198, u199, u200, u201, u202, u203, u204, u205, u206, u207, u208, u209, u210, u211, u212, u213, u214, u215, u216, u217, u218, u219, u220, u221, u222, u223, u224, undef, undef, undef, u228, u229, u230, u231, u232, u233, u234, undef, undef, undef, u238, u239, u240, u241, u242, u243, u244, u245, u246, u247, u248, u249, u250, u251, u252, u253, u254, u255, u256, u257, u258, u259, u260, u261, u262, u263, u264, u265, u266, u267, u268, u269, u270, u271, undef, undef, undef, u275, u276, u277, u278, u279, u280, u281, u282, u283, u284, u285, u286, u287, u288, u289, u290, u291, u292, u293, u294, u295, u296, u297, u298, u299], defers := [] } wc := by
  obtain ⟨c_, hc_⟩ : ∃ c_, c_ = laws_FnArchesPut.part4.rest := ⟨_, rfl⟩
  rw [← hc_] at a1_
  conv at hc_ =>
    rhs
    whnf
  subst hc_
  obtain ⟨c_, hc_⟩ : ∃ c_, c_ = laws_FnArchesPut.part4.joint := ⟨_, rfl⟩
  rw [← hc_] at a2_
  conv at hc_ =>
    rhs
    whnf
  subst hc_
  clear HC74
  try clear c1
  try clear c2
  try clear p2
  try clear c3
  try clear p3
  try clear q3
  try clear hx3
  try clear c4
  try clear c5
  try clear c6
  try clear c7
  try clear c8
  try clear c9
  try clear c10
  try clear c11
  try clear c12
  try clear c13
  try clear c13b0
  try clear c13b1
  try clear c13b2
  try clear c14
  try clear c15
  try clear c16
  try clear c17
  try clear c18
  try clear c19
  try clear c20
  try clear c20b0
  try clear c21
  try clear c21b0
  try clear c23
  try clear c25
  try clear p36
  try clear q36
  try clear hx36
  try clear p39
  try clear q39
  try clear hx39
  try clear c42
  try clear c42b0
  try clear c42b1
  try clear c42b2
  try clear c46
  try clear c48
  try clear c50
  try clear c52
  try clear c53
  try clear c53b0
  try clear c54
  try clear c54b0
  try clear c55
  try clear c55b0
  try clear c55b1
  try clear c83
  try clear c83b0
  try clear c83b1
  try clear c83b2
  try clear c85
  try clear c86
  try clear c86b0
  try clear c86b1
  try clear c86b2
  try clear c90
  try clear c91
  try clear c91b0
  try clear c91b1
  try clear c91b2
  try clear c97
  try clear c99
  try clear c99b0
  try clear c99b1
  try clear c99b2
  try clear c106
  try clear c106b0
  try clear c106b1
  try clear c106b2
  try clear hx366_0
  try clear hx391_0
  try clear p2
  try clear p3
  try clear p36
  try clear p366
  try clear p39
  try clear p391
  try clear q3
  try clear q36
  try clear q366
  try clear q39
  try clear q391
  obtain ⟨kq, x222_73, rfl, HA, HJ73, HO_22, HO_23, HO_27, HO_31, HB⟩ := hcut
  cases kq with
  | zero => exact absurd HA.out (by simp [laws_FnArchesPut.j4])
  | succ kj73 =>
    have H := HA.out
    clear HA
    simp only [laws_FnArchesPut.j4] at H
    by_cases c131 : x222_73 = true
    · subst c131
      have H1 : (some false) = some r := by rw [if_pos rfl] at H; exact H
      rw [hr_] at H1; exact absurd H1 (by decide)
    · replace c131 := Bool.eq_false_iff.mpr c131
      subst c131
      have H1 : (if t396 = true then (laws_FnArchesPut.l0 kj73 t392 t395 t403 t411 0 0 t392 (t392.length : Int) 0) else (some true)) = some r := by rw [if_neg (show ¬ (false = true) by decide)] at H; exact H
      clear H
      have H := H1
      clear H1
      by_cases c132 : t396 = true
      · subst c132
        have H1 : (laws_FnArchesPut.l0 kj73 t392 t395 t403 t411 0 0 t392 (t392.length : Int) 0) = some r := by rw [if_pos rfl] at H; exact H
        clear H
        have H := H1
        clear H1
        have H' := Aside0.mk H
        clear H
        go_wp2
        go_loopg [35, 36, 227] kj73 (fun kq v35 v36 v227 w' => ∃ (x35_6 : Int) (x36_6 : Int) (x227_6 : Int), v35 = .int .i64 x35_6 ∧ v36 = .int .i64 x36_6 ∧ v227 = .int .i64 x227_6 ∧ Aside0 (laws_FnArchesPut.l0 kq t392 t395 t403 t411 x35_6 x36_6 t392 (t392.length : Int) x227_6 = some r) ∧ Aside0 (kq ≤ kj73) ∧ Aside0 (Kd.R (Kd.int .i64) 3 w' w.heap.size (fun k_ => some k_ ≠ (v397 : Value).ownBlock ∧ some k_ ≠ (v405 : Value).ownBlock ∧ some k_ ≠ (v413 : Value).ownBlock) (.slice Ao76 t392.length co76) t392) ∧ Aside0 (Kd.R (Kd.int .i64) 3 w' w.heap.size (fun k_ => some k_ ≠ ((.slice Ao76 t392.length co76) : Value).ownBlock ∧ some k_ ≠ (v405 : Value).ownBlock ∧ some k_ ≠ (v413 : Value).ownBlock ∧ some k_ ≠ ((.slice Ao76 t392.length co76) : Value).ownBlock) v397 t395) ∧ Aside0 (Kd.R (Kd.int .i64) 3 w' w.heap.size (fun k_ => some k_ ≠ ((.slice Ao76 t392.length co76) : Value).ownBlock ∧ some k_ ≠ (v397 : Value).ownBlock ∧ some k_ ≠ (v413 : Value).ownBlock ∧ some k_ ≠ ((.slice Ao76 t392.length co76) : Value).ownBlock) v405 t403) ∧ Aside0 (Kd.R (Kd.int .i64) 3 w' w.heap.size (fun k_ => some k_ ≠ ((.slice Ao76 t392.length co76) : Value).ownBlock ∧ some k_ ≠ (v397 : Value).ownBlock ∧ some k_ ≠ (v405 : Value).ownBlock ∧ some k_ ≠ ((.slice Ao76 t392.length co76) : Value).ownBlock) v413 t411) ∧ Aside0 (Kd.R (Kd.int .i64) 3 w' w.heap.size (fun k_ => some k_ ≠ (v397 : Value).ownBlock ∧ some k_ ≠ (v405 : Value).ownBlock ∧ some k_ ≠ (v413 : Value).ownBlock) (.slice Ao76 t392.length co76) t392) ∧ Aside0 (Below w.heap.size w w'))
        case atStart => exact ⟨(0), (0), (0), (by first | rfl | (simp; done) | (simp [*]; done)), (by first | rfl | (simp; done) | (simp [*]; done)), (by first | rfl | (simp; done) | (simp [*]; done)), H', ⟨Nat.le_refl _⟩, ⟨by (with_reducible repeat (first | apply Kd.R_alloc | apply Kd.R_drewN | apply Kd.R_drew)); exact HO_22.out⟩, ⟨by (with_reducible repeat (first | apply Kd.R_alloc | apply Kd.R_drewN | apply Kd.R_drew)); exact Kd.R_mono HO_23.out (fun _ hk => ⟨hk.1, ⟨hk.2.1, ⟨hk.2.2, hk.1⟩⟩⟩)⟩, ⟨by (with_reducible repeat (first | apply Kd.R_alloc | apply Kd.R_drewN | apply Kd.R_drew)); exact Kd.R_mono HO_27.out (fun _ hk => ⟨hk.1, ⟨hk.2.1, ⟨hk.2.2, hk.1⟩⟩⟩)⟩, ⟨by (with_reducible repeat (first | apply Kd.R_alloc | apply Kd.R_drewN | apply Kd.R_drew)); exact Kd.R_mono HO_31.out (fun _ hk => ⟨hk.1, ⟨hk.2.1, ⟨hk.2.2, hk.1⟩⟩⟩)⟩, ⟨by (with_reducible repeat (first | apply Kd.R_alloc | apply Kd.R_drewN | apply Kd.R_drew)); exact HO_22.out⟩, ⟨by repeat (first | exact HB.out | apply below_alloc | apply pw_below_drewN | apply below_drew1)⟩⟩
        case round =>
          clear H'
          try clear c1
          try clear c2
          try clear p2
          try clear c3
          try clear p3
          try clear q3
          try clear hx3
          try clear c4
          try clear c5
          try clear c6
          try clear c7
          try clear c8
          try clear c9
          try clear c10
          try clear c11
          try clear c12
          try clear c13
          try clear c13b0
          try clear c13b1
          try clear c13b2
          try clear c14
          try clear c15
          try clear c16
          try clear c17
          try clear c18
          try clear c19
          try clear c20
          try clear c20b0
          try clear c21
          try clear c21b0
          try clear c23
          try clear c25
          try clear p36
          try clear q36
          try clear hx36
          try clear p39
          try clear q39
          try clear hx39
          try clear c42
          try clear c42b0
          try clear c42b1
          try clear c42b2
          try clear c46
          try clear c48
          try clear c50
          try clear c52
          try clear c53
          try clear c53b0
          try clear c54
          try clear c54b0
          try clear c55
          try clear c55b0
          try clear c55b1
          try clear c83
          try clear c83b0
          try clear c83b1
          try clear c83b2
          try clear c85
          try clear c86
          try clear c86b0
          try clear c86b1
          try clear c86b2
          try clear c90
          try clear c91
          try clear c91b0
          try clear c91b1
          try clear c91b2
          try clear c97
          try clear c99
          try clear c99b0
          try clear c99b1
          try clear c99b2
          try clear c106
          try clear c106b0
          try clear c106b1
          try clear c106b2
          try clear c131
          try clear c132
          try clear hx366_0
          try clear hx391_0
          try clear p2
          try clear p3
          try clear p36
          try clear p366
          try clear p39
          try clear p391
          try clear q3
          try clear q36
          try clear q366
          try clear q39
          try clear q391
          obtain ⟨x35_6, x36_6, x227_6, rfl, rfl, rfl, HA, HK6, HO_22, HO_23, HO_27, HO_31, HO_225, HB⟩ := hrel
          cases gk with
          | zero => exact absurd HA.out (by simp [laws_FnArchesPut.l0])
          | succ k6 =>
            have H := HA.out
            clear HA
            simp only [laws_FnArchesPut.l0] at H
            by_cases c133 : x227_6 < (t392.length : Int)
            · rw [if_pos c133] at H
              have c133b0 : decide (x227_6 < (t392.length : Int)) = true := decide_eq_true c133
              clear c133
              by_cases c134 : 0 ≤ x227_6
              · rw [if_pos c134] at H
                have c134b0 : decide (0 ≤ x227_6) = true := decide_eq_true c134
                clear c134
                by_cases c135 : x227_6 < (t392.length : Int)
                · rw [if_pos c135] at H
                  have c135b0 : decide (x227_6 < (t392.length : Int)) = true := decide_eq_true c135
                  clear c135
                  by_cases c136 : (rd t392 x227_6) < x227_6
                  · rw [if_pos c136] at H
                    have c136b0 : decide ((rd t392 x227_6) < x227_6) = true := decide_eq_true c136
                    clear c136
                    have H' := Aside0.mk H
                    clear H
                    have p423 : 0 ≤ (x227_6 : Int) := of_decide_eq_true (by first | (with_reducible assumption) | assumption)
                    have q423 : x227_6 < (t392.length : Int) := of_decide_eq_true (by first | (with_reducible assumption) | assumption)
                    obtain ⟨ad423, e423, hx423_0⟩ := Kd.at_int (Kd.R_reads' HO_225.out).2.2 x227_6 p423 q423
                    cases e423
                    replace p423 := eq_true p423
                    replace q423 := eq_true q423
                    go_wp2
                    go_roundg k6
                    case measure => have := HJ7.out; have := HJ17.out; have := HJ36.out; have := HJ46.out; have := HJ73.out; have := HK6.out; omega
                    case rel => exact ⟨(x35_6), (x36_6), (wrap64 (x227_6 + 1)), (by first | rfl | (simp; done) | (simp [*]; done)), (by first | rfl | (simp; done) | (simp [*]; done)), (by first | rfl | (simp; done) | (simp [*]; done)), H', ⟨by have := HJ7.out; have := HJ17.out; have := HJ36.out; have := HJ46.out; have := HJ73.out; have := HK6.out; omega⟩, ⟨by (with_reducible repeat (first | apply Kd.R_alloc | apply Kd.R_drewN | apply Kd.R_drew)); exact HO_22.out⟩, ⟨by (with_reducible repeat (first | apply Kd.R_alloc | apply Kd.R_drewN | apply Kd.R_drew)); exact HO_23.out⟩, ⟨by (with_reducible repeat (first | apply Kd.R_alloc | apply Kd.R_drewN | apply Kd.R_drew)); exact HO_27.out⟩, ⟨by (with_reducible repeat (first | apply Kd.R_alloc | apply Kd.R_drewN | apply Kd.R_drew)); exact HO_31.out⟩, ⟨by (with_reducible repeat (first | apply Kd.R_alloc | apply Kd.R_drewN | apply Kd.R_drew)); exact HO_225.out⟩, ⟨by repeat (first | exact HB.out | apply below_alloc | apply pw_below_drewN | apply below_drew1)⟩⟩
                  · rw [if_neg c136] at H
                    have c136b0 : decide ((rd t392 x227_6) < x227_6) = false := decide_eq_false c136
                    clear c136
                    have H' := Aside0.mk H
                    clear H
                    have p423 : 0 ≤ (x227_6 : Int) := of_decide_eq_true (by first | (with_reducible assumption) | assumption)
                    have q423 : x227_6 < (t392.length : Int) := of_decide_eq_true (by first | (with_reducible assumption) | assumption)
                    obtain ⟨ad423, e423, hx423_0⟩ := Kd.at_int (Kd.R_reads' HO_225.out).2.2 x227_6 p423 q423
                    cases e423
                    replace p423 := eq_true p423
                    replace q423 := eq_true q423
                    go_wp2
                    go_loopg [39, 237] k6 (fun kq v39 v237 w' => ∃ (x39_7 : Int) (x237_7 : Int), v39 = .int .i64 x39_7 ∧ v237 = .int .i64 x237_7 ∧ Aside0 (laws_FnArchesPut.l1 kq t392 t395 t403 t411 x35_6 x36_6 x227_6 (rd t392 x227_6) x39_7 t392 (t392.length : Int) x227_6 t392 (t392.length : Int) x237_7 = some r) ∧ Aside0 (kq ≤ k6) ∧ Aside0 (Kd.R (Kd.int .i64) 3 w' w.heap.size (fun k_ => some k_ ≠ (v397 : Value).ownBlock ∧ some k_ ≠ (v405 : Value).ownBlock ∧ some k_ ≠ (v413 : Value).ownBlock) (.slice (some ad423) t392.length co76) t392) ∧ Aside0 (Kd.R (Kd.int .i64) 3 w' w.heap.size (fun k_ => some k_ ≠ ((.slice (some ad423) t392.length co76) : Value).ownBlock ∧ some k_ ≠ (v405 : Value).ownBlock ∧ some k_ ≠ (v413 : Value).ownBlock ∧ some k_ ≠ ((.slice (some ad423) t392.length co76) : Value).ownBlock ∧ some k_ ≠ ((.slice (some ad423) t392.length co76) : Value).ownBlock) v397 t395) ∧ Aside0 (Kd.R (Kd.int .i64) 3 w' w.heap.size (fun k_ => some k_ ≠ ((.slice (some ad423) t392.length co76) : Value).ownBlock ∧ some k_ ≠ (v397 : Value).ownBlock ∧ some k_ ≠ (v413 : Value).ownBlock ∧ some k_ ≠ ((.slice (some ad423) t392.length co76) : Value).ownBlock ∧ some k_ ≠ ((.slice (some ad423) t392.length co76) : Value).ownBlock) v405 t403) ∧ Aside0 (Kd.R (Kd.int .i64) 3 w' w.heap.size (fun k_ => some k_ ≠ ((.slice (some ad423) t392.length co76) : Value).ownBlock ∧ some k_ ≠ (v397 : Value).ownBlock ∧ some k_ ≠ (v405 : Value).ownBlock ∧ some k_ ≠ ((.slice (some ad423) t392.length co76) : Value).ownBlock ∧ some k_ ≠ ((.slice (some ad423) t392.length co76) : Value).ownBlock) v413 t411) ∧ Aside0 (Kd.R (Kd.int .i64) 3 w' w.heap.size (fun k_ => some k_ ≠ (v397 : Value).ownBlock ∧ some k_ ≠ (v405 : Value).ownBlock ∧ some k_ ≠ (v413 : Value).ownBlock) (.slice (some ad423) t392.length co76) t392) ∧ Aside0 (Kd.R (Kd.int .i64) 3 w' w.heap.size (fun k_ => some k_ ≠ (v397 : Value).ownBlock ∧ some k_ ≠ (v405 : Value).ownBlock ∧ some k_ ≠ (v413 : Value).ownBlock) (.slice (some ad423) t392.length co76) t392) ∧ Aside0 (Below w.heap.size w w'))
                    case atStart => exact ⟨(0), (0), (by first | rfl | (simp; done) | (simp [*]; done)), (by first | rfl | (simp; done) | (simp [*]; done)), H', ⟨Nat.le_refl _⟩, ⟨by (with_reducible repeat (first | apply Kd.R_alloc | apply Kd.R_drewN | apply Kd.R_drew)); exact HO_22.out⟩, ⟨by (with_reducible repeat (first | apply Kd.R_alloc | apply Kd.R_drewN | apply Kd.R_drew)); exact Kd.R_mono HO_23.out (fun _ hk => ⟨hk.1, ⟨hk.2.1, ⟨hk.2.2.1, ⟨hk.2.2.2, hk.1⟩⟩⟩⟩)⟩, ⟨by (with_reducible repeat (first | apply Kd.R_alloc | apply Kd.R_drewN | apply Kd.R_drew)); exact Kd.R_mono HO_27.out (fun _ hk => ⟨hk.1, ⟨hk.2.1, ⟨hk.2.2.1, ⟨hk.2.2.2, hk.1⟩⟩⟩⟩)⟩, ⟨by (with_reducible repeat (first | apply Kd.R_alloc | apply Kd.R_drewN | apply Kd.R_drew)); exact Kd.R_mono HO_31.out (fun _ hk => ⟨hk.1, ⟨hk.2.1, ⟨hk.2.2.1, ⟨hk.2.2.2, hk.1⟩⟩⟩⟩)⟩, ⟨by (with_reducible repeat (first | apply Kd.R_alloc | apply Kd.R_drewN | apply Kd.R_drew)); exact HO_225.out⟩, ⟨by (with_reducible repeat (first | apply Kd.R_alloc | apply Kd.R_drewN | apply Kd.R_drew)); exact HO_22.out⟩, ⟨by repeat (first | exact HB.out | apply below_alloc | apply pw_below_drewN | apply below_drew1)⟩⟩
                    case round =>
                      clear H'
                      try clear c1
                      try clear c2
                      try clear p2
                      try clear c3
                      try clear p3
                      try clear q3
                      try clear hx3
                      try clear c4
                      try clear p4
                      try clear q4
                      try clear hx4
                      try clear c5
                      try clear c6
                      try clear p6
                      try clear c7
                      try clear c8
                      try clear c9
                      try clear c10
                      try clear c11
                      try clear c12
                      try clear c13
                      try clear c13b0
                      try clear c13b1
                      try clear c13b2
                      try clear c14
                      try clear c15
                      try clear c16
                      try clear c17
                      try clear c18
                      try clear c19
                      try clear c20
                      try clear c20b0
                      try clear c21
                      try clear c21b0
                      try clear c23
                      try clear c25
                      try clear p36
                      try clear q36
                      try clear hx36
                      try clear p39
                      try clear q39
                      try clear hx39
                      try clear c42
                      try clear c42b0
                      try clear c42b1
                      try clear c42b2
                      try clear p42
                      try clear q42
                      try clear hx42
                      try clear c46
                      try clear c48
                      try clear c50
                      try clear c52
                      try clear c53
                      try clear c53b0
                      try clear c54
                      try clear c54b0
                      try clear c55
                      try clear c55b0
                      try clear c55b1
                      try clear p64
                      try clear c83
                      try clear c83b0
                      try clear c83b1
                      try clear c83b2
                      try clear c85
                      try clear c86
                      try clear c86b0
                      try clear c86b1
                      try clear c86b2
                      try clear c90
                      try clear c91
                      try clear c91b0
                      try clear c91b1
                      try clear c91b2
                      try clear c97
                      try clear c99
                      try clear c99b0
                      try clear c99b1
                      try clear c99b2
                      try clear c106
                      try clear c106b0
                      try clear c106b1
                      try clear c106b2
                      try clear c131
                      try clear c132
                      try clear c133
                      try clear c133b0
                      try clear c134
                      try clear c134b0
                      try clear c135
                      try clear c135b0
                      try clear c136
                      try clear c136b0
                      try clear hx366_0
                      try clear hx391_0
                      try clear hx423_0
                      try clear p2
                      try clear p3
                      try clear p36
                      try clear p366
                      try clear p39
                      try clear p391
                      try clear p423
                      try clear q3
                      try clear q36
                      try clear q366
                      try clear q39
                      try clear q391
                      try clear q423
                      obtain ⟨x39_7, x237_7, rfl, rfl, HA, HK7, HO_22, HO_23, HO_27, HO_31, HO_225, HO_235, HB⟩ := hrel
                      cases gk with
                      | zero => exact absurd HA.out (by simp [laws_FnArchesPut.l1])
                      | succ k7 =>
                        have H := HA.out
                        clear HA
                        simp only [laws_FnArchesPut.l1] at H
                        by_cases c137 : x237_7 < (t392.length : Int)
                        · rw [if_pos c137] at H
                          have c137b0 : decide (x237_7 < (t392.length : Int)) = true := decide_eq_true c137
                          clear c137
                          by_cases c138 : 0 ≤ x237_7
                          · rw [if_pos c138] at H
                            have c138b0 : decide (0 ≤ x237_7) = true := decide_eq_true c138
                            clear c138
                            by_cases c139 : x237_7 < (t392.length : Int)
                            · rw [if_pos c139] at H
                              have c139b0 : decide (x237_7 < (t392.length : Int)) = true := decide_eq_true c139
                              clear c139
                              by_cases c140 : x237_7 < x227_6
                              · rw [if_pos c140] at H
                                have c140b0 : decide (x237_7 < x227_6) = true := decide_eq_true c140
                                clear c140
                                by_cases c141 : (rd t392 x237_7) > (rd t392 x227_6)
                                · rw [if_pos c141] at H
                                  have c141b0 : decide ((rd t392 x227_6) < (rd t392 x237_7)) = true := decide_eq_true c141
                                  clear c141
                                  have H' := Aside0.mk H
                                  clear H
                                  have p424 : 0 ≤ (x237_7 : Int) := of_decide_eq_true (by first | (with_reducible assumption) | assumption)
                                  have q424 : x237_7 < (t392.length : Int) := of_decide_eq_true (by first | (with_reducible assumption) | assumption)
                                  obtain ⟨ad424, e424, hx424_0⟩ := Kd.at_int (Kd.R_reads' HO_235.out).2.2 x237_7 p424 q424
                                  obtain rfl : ad423 = ad424 := (by injection e424)
                                  replace p424 := eq_true p424
                                  replace q424 := eq_true q424
                                  go_wp2
                                  go_roundg k7
                                  case measure => have := HJ7.out; have := HJ17.out; have := HJ36.out; have := HJ46.out; have := HJ73.out; have := HK6.out; have := HK7.out; omega
                                  case rel => exact ⟨(wrap64 (x39_7 + 1)), (wrap64 (x237_7 + 1)), (by first | rfl | (simp; done) | (simp [*]; done)), (by first | rfl | (simp; done) | (simp [*]; done)), H', ⟨by have := HJ7.out; have := HJ17.out; have := HJ36.out; have := HJ46.out; have := HJ73.out; have := HK6.out; have := HK7.out; omega⟩, ⟨by (with_reducible repeat (first | apply Kd.R_alloc | apply Kd.R_drewN | apply Kd.R_drew)); exact HO_22.out⟩, ⟨by (with_reducible repeat (first | apply Kd.R_alloc | apply Kd.R_drewN | apply Kd.R_drew)); exact HO_23.out⟩, ⟨by (with_reducible repeat (first | apply Kd.R_alloc | apply Kd.R_drewN | apply Kd.R_drew)); exact HO_27.out⟩, ⟨by (with_reducible repeat (first | apply Kd.R_alloc | apply Kd.R_drewN | apply Kd.R_drew)); exact HO_31.out⟩, ⟨by (with_reducible repeat (first | apply Kd.R_alloc | apply Kd.R_drewN | apply Kd.R_drew)); exact HO_225.out⟩, ⟨by (with_reducible repeat (first | apply Kd.R_alloc | apply Kd.R_drewN | apply Kd.R_drew)); exact HO_235.out⟩, ⟨by repeat (first | exact HB.out | apply below_alloc | apply pw_below_drewN | apply below_drew1)⟩⟩
                                · rw [if_neg c141] at H
                                  have c141b0 : decide ((rd t392 x227_6) < (rd t392 x237_7)) = false := decide_eq_false c141
                                  clear c141
                                  have H' := Aside0.mk H
                                  clear H
                                  have p424 : 0 ≤ (x237_7 : Int) := of_decide_eq_true (by first | (with_reducible assumption) | assumption)
                                  have q424 : x237_7 < (t392.length : Int) := of_decide_eq_true (by first | (with_reducible assumption) | assumption)
                                  obtain ⟨ad424, e424, hx424_0⟩ := Kd.at_int (Kd.R_reads' HO_235.out).2.2 x237_7 p424 q424
                                  obtain rfl : ad423 = ad424 := (by injection e424)
                                  replace p424 := eq_true p424
                                  replace q424 := eq_true q424
                                  go_wp2
                                  go_roundg k7
                                  case measure => have := HJ7.out; have := HJ17.out; have := HJ36.out; have := HJ46.out; have := HJ73.out; have := HK6.out; have := HK7.out; omega
                                  case rel => exact ⟨(x39_7), (wrap64 (x237_7 + 1)), (by first | rfl | (simp; done) | (simp [*]; done)), (by first | rfl | (simp; done) | (simp [*]; done)), H', ⟨by have := HJ7.out; have := HJ17.out; have := HJ36.out; have := HJ46.out; have := HJ73.out; have := HK6.out; have := HK7.out; omega⟩, ⟨by (with_reducible repeat (first | apply Kd.R_alloc | apply Kd.R_drewN | apply Kd.R_drew)); exact HO_22.out⟩, ⟨by (with_reducible repeat (first | apply Kd.R_alloc | apply Kd.R_drewN | apply Kd.R_drew)); exact HO_23.out⟩, ⟨by (with_reducible repeat (first | apply Kd.R_alloc | apply Kd.R_drewN | apply Kd.R_drew)); exact HO_27.out⟩, ⟨by (with_reducible repeat (first | apply Kd.R_alloc | apply Kd.R_drewN | apply Kd.R_drew)); exact HO_31.out⟩, ⟨by (with_reducible repeat (first | apply Kd.R_alloc | apply Kd.R_drewN | apply Kd.R_drew)); exact HO_225.out⟩, ⟨by (with_reducible repeat (first | apply Kd.R_alloc | apply Kd.R_drewN | apply Kd.R_drew)); exact HO_235.out⟩, ⟨by repeat (first | exact HB.out | apply below_alloc | apply pw_below_drewN | apply below_drew1)⟩⟩
                              · rw [if_neg c140] at H
                                have c140b0 : decide (x237_7 < x227_6) = false := decide_eq_false c140
                                clear c140
                                have H' := Aside0.mk H
                                clear H
                                have p424 : 0 ≤ (x237_7 : Int) := of_decide_eq_true (by first | (with_reducible assumption) | assumption)
                                have q424 : x237_7 < (t392.length : Int) := of_decide_eq_true (by first | (with_reducible assumption) | assumption)
                                obtain ⟨ad424, e424, hx424_0⟩ := Kd.at_int (Kd.R_reads' HO_235.out).2.2 x237_7 p424 q424
                                obtain rfl : ad423 = ad424 := (by injection e424)
                                replace p424 := eq_true p424
                                replace q424 := eq_true q424
                                go_wp2
                                go_roundg k7
                                case measure => have := HJ7.out; have := HJ17.out; have := HJ36.out; have := HJ46.out; have := HJ73.out; have := HK6.out; have := HK7.out; omega
                                case rel => exact ⟨(x39_7), (wrap64 (x237_7 + 1)), (by first | rfl | (simp; done) | (simp [*]; done)), (by first | rfl | (simp; done) | (simp [*]; done)), H', ⟨by have := HJ7.out; have := HJ17.out; have := HJ36.out; have := HJ46.out; have := HJ73.out; have := HK6.out; have := HK7.out; omega⟩, ⟨by (with_reducible repeat (first | apply Kd.R_alloc | apply Kd.R_drewN | apply Kd.R_drew)); exact HO_22.out⟩, ⟨by (with_reducible repeat (first | apply Kd.R_alloc | apply Kd.R_drewN | apply Kd.R_drew)); exact HO_23.out⟩, ⟨by (with_reducible repeat (first | apply Kd.R_alloc | apply Kd.R_drewN | apply Kd.R_drew)); exact HO_27.out⟩, ⟨by (with_reducible repeat (first | apply Kd.R_alloc | apply Kd.R_drewN | apply Kd.R_drew)); exact HO_31.out⟩, ⟨by (with_reducible repeat (first | apply Kd.R_alloc | apply Kd.R_drewN | apply Kd.R_drew)); exact HO_225.out⟩, ⟨by (with_reducible repeat (first | apply Kd.R_alloc | apply Kd.R_drewN | apply Kd.R_drew)); exact HO_235.out⟩, ⟨by repeat (first | exact HB.out | apply below_alloc | apply pw_below_drewN | apply below_drew1)⟩⟩
                            · rw [if_neg c139] at H
                              exact absurd H (by simp)
                          · rw [if_neg c138] at H
                            exact absurd H (by simp)
                        · rw [if_neg c137] at H
                          have c137b0 : decide (x237_7 < (t392.length : Int)) = false := decide_eq_false c137
                          clear c137
                          by_cases c142 : 0 ≤ x36_6
                          · rw [if_pos c142] at H
                            have c142b0 : decide (0 ≤ x36_6) = true := decide_eq_true c142
                            clear c142
                            by_cases c143 : x36_6 < (t395.length : Int)
                            · rw [if_pos c143] at H
                              have c143b0 : decide (x36_6 < (t395.length : Int)) = true := decide_eq_true c143
                              clear c143
                              by_cases c144 : (rd t395 x36_6) = x39_7
                              · rw [if_pos c144] at H
                                have c144b0 : ((rd t395 x36_6) == x39_7) = true := beq_iff_eq.mpr c144
                                have c144b1 : ((rd t395 x36_6) != x39_7) = false := bne_eq_false_iff_eq.mpr c144
                                clear c144
                                by_cases c145 : x39_7 = 0
                                · rw [if_pos c145] at H
                                  have c145b0 : (x39_7 == 0) = true := beq_iff_eq.mpr c145
                                  have c145b1 : (x39_7 != 0) = false := bne_eq_false_iff_eq.mpr c145
                                  clear c145
                                  by_cases c146 : 0 ≤ x35_6
                                  · rw [if_pos c146] at H
                                    have c146b0 : decide (0 ≤ x35_6) = true := decide_eq_true c146
                                    clear c146
                                    by_cases c147 : x35_6 < (t403.length : Int)
                                    · rw [if_pos c147] at H
                                      have c147b0 : decide (x35_6 < (t403.length : Int)) = true := decide_eq_true c147
                                      clear c147
                                      by_cases c148 : (rd t403 x35_6) = x227_6
                                      · rw [if_pos c148] at H
                                        have c148b0 : ((rd t403 x35_6) == x227_6) = true := beq_iff_eq.mpr c148
                                        have c148b1 : ((rd t403 x35_6) != x227_6) = false := bne_eq_false_iff_eq.mpr c148
                                        clear c148
                                        have H' := Aside0.mk H
                                        clear H
                                        obtain ⟨Ao149, co149, eo149⟩ := Kd.R_slice HO_23.out
                                        subst eo149
                                        have p425 : 0 ≤ (x36_6 : Int) := of_decide_eq_true (by first | (with_reducible assumption) | assumption)
                                        have q425 : x36_6 < (t395.length : Int) := of_decide_eq_true (by first | (with_reducible assumption) | assumption)
                                        obtain ⟨ad425, e425, hx425_0⟩ := Kd.at_int (Kd.R_reads' HO_23.out).2.2 x36_6 p425 q425
                                        cases e425
                                        replace p425 := eq_true p425
                                        replace q425 := eq_true q425
                                        obtain ⟨Ao150, co150, eo150⟩ := Kd.R_slice HO_27.out
                                        subst eo150
                                        have p426 : 0 ≤ (x35_6 : Int) := of_decide_eq_true (by first | (with_reducible assumption) | assumption)
                                        have q426 : x35_6 < (t403.length : Int) := of_decide_eq_true (by first | (with_reducible assumption) | assumption)
                                        obtain ⟨ad426, e426, hx426_0⟩ := Kd.at_int (Kd.R_reads' HO_27.out).2.2 x35_6 p426 q426
                                        cases e426
                                        replace p426 := eq_true p426
                                        replace q426 := eq_true q426
                                        go_wp2
                                        go_roundg k7
                                        case measure => have := HJ7.out; have := HJ17.out; have := HJ36.out; have := HJ46.out; have := HJ73.out; have := HK6.out; have := HK7.out; omega
                                        case rel => exact ⟨(wrap64 (x35_6 + 1)), (wrap64 (x36_6 + 1)), (wrap64 (x227_6 + 1)), (by first | rfl | (simp; done) | (simp [*]; done)), (by first | rfl | (simp; done) | (simp [*]; done)), (by first | rfl | (simp; done) | (simp [*]; done)), H', ⟨by have := HJ7.out; have := HJ17.out; have := HJ36.out; have := HJ46.out; have := HJ73.out; have := HK6.out; have := HK7.out; omega⟩, ⟨by (with_reducible repeat (first | apply Kd.R_alloc | apply Kd.R_drewN | apply Kd.R_drew)); exact HO_22.out⟩, ⟨by (with_reducible repeat (first | apply Kd.R_alloc | apply Kd.R_drewN | apply Kd.R_drew)); exact Kd.R_mono HO_23.out (fun _ hk => ⟨hk.1, ⟨hk.2.1, ⟨hk.2.2.1, hk.2.2.2.1⟩⟩⟩)⟩, ⟨by (with_reducible repeat (first | apply Kd.R_alloc | apply Kd.R_drewN | apply Kd.R_drew)); exact Kd.R_mono HO_27.out (fun _ hk => ⟨hk.1, ⟨hk.2.1, ⟨hk.2.2.1, hk.2.2.2.1⟩⟩⟩)⟩, ⟨by (with_reducible repeat (first | apply Kd.R_alloc | apply Kd.R_drewN | apply Kd.R_drew)); exact Kd.R_mono HO_31.out (fun _ hk => ⟨hk.1, ⟨hk.2.1, ⟨hk.2.2.1, hk.2.2.2.1⟩⟩⟩)⟩, ⟨by (with_reducible repeat (first | apply Kd.R_alloc | apply Kd.R_drewN | apply Kd.R_drew)); exact HO_225.out⟩, ⟨by repeat (first | exact HB.out | apply below_alloc | apply pw_below_drewN | apply below_drew1)⟩⟩
                                      · rw [if_neg c148] at H
                                        have c148b0 : ((rd t403 x35_6) == x227_6) = false := beq_eq_false_iff_ne.mpr c148
                                        have c148b1 : ((rd t403 x35_6) != x227_6) = true := bne_iff_ne.mpr c148
                                        have hrr_ := Option.some.inj H
                                        rw [hr_] at hrr_
                                        first
                                          | exact absurd hrr_ (by decide)
                                          | (clear hrr_
                                             obtain rfl := Option.some.inj H
                                             obtain ⟨Ao151, co151, eo151⟩ := Kd.R_slice HO_23.out
                                             subst eo151
                                             have p425 : 0 ≤ (x36_6 : Int) := of_decide_eq_true (by first | (with_reducible assumption) | assumption)
                                             have q425 : x36_6 < (t395.length : Int) := of_decide_eq_true (by first | (with_reducible assumption) | assumption)
                                             obtain ⟨ad425, e425, hx425_0⟩ := Kd.at_int (Kd.R_reads' HO_23.out).2.2 x36_6 p425 q425
                                             cases e425
                                             replace p425 := eq_true p425
                                             replace q425 := eq_true q425
                                             obtain ⟨Ao152, co152, eo152⟩ := Kd.R_slice HO_27.out
                                             subst eo152
                                             have p426 : 0 ≤ (x35_6 : Int) := of_decide_eq_true (by first | (with_reducible assumption) | assumption)
                                             have q426 : x35_6 < (t403.length : Int) := of_decide_eq_true (by first | (with_reducible assumption) | assumption)
                                             obtain ⟨ad426, e426, hx426_0⟩ := Kd.at_int (Kd.R_reads' HO_27.out).2.2 x35_6 p426 q426
                                             cases e426
                                             replace p426 := eq_true p426
                                             replace q426 := eq_true q426
                                             go_wp2
                                             go_ret
                                             exact ⟨by first | rfl | (simp [errW_none, errW_some] <;> rfl) | (simp [*, errW_none, errW_some] <;> rfl), by repeat (first | exact HB.out | apply below_alloc | apply pw_below_drewN | apply below_drew1)⟩)
                                    · rw [if_neg c147] at H
                                      exact absurd H (by simp)
                                  · rw [if_neg c146] at H
                                    exact absurd H (by simp)
                                · rw [if_neg c145] at H
                                  have c145b0 : (x39_7 == 0) = false := beq_eq_false_iff_ne.mpr c145
                                  have c145b1 : (x39_7 != 0) = true := bne_iff_ne.mpr c145
                                  have H' := Aside0.mk H
                                  clear H
                                  obtain ⟨Ao153, co153, eo153⟩ := Kd.R_slice HO_23.out
                                  subst eo153
                                  have p425 : 0 ≤ (x36_6 : Int) := of_decide_eq_true (by first | (with_reducible assumption) | assumption)
                                  have q425 : x36_6 < (t395.length : Int) := of_decide_eq_true (by first | (with_reducible assumption) | assumption)
                                  obtain ⟨ad425, e425, hx425_0⟩ := Kd.at_int (Kd.R_reads' HO_23.out).2.2 x36_6 p425 q425
                                  cases e425
                                  replace p425 := eq_true p425
                                  replace q425 := eq_true q425
                                  go_wp2
                                  go_roundg k7
                                  case measure => have := HJ7.out; have := HJ17.out; have := HJ36.out; have := HJ46.out; have := HJ73.out; have := HK6.out; have := HK7.out; omega
                                  case rel => exact ⟨(x35_6), (wrap64 (x36_6 + 1)), (wrap64 (x227_6 + 1)), (by first | rfl | (simp; done) | (simp [*]; done)), (by first | rfl | (simp; done) | (simp [*]; done)), (by first | rfl | (simp; done) | (simp [*]; done)), H', ⟨by have := HJ7.out; have := HJ17.out; have := HJ36.out; have := HJ46.out; have := HJ73.out; have := HK6.out; have := HK7.out; omega⟩, ⟨by (with_reducible repeat (first | apply Kd.R_alloc | apply Kd.R_drewN | apply Kd.R_drew)); exact HO_22.out⟩, ⟨by (with_reducible repeat (first | apply Kd.R_alloc | apply Kd.R_drewN | apply Kd.R_drew)); exact Kd.R_mono HO_23.out (fun _ hk => ⟨hk.1, ⟨hk.2.1, ⟨hk.2.2.1, hk.2.2.2.1⟩⟩⟩)⟩, ⟨by (with_reducible repeat (first | apply Kd.R_alloc | apply Kd.R_drewN | apply Kd.R_drew)); exact Kd.R_mono HO_27.out (fun _ hk => ⟨hk.1, ⟨hk.2.1, ⟨hk.2.2.1, hk.2.2.2.1⟩⟩⟩)⟩, ⟨by (with_reducible repeat (first | apply Kd.R_alloc | apply Kd.R_drewN | apply Kd.R_drew)); exact Kd.R_mono HO_31.out (fun _ hk => ⟨hk.1, ⟨hk.2.1, ⟨hk.2.2.1, hk.2.2.2.1⟩⟩⟩)⟩, ⟨by (with_reducible repeat (first | apply Kd.R_alloc | apply Kd.R_drewN | apply Kd.R_drew)); exact HO_225.out⟩, ⟨by repeat (first | exact HB.out | apply below_alloc | apply pw_below_drewN | apply below_drew1)⟩⟩
                              · rw [if_neg c144] at H
                                have c144b0 : ((rd t395 x36_6) == x39_7) = false := beq_eq_false_iff_ne.mpr c144
                                have c144b1 : ((rd t395 x36_6) != x39_7) = true := bne_iff_ne.mpr c144
                                have hrr_ := Option.some.inj H
                                rw [hr_] at hrr_
                                first
                                  | exact absurd hrr_ (by decide)
                                  | (clear hrr_
                                     obtain rfl := Option.some.inj H
                                     obtain ⟨Ao154, co154, eo154⟩ := Kd.R_slice HO_23.out
                                     subst eo154
                                     have p425 : 0 ≤ (x36_6 : Int) := of_decide_eq_true (by first | (with_reducible assumption) | assumption)
                                     have q425 : x36_6 < (t395.length : Int) := of_decide_eq_true (by first | (with_reducible assumption) | assumption)
                                     obtain ⟨ad425, e425, hx425_0⟩ := Kd.at_int (Kd.R_reads' HO_23.out).2.2 x36_6 p425 q425
                                     cases e425
                                     replace p425 := eq_true p425
                                     replace q425 := eq_true q425
                                     go_wp2
                                     go_ret
                                     exact ⟨by first | rfl | (simp [errW_none, errW_some] <;> rfl) | (simp [*, errW_none, errW_some] <;> rfl), by repeat (first | exact HB.out | apply below_alloc | apply pw_below_drewN | apply below_drew1)⟩)
                            · rw [if_neg c143] at H
                              exact absurd H (by simp)
                          · rw [if_neg c142] at H
                            exact absurd H (by simp)
                · rw [if_neg c135] at H
                  exact absurd H (by simp)
              · rw [if_neg c134] at H
                exact absurd H (by simp)
            · rw [if_neg c133] at H
              have c133b0 : decide (x227_6 < (t392.length : Int)) = false := decide_eq_false c133
              clear c133
              have H' := Aside0.mk H
              clear H
              obtain ⟨Ao155, co155, eo155⟩ := Kd.R_slice HO_31.out
              subst eo155
              go_wp2
              go_loopg [274] k6 (fun kq v274 w' => ∃ (x274_7 : Int), v274 = .int .i64 x274_7 ∧ Aside0 (laws_FnArchesPut.l2 kq t392 t403 t411 x35_6 t411 (t411.length : Int) x274_7 = some r) ∧ Aside0 (kq ≤ k6) ∧ Aside0 (Kd.R (Kd.int .i64) 3 w' w.heap.size (fun k_ => some k_ ≠ (v405 : Value).ownBlock ∧ some k_ ≠ ((.slice Ao155 t411.length co155) : Value).ownBlock ∧ some k_ ≠ ((.slice Ao155 t411.length co155) : Value).ownBlock) (.slice Ao76 t392.length co76) t392) ∧ Aside0 (Kd.R (Kd.int .i64) 3 w' w.heap.size (fun k_ => some k_ ≠ ((.slice Ao76 t392.length co76) : Value).ownBlock ∧ some k_ ≠ ((.slice Ao155 t411.length co155) : Value).ownBlock ∧ some k_ ≠ ((.slice Ao155 t411.length co155) : Value).ownBlock) v405 t403) ∧ Aside0 (Kd.R (Kd.int .i64) 3 w' w.heap.size (fun k_ => some k_ ≠ ((.slice Ao76 t392.length co76) : Value).ownBlock ∧ some k_ ≠ (v405 : Value).ownBlock) (.slice Ao155 t411.length co155) t411) ∧ Aside0 (Kd.R (Kd.int .i64) 3 w' w.heap.size (fun k_ => some k_ ≠ ((.slice Ao76 t392.length co76) : Value).ownBlock ∧ some k_ ≠ (v405 : Value).ownBlock) (.slice Ao155 t411.length co155) t411) ∧ Aside0 (Below w.heap.size w w'))
              case atStart => exact ⟨(0), (by first | rfl | (simp; done) | (simp [*]; done)), H', ⟨Nat.le_refl _⟩, ⟨by (with_reducible repeat (first | apply Kd.R_alloc | apply Kd.R_drewN | apply Kd.R_drew)); exact Kd.R_mono HO_22.out (fun _ hk => ⟨hk.2.1, ⟨hk.2.2, hk.2.2⟩⟩)⟩, ⟨by (with_reducible repeat (first | apply Kd.R_alloc | apply Kd.R_drewN | apply Kd.R_drew)); exact Kd.R_mono HO_27.out (fun _ hk => ⟨hk.1, ⟨hk.2.2.1, hk.2.2.1⟩⟩)⟩, ⟨by (with_reducible repeat (first | apply Kd.R_alloc | apply Kd.R_drewN | apply Kd.R_drew)); exact Kd.R_mono HO_31.out (fun _ hk => ⟨hk.1, hk.2.2.1⟩)⟩, ⟨by (with_reducible repeat (first | apply Kd.R_alloc | apply Kd.R_drewN | apply Kd.R_drew)); exact Kd.R_mono HO_31.out (fun _ hk => ⟨hk.1, hk.2.2.1⟩)⟩, ⟨by repeat (first | exact HB.out | apply below_alloc | apply pw_below_drewN | apply below_drew1)⟩⟩
              case round =>
                clear H'
                try clear c1
                try clear c2
                try clear p2
                try clear c3
                try clear p3
                try clear q3
                try clear hx3
                try clear c4
                try clear p4
                try clear q4
                try clear hx4
                try clear c5
                try clear c6
                try clear p6
                try clear c7
                try clear c8
                try clear c9
                try clear c10
                try clear c11
                try clear c12
                try clear c13
                try clear c13b0
                try clear c13b1
                try clear c13b2
                try clear c14
                try clear c15
                try clear c16
                try clear c17
                try clear c18
                try clear c19
                try clear c20
                try clear c20b0
                try clear c21
                try clear c21b0
                try clear c23
                try clear c25
                try clear p36
                try clear q36
                try clear hx36
                try clear p39
                try clear q39
                try clear hx39
                try clear c42
                try clear c42b0
                try clear c42b1
                try clear c42b2
                try clear p42
                try clear q42
                try clear hx42
                try clear c46
                try clear c48
                try clear c50
                try clear c52
                try clear c53
                try clear c53b0
                try clear c54
                try clear c54b0
                try clear c55
                try clear c55b0
                try clear c55b1
                try clear p64
                try clear c83
                try clear c83b0
                try clear c83b1
                try clear c83b2
                try clear c85
                try clear c86
                try clear c86b0
                try clear c86b1
                try clear c86b2
                try clear c90
                try clear c91
                try clear c91b0
                try clear c91b1
                try clear c91b2
                try clear c97
                try clear c99
                try clear c99b0
                try clear c99b1
                try clear c99b2
                try clear c106
                try clear c106b0
                try clear c106b1
                try clear c106b2
                try clear c131
                try clear c132
                try clear c133
                try clear c133b0
                try clear c134
                try clear c134b0
                try clear c135
                try clear c135b0
                try clear c136
                try clear c136b0
                try clear c137
                try clear c137b0
                try clear c138
                try clear c138b0
                try clear c139
                try clear c139b0
                try clear c140
                try clear c140b0
                try clear c141
                try clear c141b0
                try clear c142
                try clear c142b0
                try clear c143
                try clear c143b0
                try clear c144
                try clear c144b0
                try clear c144b1
                try clear c145
                try clear c145b0
                try clear c145b1
                try clear c146
                try clear c146b0
                try clear c147
                try clear c147b0
                try clear c148
                try clear c148b0
                try clear c148b1
                try clear hx366_0
                try clear hx391_0
                try clear hx423_0
                try clear hx424_0
                try clear hx425_0
                try clear hx426_0
                try clear p2
                try clear p3
                try clear p36
                try clear p366
                try clear p39
                try clear p391
                try clear p4
                try clear p42
                try clear p423
                try clear p424
                try clear p425
                try clear p426
                try clear p6
                try clear p64
                try clear q3
                try clear q36
                try clear q366
                try clear q39
                try clear q391
                try clear q4
                try clear q42
                try clear q423
                try clear q424
                try clear q425
                try clear q426
                obtain ⟨x274_7, rfl, HA, HK7, HO_22, HO_27, HO_31, HO_272, HB⟩ := hrel
                cases gk with
                | zero => exact absurd HA.out (by simp [laws_FnArchesPut.l2])
                | succ k7 =>
                  have H := HA.out
                  clear HA
                  simp only [laws_FnArchesPut.l2] at H
                  by_cases c156 : x274_7 < (t411.length : Int)
                  · rw [if_pos c156] at H
                    have c156b0 : decide (x274_7 < (t411.length : Int)) = true := decide_eq_true c156
                    clear c156
                    by_cases c157 : 0 ≤ x274_7
                    · rw [if_pos c157] at H
                      have c157b0 : decide (0 ≤ x274_7) = true := decide_eq_true c157
                      clear c157
                      by_cases c158 : x274_7 < (t411.length : Int)
                      · rw [if_pos c158] at H
                        have c158b0 : decide (x274_7 < (t411.length : Int)) = true := decide_eq_true c158
                        clear c158
                        by_cases c159 : 0 ≤ (rd t411 x274_7)
                        · rw [if_pos c159] at H
                          have c159b0 : decide (0 ≤ (rd t411 x274_7)) = true := decide_eq_true c159
                          clear c159
                          by_cases c160 : (rd t411 x274_7) < (t392.length : Int)
                          · rw [if_pos c160] at H
                            have c160b0 : decide ((rd t411 x274_7) < (t392.length : Int)) = true := decide_eq_true c160
                            clear c160
                            by_cases c161 : (rd t392 (rd t411 x274_7)) = (wrap64 ((rd t411 x274_7) + 1))
                            · rw [if_pos c161] at H
                              have c161b0 : ((rd t392 (rd t411 x274_7)) == (wrap64 ((rd t411 x274_7) + 1))) = true := beq_iff_eq.mpr c161
                              have c161b1 : ((rd t392 (rd t411 x274_7)) != (wrap64 ((rd t411 x274_7) + 1))) = false := bne_eq_false_iff_eq.mpr c161
                              clear c161
                              have H' := Aside0.mk H
                              clear H
                              have p427 : 0 ≤ (x274_7 : Int) := of_decide_eq_true (by first | (with_reducible assumption) | assumption)
                              have q427 : x274_7 < (t411.length : Int) := of_decide_eq_true (by first | (with_reducible assumption) | assumption)
                              obtain ⟨ad427, e427, hx427_0⟩ := Kd.at_int (Kd.R_reads' HO_272.out).2.2 x274_7 p427 q427
                              cases e427
                              replace p427 := eq_true p427
                              replace q427 := eq_true q427
                              have p428 : 0 ≤ ((rd t411 x274_7) : Int) := of_decide_eq_true (by first | (with_reducible assumption) | assumption)
                              have q428 : (rd t411 x274_7) < (t392.length : Int) := of_decide_eq_true (by first | (with_reducible assumption) | assumption)
                              obtain ⟨ad428, e428, hx428_0⟩ := Kd.at_int (Kd.R_reads' HO_22.out).2.2 (rd t411 x274_7) p428 q428
                              cases e428
                              replace p428 := eq_true p428
                              replace q428 := eq_true q428
                              go_wp2
                              go_roundg k7
                              case measure => have := HJ7.out; have := HJ17.out; have := HJ36.out; have := HJ46.out; have := HJ73.out; have := HK6.out; have := HK7.out; omega
                              case rel => exact ⟨(wrap64 (x274_7 + 1)), (by first | rfl | (simp; done) | (simp [*]; done)), H', ⟨by have := HJ7.out; have := HJ17.out; have := HJ36.out; have := HJ46.out; have := HJ73.out; have := HK6.out; have := HK7.out; omega⟩, ⟨by (with_reducible repeat (first | apply Kd.R_alloc | apply Kd.R_drewN | apply Kd.R_drew)); exact HO_22.out⟩, ⟨by (with_reducible repeat (first | apply Kd.R_alloc | apply Kd.R_drewN | apply Kd.R_drew)); exact HO_27.out⟩, ⟨by (with_reducible repeat (first | apply Kd.R_alloc | apply Kd.R_drewN | apply Kd.R_drew)); exact HO_31.out⟩, ⟨by (with_reducible repeat (first | apply Kd.R_alloc | apply Kd.R_drewN | apply Kd.R_drew)); exact HO_272.out⟩, ⟨by repeat (first | exact HB.out | apply below_alloc | apply pw_below_drewN | apply below_drew1)⟩⟩
                            · rw [if_neg c161] at H
                              have c161b0 : ((rd t392 (rd t411 x274_7)) == (wrap64 ((rd t411 x274_7) + 1))) = false := beq_eq_false_iff_ne.mpr c161
                              have c161b1 : ((rd t392 (rd t411 x274_7)) != (wrap64 ((rd t411 x274_7) + 1))) = true := bne_iff_ne.mpr c161
                              have hrr_ := Option.some.inj H
                              rw [hr_] at hrr_
                              first
                                | exact absurd hrr_ (by decide)
                                | (clear hrr_
                                   obtain rfl := Option.some.inj H
                                   have p427 : 0 ≤ (x274_7 : Int) := of_decide_eq_true (by first | (with_reducible assumption) | assumption)
                                   have q427 : x274_7 < (t411.length : Int) := of_decide_eq_true (by first | (with_reducible assumption) | assumption)
                                   obtain ⟨ad427, e427, hx427_0⟩ := Kd.at_int (Kd.R_reads' HO_272.out).2.2 x274_7 p427 q427
                                   cases e427
                                   replace p427 := eq_true p427
                                   replace q427 := eq_true q427
                                   have p428 : 0 ≤ ((rd t411 x274_7) : Int) := of_decide_eq_true (by first | (with_reducible assumption) | assumption)
                                   have q428 : (rd t411 x274_7) < (t392.length : Int) := of_decide_eq_true (by first | (with_reducible assumption) | assumption)
                                   obtain ⟨ad428, e428, hx428_0⟩ := Kd.at_int (Kd.R_reads' HO_22.out).2.2 (rd t411 x274_7) p428 q428
                                   cases e428
                                   replace p428 := eq_true p428
                                   replace q428 := eq_true q428
                                   go_wp2
                                   go_ret
                                   exact ⟨by first | rfl | (simp [errW_none, errW_some] <;> rfl) | (simp [*, errW_none, errW_some] <;> rfl), by repeat (first | exact HB.out | apply below_alloc | apply pw_below_drewN | apply below_drew1)⟩)
                          · rw [if_neg c160] at H
                            exact absurd H (by simp)
                        · rw [if_neg c159] at H
                          exact absurd H (by simp)
                      · rw [if_neg c158] at H
                        exact absurd H (by simp)
                    · rw [if_neg c157] at H
                      exact absurd H (by simp)
                  · rw [if_neg c156] at H
                    have c156b0 : decide (x274_7 < (t411.length : Int)) = false := decide_eq_false c156
                    clear c156
                    by_cases c162 : x35_6 = (t403.length : Int)
                    · rw [if_pos c162] at H
                      have c162b0 : (x35_6 == (t403.length : Int)) = true := beq_iff_eq.mpr c162
                      have c162b1 : (x35_6 != (t403.length : Int)) = false := bne_eq_false_iff_eq.mpr c162
                      clear c162
                      by_cases c163 : (t392.length : Int) = 0
                      · rw [if_pos c163] at H
                        have c163b0 : ((t392.length : Int) == 0) = true := beq_iff_eq.mpr c163
                        have c163b1 : ((t392.length : Int) != 0) = false := bne_eq_false_iff_eq.mpr c163
                        clear c163
                        have hrr_ := Option.some.inj H
                        rw [hr_] at hrr_
                        first
                          | exact absurd hrr_ (by decide)
                          | (clear hrr_
                             obtain rfl := Option.some.inj H
                             obtain ⟨Ao164, co164, eo164⟩ := Kd.R_slice HO_27.out
                             subst eo164
                             go_wp2
                             go_ret
                             exact ⟨by first | rfl | (simp [errW_none, errW_some] <;> rfl) | (simp [*, errW_none, errW_some] <;> rfl), by repeat (first | exact HB.out | apply below_alloc | apply pw_below_drewN | apply below_drew1)⟩)
                      · rw [if_neg c163] at H
                        have c163b0 : ((t392.length : Int) == 0) = false := beq_eq_false_iff_ne.mpr c163
                        have c163b1 : ((t392.length : Int) != 0) = true := bne_iff_ne.mpr c163
                        have c163b2 : ¬ (t392 = []) := fun h_ => c163 (by rw [h_]; rfl)
                        have hrr_ := Option.some.inj H
                        rw [hr_] at hrr_
                        first
                          | exact absurd hrr_ (by decide)
                          | (clear hrr_
                             obtain rfl := Option.some.inj H
                             obtain ⟨Ao165, co165, eo165⟩ := Kd.R_slice HO_27.out
                             subst eo165
                             go_wp2
                             go_ret
                             exact ⟨by first | rfl | (simp [errW_none, errW_some] <;> rfl) | (simp [*, errW_none, errW_some] <;> rfl), by repeat (first | exact HB.out | apply below_alloc | apply pw_below_drewN | apply below_drew1)⟩)
                    · rw [if_neg c162] at H
                      have c162b0 : (x35_6 == (t403.length : Int)) = false := beq_eq_false_iff_ne.mpr c162
                      have c162b1 : (x35_6 != (t403.length : Int)) = true := bne_iff_ne.mpr c162
                      have hrr_ := Option.some.inj H
                      rw [hr_] at hrr_
                      first
                        | exact absurd hrr_ (by decide)
                        | (clear hrr_
                           obtain rfl := Option.some.inj H
                           obtain ⟨Ao166, co166, eo166⟩ := Kd.R_slice HO_27.out
                           subst eo166
                           go_wp2
                           go_ret
                           exact ⟨by first | rfl | (simp [errW_none, errW_some] <;> rfl) | (simp [*, errW_none, errW_some] <;> rfl), by repeat (first | exact HB.out | apply below_alloc | apply pw_below_drewN | apply below_drew1)⟩)
      · replace c132 := Bool.eq_false_iff.mpr c132
        subst c132
        have H1 : (some true) = some r := by rw [if_neg (show ¬ (false = true) by decide)] at H; exact H
        clear H
        have H := H1
        clear H1
        have hrr_ := Option.some.inj H
        rw [hr_] at hrr_
        first
          | exact absurd hrr_ (by decide)
          | (clear hrr_
             obtain rfl := Option.some.inj H
             go_wp2
             go_ret
             exact ⟨by first | rfl | (simp [errW_none, errW_some] <;> rfl) | (simp [*, errW_none, errW_some] <;> rfl), by repeat (first | exact HB.out | apply below_alloc | apply pw_below_drewN | apply below_drew1)⟩)

end Go.Proofs.Ytonobgbpgeielaa.QFnArchesPut
