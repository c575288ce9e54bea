-- Written by wip/myprint.py (a program of mine round the kit's printer). Lean checks it.
import Derived.Test.YtonobgbpgeielaaQFnSystemsMovedx8
import Derived.Test.YtonobgbpgeielaaQFnSystemsMovedx15
namespace Go.Proofs.Ytonobgbpgeielaa.QFnSystemsMoved
open Go.RowKit Go.Proofs.YtonobgbpgeielaaW.PrintWords Go.Proofs.YtonobgbpgeielaaW.PrintLast Go.Proofs.YtonobgbpgeielaaW.PrintMore
attribute [local go_sem] max2_int min2_int max_two min_two max_three min_three max_four min_four   -- for this text's walks alone
set_option linter.unusedVariables false
set_option linter.unusedSimpArgs false

noncomputable def laws_FnSystemsMoved.part1.rest : Code := ((Try.f4.body.bind (laws_FnSystemsMoved.findRest 13)).getD .skip)
noncomputable def laws_FnSystemsMoved.part1.joint : Code := ((Try.f4.body.bind (laws_FnSystemsMoved.findCond 115)).getD .skip)
set_option maxHeartbeats 8000000 in
set_option maxRecDepth 1000000 in
theorem laws_FnSystemsMoved.part1 (k : Nat) (A0 : Option Addr) (c0 : Nat) (l0 : List Int) (A1 : Option Addr) (c1 : Nat) (l1 : List Int) (r : Bool) (w : World) (hr_ : r = true) (HR0 : Aside0 ((Kd.int IntKind.u8).C w A0 l0.length l0)) (HC0 : Aside0 (l0.length ≤ c0)) (HR1 : Aside0 ((Kd.int IntKind.u8).C w A1 l1.length l1)) (HC1 : Aside0 (l1.length ≤ c1)) (t414 : List Int) (t415 : Int) (t418 : List Int) (t419 t423 : Bool) (nd : Nat) (Ao10 : Option Addr) (co10 : Nat) (v420 v424 : Value) (kj7 : Nat) (HJ7 : Aside0 (kj7 + 1 ≤ k)) (t427 t428 t433 : List Int) (t434 : Bool) (t437 : List Int) (t438 : Bool) (HC21 : Aside0 ((if (t434 != t438) = true then j1 kj7 l0 l1 t414 t415 t418 t423 t427 t428 t433 t434 true else (laws_sSame.f kj7 t433 t437).bind fun t441 => j1 kj7 l0 l1 t414 t415 t418 t423 t427 t428 t433 t434 !t441) = some r)) (Ao23 : Option Addr) (co23 : Nat) (Ao24 : Option Addr) (co24 : Nat) (v435 : Value) (w26 : World) (v439 : Value) (HO_5 : Aside0 ((Kd.int IntKind.i64).R 3 w26 w.heap.size (fun k => (((some k ≠ v420.ownBlock ∧ some k ≠ (Value.slice Ao23 t427.length co23).ownBlock) ∧ some k ≠ (Value.slice Ao24 t428.length co24).ownBlock) ∧ some k ≠ v435.ownBlock) ∧ some k ≠ v439.ownBlock) (Value.slice Ao10 t414.length co10) t414)) (HO_7 : Aside0 ((Kd.int IntKind.i64).R 3 w26 w.heap.size (fun k => (((some k ≠ (Value.slice Ao10 t414.length co10).ownBlock ∧ some k ≠ (Value.slice Ao23 t427.length co23).ownBlock) ∧ some k ≠ (Value.slice Ao24 t428.length co24).ownBlock) ∧ some k ≠ v435.ownBlock) ∧ some k ≠ v439.ownBlock) v420 t418)) (HB : Aside0 (Below w.heap.size w w26)) (wc : World) (u61 u62 : Value) (u63 u64 : Value) (u65 u66 : Value) (u67 u68 : Value) (u69 u70 : Value) (u71 u72 : Value) (u73 u74 : Value) (u75 u76 : Value) (u77 u78 : Value) (u79 u80 : Value) (u81 u82 : Value) (u83 u84 : Value) (u85 u86 : Value) (u87 u88 : Value) (u89 u90 : Value) (u91 u92 : Value) (u93 u94 : Value) (u95 u96 : Value) (u97 u98 : Value) (u99 u100 : Value) (u101 u102 : Value) (u103 u104 : Value) (u105 u106 : Value) (u107 u108 : Value) (u109 u110 : Value) (u111 u112 : Value) (u113 u114 : Value) (u115 u116 : Value) (u117 u118 : Value) (u119 u120 : Value) (u121 u122 : Value) (u123 u124 : Value) (u125 u126 : Value) (u127 u128 : Value) (u129 u130 : Value) (u131 u132 : Value) (u133 u134 : Value) (u135 u136 : Value) (u137 u138 : Value) (u139 u140 : Value) (u141 u142 : Value) (u143 u144 : Value) (u145 u146 : Value) (u147 u148 : Value) (u149 u150 : Value) (u151 u152 : Value) (u153 u154 : Value) (u155 u156 : Value) (u157 u158 : Value) (u159 u160 : Value) (u161 u162 : Value) (u163 u164 : Value) (u165 u166 : Value) (u167 u168 : Value) (u169 u170 : Value) (u171 u172 : Value) (u173 u174 : Value) (u175 u176 : Value) (u177 u178 : Value) (u179 u180 : Value) (u181 u182 : Value) (u183 u184 : Value) (u185 u186 : Value) (u187 u188 : Value) (u189 u190 : Value) (u191 u192 : Value) (u193 u194 : Value) (u195 u196 : Value) (u197 u198 : Value) (u199 u200 : Value) (u201 u202 : Value) (u203 u204 : Value) (u205 u206 : Value) (u207 u208 : Value) (u209 u210 : Value) (u211 u212 : Value) (u213 u214 : Value) (u215 u216 : Value) (u217 u218 : Value) (u219 u220 : Value) (u221 u222 : Value) (u223 u224 : Value) (u225 u226 : Value) (u227 u228 : Value) (u229 u230 : Value) (u231 u232 : Value) (u233 u234 : Value) (u235 u236 : Value) (u237 u238 : Value) (u239 u240 : Value) (u241 u242 : Value) (u243 u244 : Value) (u245 u246 : Value) (u247 u248 : Value) (u249 u250 : Value) (u251 u252 : Value) (u253 u254 : Value) (u255 u256 : Value) (u257 u258 : Value) (u259 u260 : Value) (u261 u262 : Value) (u263 u264 : Value) (u265 u266 : Value) (u267 u268 : Value) (u269 u270 : Value) (u271 u272 : Value) (u273 u274 : Value) (u275 u276 : Value) (u277 u278 : Value) (u279 u280 : Value) (u281 u282 : Value) (u283 u284 : Value) (u285 u286 : Value) (u287 u288 : Value) (u289 u290 : Value) (u291 u292 : Value) (u293 u294 : Value) (u295 u296 : Value) (u297 u298 : Value) (u299 u300 : Value) (u301 u302 : Value) (u303 u304 : Value) (u305 u306 : Value) (u307 u308 : Value) (u309 u310 : Value) (u311 u312 : Value) (u313 u314 : Value) (u315 u316 : Value) (u317 u318 : Value) (u319 u320 : Value) (u321 u322 : Value) (u326 u327 : Value) (u328 u329 : Value) (u330 u331 : Value) (u332 u333 : Value) (u334 u335 : Value) (u336 u337 : Value) (u338 u339 : Value) (u340 u341 : Value) (u342 u343 : Value) (u344 u345 : Value) (u346 u347 : Value) (u348 u349 : Value) (u350 u351 : Value) (u352 u353 : Value) (u354 u355 : Value) (u356 u357 : Value) (u358 u359 : Value) (u360 u361 : Value) (u362 u363 : Value) (u364 u365 : Value) (u366 u367 : Value) (K1_ : Act → World → Prop) (a1_ : ∀ (a_ : Act) (w_ : World), Code.wp Try.prog laws_FnSystemsMoved.part1.rest (bodyPost Try.prog Try.f4 fun e w' => e = Ending.returned (Value.bool r) ∧ Below w.heap.size w w') a_ w_ → K1_ a_ w_) (K2_ : Act → World → Prop) (a2_ : ∀ (a_ : Act) (w_ : World), Code.wp Try.prog laws_FnSystemsMoved.part1.joint (Exit.then K1_ (bodyPost Try.prog Try.f4 fun e w' => e = Ending.returned (Value.bool r) ∧ Below w.heap.size w w')) a_ w_ → K2_ a_ w_) (hcut : ∃ kq x115_20, u115 = Value.bool x115_20 ∧ Aside0 (j1 kq l0 l1 t414 t415 t418 t423 t427 t428 t433 t434 x115_20 = some r) ∧ Aside0 (kq ≤ kj7) ∧ Aside0 ((Kd.int IntKind.i64).R 3 wc w.heap.size (fun k_ => some k_ ≠ v420.ownBlock ∧ some k_ ≠ (Value.slice Ao23 t427.length co23).ownBlock ∧ some k_ ≠ (Value.slice Ao24 t428.length co24).ownBlock ∧ some k_ ≠ v435.ownBlock) (Value.slice Ao10 t414.length co10) t414) ∧ Aside0 ((Kd.int IntKind.i64).R 3 wc w.heap.size (fun k_ => some k_ ≠ (Value.slice Ao10 t414.length co10).ownBlock ∧ some k_ ≠ (Value.slice Ao23 t427.length co23).ownBlock ∧ some k_ ≠ (Value.slice Ao24 t428.length co24).ownBlock ∧ some k_ ≠ v435.ownBlock) v420 t418) ∧ Aside0 ((Kd.int IntKind.i64).R 3 wc w.heap.size (fun k_ => some k_ ≠ (Value.slice Ao10 t414.length co10).ownBlock ∧ some k_ ≠ v420.ownBlock ∧ some k_ ≠ (Value.slice Ao24 t428.length co24).ownBlock ∧ some k_ ≠ v435.ownBlock) (Value.slice Ao23 t427.length co23) t427) ∧ Aside0 ((Kd.int IntKind.i64).R 3 wc w.heap.size (fun k_ => some k_ ≠ (Value.slice Ao10 t414.length co10).ownBlock ∧ some k_ ≠ v420.ownBlock ∧ some k_ ≠ (Value.slice Ao23 t427.length co23).ownBlock ∧ some k_ ≠ v435.ownBlock) (Value.slice Ao24 t428.length co24) t428) ∧ Aside0 ((Kd.int IntKind.i64).R 3 wc w.heap.size (fun k_ => some k_ ≠ (Value.slice Ao10 t414.length co10).ownBlock ∧ some k_ ≠ v420.ownBlock ∧ some k_ ≠ (Value.slice Ao23 t427.length co23).ownBlock ∧ some k_ ≠ (Value.slice Ao24 t428.length co24).ownBlock) v435 t433) ∧ Aside0 (Below w.heap.size w wc)) :
    K2_ { tmps := #[Value.slice A0 l0.length c0, Value.slice A1 l1.length c1, undef, undef, Value.bool false, Value.slice Ao10 t414.length co10, Value.int IntKind.i64 t415, v420, Value.bool t419, v424, Value.bool t423, Value.slice Ao23 t427.length co23, Value.slice Ao24 t428.length co24, v435, Value.bool t434, v439, Value.bool t438, undef, undef, undef, undef, undef, undef, undef, undef, undef, undef, undef, undef, undef, undef, undef, undef, undef, undef, undef, undef, undef, undef, undef, undef, undef, undef, undef, undef, undef, undef, undef, undef, undef, undef, undef, undef, undef, undef, undef, undef, undef, undef, undef, undef, u61, u62, u63, u64, u65, u66, u67, u68, u69, u70, u71, u72, u73, u74, u75, u76, u77, u78, u79, u80, u81, u82, u83, u84, u85, u86, u87, u88, u89, u90, u91, u92, u93, u94, u95, u96, u97, u98, u99, u100, u101, u102, u103, u104, u105, u106, u107, u108, u109, u110, u111, u112, u113, u114, u115, u116, u117, u118, u119, u120, u121, u122, u123, u124, u125, u126, u127, u128, u129, u130, u131, u132, u133, u134, u135, u136, u137, u138, u139, u140, u141, u142, u143, u144, u145, u146, u147, u148, u149, u150, u151, u152, u153, u154, u155, u156, u157, u158, u159, u160, u161, u162, u163, u164, u165, u166, u167, u168, u169, u170, u171, u172, u173, u174, u175, u176, u177, u178, u179, u180, u181, u182, u183, u184, u185, u186, u187, u188, u189, u190, u191, u192, u193, u194, u195, u196, u197, u198, u199, u200, u201, u202, u203, u204, u205, u206, u207, u208, u209, u210, u211, u212, u213, u214, u215, u216, u217, u218, u219, u220, u221, u222, u223, u224, u225, u226, u227, u228, u229, u230, u231, u232, u233, u234, u235, u236, u237, u238, u239, u240, u241, u242, u243, u244, u245, u246, u247, u248, u249, u250, u251, u252, u253, u254, u255, u256, u257, u258, u259, u260, u261, u262, u263, u264, u265, u266, u267, u268, u269, u270, u271, u272, u273, u274, u275, u276, u277, u278, u279, u280, u281, u282, u283, u284, u285, u286, u287, u288, u289, u290, u291, u292, u293, u294, u295, u296, u297, u298, u299, u300, u301, u302, u303, u304, u305, u306, u307, u308, u309, u310, u311, u312, u313, u314, u315, u316, u317, u318, u319, u320, u321, u322, undef, undef, undef, u326, u327, u328, u329, u330, u331, u332, u333, u334, u335, u336, u337, u338, u339, u340, u341, u342, u343, u344, u345, u346, u347, u348, u349, u350, u351, u352, u353, u354, u355, u356, u357, u358, u359, u360, u361, u362, u363, u364, u365, u366, u367], defers := [] } wc := by
  obtain ⟨c_, hc_⟩ : ∃ c_, c_ = laws_FnSystemsMoved.part1.rest := ⟨_, rfl⟩
  rw [← hc_] at a1_
  conv at hc_ =>
    rhs
    whnf
  subst hc_
  obtain ⟨c_, hc_⟩ : ∃ c_, c_ = laws_FnSystemsMoved.part1.joint := ⟨_, rfl⟩
  rw [← hc_] at a2_
  conv at hc_ =>
    rhs
    whnf
  subst hc_
  clear HC21
  try clear c1
  try clear c2
  try clear p2
  try clear c4
  try clear c6
  try clear c13
  try clear c13b0
  try clear c13b1
  try clear c13b2
  try clear c17
  try clear c22
  try clear c23
  try clear c24
  try clear c25
  try clear c26
  try clear c27
  try clear c27b0
  try clear c27b1
  try clear c27b2
  try clear p2
  obtain ⟨kq, x115_20, rfl, HA, HJ20, HO_5, HO_7, HO_11, HO_12, HO_13, HB⟩ := hcut
  cases kq with
  | zero => exact absurd HA.out (by simp [laws_FnSystemsMoved.j1])
  | succ kj20 =>
    have H := HA.out
    clear HA
    simp only [laws_FnSystemsMoved.j1] at H
    by_cases c31 : x115_20 = true
    · subst c31
      have H1 : (some false) = some r := by rw [if_pos rfl] at H; exact H
      rw [hr_] at H1; exact absurd H1 (by decide)
    · replace c31 := Bool.eq_false_iff.mpr c31
      subst c31
      have H1 : (if t434 = true then ((impl_SystemText.f kj20 t427).bind fun bt442 => ((impl_SystemText.f kj20 t428).bind fun bt444 => ((impl_SystemText.f kj20 t433).bind fun bt446 => (if bt442.2 = true then (if bt444.2 = true then (if bt446.2 = true then (if bt442.1.size + bt444.1.size ≤ 9223372036854775807 then (if (bt442.1 ++ bt444.1).toList = bt446.1.toList then (laws_FnSystemsMoved.j2 kj20 l0 l1 t414 t415 t418 t423) else (some false)) else (none)) else (some false)) else (some false)) else (some false))))) else (laws_FnSystemsMoved.j2 kj20 l0 l1 t414 t415 t418 t423)) = some r := by rw [if_neg (show ¬ (false = true) by decide)] at H; exact H
      clear H
      have H := H1
      clear H1
      have HC32 := Aside0.mk H
      clear H
      go_upto_if 116 with (fail)
      go_cut [] (fun wc => ∃ (kq : Nat), Aside0 (laws_FnSystemsMoved.j2 kq l0 l1 t414 t415 t418 t423 = some r) ∧ Aside0 (kq ≤ kj20) ∧ Aside0 (Kd.R (Kd.int .i64) 3 wc w.heap.size (fun k_ => some k_ ≠ (v420 : Value).ownBlock) (.slice Ao10 t414.length co10) t414) ∧ Aside0 (Kd.R (Kd.int .i64) 3 wc w.heap.size (fun k_ => some k_ ≠ ((.slice Ao10 t414.length co10) : Value).ownBlock) v420 t418) ∧ Aside0 (Below w.heap.size w wc))
      case first =>
        have H := HC32.out
        clear HC32
        by_cases c33 : t434 = true
        · subst c33
          have H1 : ((impl_SystemText.f kj20 t427).bind fun bt442 => ((impl_SystemText.f kj20 t428).bind fun bt444 => ((impl_SystemText.f kj20 t433).bind fun bt446 => (if bt442.2 = true then (if bt444.2 = true then (if bt446.2 = true then (if bt442.1.size + bt444.1.size ≤ 9223372036854775807 then (if (bt442.1 ++ bt444.1).toList = bt446.1.toList then (laws_FnSystemsMoved.j2 kj20 l0 l1 t414 t415 t418 t423) else (some false)) else (none)) else (some false)) else (some false)) else (some false))))) = some r := by rw [if_pos rfl] at H; exact H
          clear H
          have H := H1
          clear H1
          replace H := Option.bind_eq_some_iff.mp H
          obtain ⟨⟨t442, t443⟩, A340, H⟩ := H
          replace H : ((impl_SystemText.f kj20 t428).bind fun bt444 => ((impl_SystemText.f kj20 t433).bind fun bt446 => (if t443 = true then (if bt444.2 = true then (if bt446.2 = true then (if t442.size + bt444.1.size ≤ 9223372036854775807 then (if (t442 ++ bt444.1).toList = bt446.1.toList then (laws_FnSystemsMoved.j2 kj20 l0 l1 t414 t415 t418 t423) else (some false)) else (none)) else (some false)) else (some false)) else (some false)))) = some r := H
          have A34 := Aside0.mk A340
          clear A340
          replace H := Option.bind_eq_some_iff.mp H
          obtain ⟨⟨t444, t445⟩, A350, H⟩ := H
          replace H : ((impl_SystemText.f kj20 t433).bind fun bt446 => (if t443 = true then (if t445 = true then (if bt446.2 = true then (if t442.size + t444.size ≤ 9223372036854775807 then (if (t442 ++ t444).toList = bt446.1.toList then (laws_FnSystemsMoved.j2 kj20 l0 l1 t414 t415 t418 t423) else (some false)) else (none)) else (some false)) else (some false)) else (some false))) = some r := H
          have A35 := Aside0.mk A350
          clear A350
          replace H := Option.bind_eq_some_iff.mp H
          obtain ⟨⟨t446, t447⟩, A360, H⟩ := H
          replace H : (if t443 = true then (if t445 = true then (if t447 = true then (if t442.size + t444.size ≤ 9223372036854775807 then (if (t442 ++ t444).toList = t446.toList then (laws_FnSystemsMoved.j2 kj20 l0 l1 t414 t415 t418 t423) else (some false)) else (none)) else (some false)) else (some false)) else (some false)) = some r := H
          have A36 := Aside0.mk A360
          clear A360
          by_cases c37 : t443 = true
          · subst c37
            have H1 : (if t445 = true then (if t447 = true then (if t442.size + t444.size ≤ 9223372036854775807 then (if (t442 ++ t444).toList = t446.toList then (laws_FnSystemsMoved.j2 kj20 l0 l1 t414 t415 t418 t423) else (some false)) else (none)) else (some false)) else (some false)) = some r := by rw [if_pos rfl] at H; exact H
            clear H
            have H := H1
            clear H1
            by_cases c38 : t445 = true
            · subst c38
              have H1 : (if t447 = true then (if t442.size + t444.size ≤ 9223372036854775807 then (if (t442 ++ t444).toList = t446.toList then (laws_FnSystemsMoved.j2 kj20 l0 l1 t414 t415 t418 t423) else (some false)) else (none)) else (some false)) = some r := by rw [if_pos rfl] at H; exact H
              clear H
              have H := H1
              clear H1
              by_cases c39 : t447 = true
              · subst c39
                have H1 : (if t442.size + t444.size ≤ 9223372036854775807 then (if (t442 ++ t444).toList = t446.toList then (laws_FnSystemsMoved.j2 kj20 l0 l1 t414 t415 t418 t423) else (some false)) else (none)) = some r := by rw [if_pos rfl] at H; exact H
                clear H
                have H := H1
                clear H1
                by_cases c40 : t442.size + t444.size ≤ 9223372036854775807
                · rw [if_pos c40] at H
                  have c40b0 := eq_true c40
                  have c40b1 : decide (t442.size + t444.size ≤ 9223372036854775807) = true := decide_eq_true c40
                  try have c40b2 : (9223372036854775807 < t442.size + t444.size) = False := eq_false (Nat.not_lt.2 c40)
                  by_cases c41 : (t442 ++ t444).toList = t446.toList
                  · rw [if_pos c41] at H
                    have c41b0 : ((t442 ++ t444).toList == t446.toList) = true := beq_iff_eq.mpr c41
                    have c41b1 : ((t442 ++ t444).toList != t446.toList) = false := bne_eq_false_iff_eq.mpr c41
                    clear c41
                    (first | rw [c41b0] | (simp only [i64_w, i32_w]; rw [c41b0]) | skip)
                    have H' := Aside0.mk H
                    clear H
                    go_wp2_with (first | ((with_reducible refine gate_callee (f := 28) rfl ?_); refine goesL_ (some 119) rfl rfl Try.func28 (by kernel_rfl) rfl #[.slice Ao23 t427.length co23] rfl (by (try simp only [List.map_toArray, List.map_cons, List.map_nil]); first | done | rfl) ?_; (with_reducible refine (impl_SystemText.calls kj20 _ _ t427 t442 true _ ?side1 ?side2 A34.out).mono ?_); (case side1 => repeat (first | exact (Kd.R_reads' HO_11.out).2.2 | (with_reducible refine Kd.C_alloc ?_ _) | (with_reducible refine Kd.C_drewN ?_ _) | (with_reducible refine Kd.C_drew ?_))); (case side2 => exact (Kd.R_reads' HO_11.out).2.1); rintro e w42 ⟨rfl, hb⟩; refine ⟨_, rfl, ?_⟩; replace HO_5 := Aside0.mk (Kd.R_below (by (with_reducible repeat (first | apply Kd.R_alloc | apply Kd.R_drewN | apply Kd.R_drew)); exact HO_5.out) hb); replace HO_7 := Aside0.mk (Kd.R_below (by (with_reducible repeat (first | apply Kd.R_alloc | apply Kd.R_drewN | apply Kd.R_drew)); exact HO_7.out) hb); replace HO_11 := Aside0.mk (Kd.R_below (by (with_reducible repeat (first | apply Kd.R_alloc | apply Kd.R_drewN | apply Kd.R_drew)); exact HO_11.out) hb); replace HO_12 := Aside0.mk (Kd.R_below (by (with_reducible repeat (first | apply Kd.R_alloc | apply Kd.R_drewN | apply Kd.R_drew)); exact HO_12.out) hb); replace HO_13 := Aside0.mk (Kd.R_below (by (with_reducible repeat (first | apply Kd.R_alloc | apply Kd.R_drewN | apply Kd.R_drew)); exact HO_13.out) hb); replace HB := Aside0.mk (below_step (by repeat (first | exact HB.out | apply below_alloc | apply pw_below_drewN | apply below_drew1)) hb); (try clear hb); (try clear hb2); (try clear hk); (try clear hi)) | ((with_reducible refine gate_callee (f := 28) rfl ?_); refine goesL_ (some 124) rfl rfl Try.func28 (by kernel_rfl) rfl #[.slice Ao24 t428.length co24] rfl (by (try simp only [List.map_toArray, List.map_cons, List.map_nil]); first | done | rfl) ?_; (with_reducible refine (impl_SystemText.calls kj20 _ _ t428 t444 true _ ?side1 ?side2 A35.out).mono ?_); (case side1 => repeat (first | exact (Kd.R_reads' HO_12.out).2.2 | (with_reducible refine Kd.C_alloc ?_ _) | (with_reducible refine Kd.C_drewN ?_ _) | (with_reducible refine Kd.C_drew ?_))); (case side2 => exact (Kd.R_reads' HO_12.out).2.1); rintro e w43 ⟨rfl, hb⟩; refine ⟨_, rfl, ?_⟩; replace HO_5 := Aside0.mk (Kd.R_below (by (with_reducible repeat (first | apply Kd.R_alloc | apply Kd.R_drewN | apply Kd.R_drew)); exact HO_5.out) hb); replace HO_7 := Aside0.mk (Kd.R_below (by (with_reducible repeat (first | apply Kd.R_alloc | apply Kd.R_drewN | apply Kd.R_drew)); exact HO_7.out) hb); replace HO_11 := Aside0.mk (Kd.R_below (by (with_reducible repeat (first | apply Kd.R_alloc | apply Kd.R_drewN | apply Kd.R_drew)); exact HO_11.out) hb); replace HO_12 := Aside0.mk (Kd.R_below (by (with_reducible repeat (first | apply Kd.R_alloc | apply Kd.R_drewN | apply Kd.R_drew)); exact HO_12.out) hb); replace HO_13 := Aside0.mk (Kd.R_below (by (with_reducible repeat (first | apply Kd.R_alloc | apply Kd.R_drewN | apply Kd.R_drew)); exact HO_13.out) hb); replace HB := Aside0.mk (below_step (by repeat (first | exact HB.out | apply below_alloc | apply pw_below_drewN | apply below_drew1)) hb); (try clear hb); (try clear hb2); (try clear hk); (try clear hi); obtain ⟨Ao44, co44, eo44⟩ := Kd.R_slice HO_13.out; subst eo44) | ((with_reducible refine gate_callee (f := 28) rfl ?_); refine goesL_ (some 129) rfl rfl Try.func28 (by kernel_rfl) rfl #[.slice Ao44 t433.length co44] rfl (by (try simp only [List.map_toArray, List.map_cons, List.map_nil]); first | done | rfl) ?_; (with_reducible refine (impl_SystemText.calls kj20 _ _ t433 t446 true _ ?side1 ?side2 A36.out).mono ?_); (case side1 => repeat (first | exact (Kd.R_reads' HO_13.out).2.2 | (with_reducible refine Kd.C_alloc ?_ _) | (with_reducible refine Kd.C_drewN ?_ _) | (with_reducible refine Kd.C_drew ?_))); (case side2 => exact (Kd.R_reads' HO_13.out).2.1); rintro e w45 ⟨rfl, hb⟩; refine ⟨_, rfl, ?_⟩; replace HO_5 := Aside0.mk (Kd.R_below (by (with_reducible repeat (first | apply Kd.R_alloc | apply Kd.R_drewN | apply Kd.R_drew)); exact HO_5.out) hb); replace HO_7 := Aside0.mk (Kd.R_below (by (with_reducible repeat (first | apply Kd.R_alloc | apply Kd.R_drewN | apply Kd.R_drew)); exact HO_7.out) hb); replace HO_11 := Aside0.mk (Kd.R_below (by (with_reducible repeat (first | apply Kd.R_alloc | apply Kd.R_drewN | apply Kd.R_drew)); exact HO_11.out) hb); replace HO_12 := Aside0.mk (Kd.R_below (by (with_reducible repeat (first | apply Kd.R_alloc | apply Kd.R_drewN | apply Kd.R_drew)); exact HO_12.out) hb); replace HO_13 := Aside0.mk (Kd.R_below (by (with_reducible repeat (first | apply Kd.R_alloc | apply Kd.R_drewN | apply Kd.R_drew)); exact HO_13.out) hb); replace HB := Aside0.mk (below_step (by repeat (first | exact HB.out | apply below_alloc | apply pw_below_drewN | apply below_drew1)) hb); (try clear hb); (try clear hb2); (try clear hk); (try clear hi)))
                    go_meet
                    case rel => exact ⟨_, H', ⟨by have := HJ7.out; have := HJ20.out; first | omega | exact Nat.le_refl _⟩, ⟨by (with_reducible repeat (first | apply Kd.R_alloc | apply Kd.R_drewN | apply Kd.R_drew)); exact Kd.R_mono HO_5.out (fun _ hk => hk.1)⟩, ⟨by (with_reducible repeat (first | apply Kd.R_alloc | apply Kd.R_drewN | apply Kd.R_drew)); exact Kd.R_mono HO_7.out (fun _ hk => hk.1)⟩, ⟨by repeat (first | exact HB.out | apply below_alloc | apply pw_below_drewN | apply below_drew1)⟩⟩
                  · rw [if_neg c41] at H
                    have c41b0 : ((t442 ++ t444).toList == t446.toList) = false := beq_eq_false_iff_ne.mpr c41
                    have c41b1 : ((t442 ++ t444).toList != t446.toList) = true := bne_iff_ne.mpr c41
                    (first | rw [c41b0] | (simp only [i64_w, i32_w]; rw [c41b0]) | skip)
                    have hrr_ := Option.some.inj H
                    rw [hr_] at hrr_
                    first
                      | exact absurd hrr_ (by decide)
                      | (clear hrr_
                         obtain rfl := Option.some.inj H
                         go_wp2_with (first | ((with_reducible refine gate_callee (f := 28) rfl ?_); refine goesL_ (some 119) rfl rfl Try.func28 (by kernel_rfl) rfl #[.slice Ao23 t427.length co23] rfl (by (try simp only [List.map_toArray, List.map_cons, List.map_nil]); first | done | rfl) ?_; (with_reducible refine (impl_SystemText.calls kj20 _ _ t427 t442 true _ ?side1 ?side2 A34.out).mono ?_); (case side1 => repeat (first | exact (Kd.R_reads' HO_11.out).2.2 | (with_reducible refine Kd.C_alloc ?_ _) | (with_reducible refine Kd.C_drewN ?_ _) | (with_reducible refine Kd.C_drew ?_))); (case side2 => exact (Kd.R_reads' HO_11.out).2.1); rintro e w46 ⟨rfl, hb⟩; refine ⟨_, rfl, ?_⟩; replace HO_5 := Aside0.mk (Kd.R_below (by (with_reducible repeat (first | apply Kd.R_alloc | apply Kd.R_drewN | apply Kd.R_drew)); exact HO_5.out) hb); replace HO_7 := Aside0.mk (Kd.R_below (by (with_reducible repeat (first | apply Kd.R_alloc | apply Kd.R_drewN | apply Kd.R_drew)); exact HO_7.out) hb); replace HO_11 := Aside0.mk (Kd.R_below (by (with_reducible repeat (first | apply Kd.R_alloc | apply Kd.R_drewN | apply Kd.R_drew)); exact HO_11.out) hb); replace HO_12 := Aside0.mk (Kd.R_below (by (with_reducible repeat (first | apply Kd.R_alloc | apply Kd.R_drewN | apply Kd.R_drew)); exact HO_12.out) hb); replace HO_13 := Aside0.mk (Kd.R_below (by (with_reducible repeat (first | apply Kd.R_alloc | apply Kd.R_drewN | apply Kd.R_drew)); exact HO_13.out) hb); replace HB := Aside0.mk (below_step (by repeat (first | exact HB.out | apply below_alloc | apply pw_below_drewN | apply below_drew1)) hb); (try clear hb); (try clear hb2); (try clear hk); (try clear hi)) | ((with_reducible refine gate_callee (f := 28) rfl ?_); refine goesL_ (some 124) rfl rfl Try.func28 (by kernel_rfl) rfl #[.slice Ao24 t428.length co24] rfl (by (try simp only [List.map_toArray, List.map_cons, List.map_nil]); first | done | rfl) ?_; (with_reducible refine (impl_SystemText.calls kj20 _ _ t428 t444 true _ ?side1 ?side2 A35.out).mono ?_); (case side1 => repeat (first | exact (Kd.R_reads' HO_12.out).2.2 | (with_reducible refine Kd.C_alloc ?_ _) | (with_reducible refine Kd.C_drewN ?_ _) | (with_reducible refine Kd.C_drew ?_))); (case side2 => exact (Kd.R_reads' HO_12.out).2.1); rintro e w47 ⟨rfl, hb⟩; refine ⟨_, rfl, ?_⟩; replace HO_5 := Aside0.mk (Kd.R_below (by (with_reducible repeat (first | apply Kd.R_alloc | apply Kd.R_drewN | apply Kd.R_drew)); exact HO_5.out) hb); replace HO_7 := Aside0.mk (Kd.R_below (by (with_reducible repeat (first | apply Kd.R_alloc | apply Kd.R_drewN | apply Kd.R_drew)); exact HO_7.out) hb); replace HO_11 := Aside0.mk (Kd.R_below (by (with_reducible repeat (first | apply Kd.R_alloc | apply Kd.R_drewN | apply Kd.R_drew)); exact HO_11.out) hb); replace HO_12 := Aside0.mk (Kd.R_below (by (with_reducible repeat (first | apply Kd.R_alloc | apply Kd.R_drewN | apply Kd.R_drew)); exact HO_12.out) hb); replace HO_13 := Aside0.mk (Kd.R_below (by (with_reducible repeat (first | apply Kd.R_alloc | apply Kd.R_drewN | apply Kd.R_drew)); exact HO_13.out) hb); replace HB := Aside0.mk (below_step (by repeat (first | exact HB.out | apply below_alloc | apply pw_below_drewN | apply below_drew1)) hb); (try clear hb); (try clear hb2); (try clear hk); (try clear hi); obtain ⟨Ao48, co48, eo48⟩ := Kd.R_slice HO_13.out; subst eo48) | ((with_reducible refine gate_callee (f := 28) rfl ?_); refine goesL_ (some 129) rfl rfl Try.func28 (by kernel_rfl) rfl #[.slice Ao48 t433.length co48] rfl (by (try simp only [List.map_toArray, List.map_cons, List.map_nil]); first | done | rfl) ?_; (with_reducible refine (impl_SystemText.calls kj20 _ _ t433 t446 true _ ?side1 ?side2 A36.out).mono ?_); (case side1 => repeat (first | exact (Kd.R_reads' HO_13.out).2.2 | (with_reducible refine Kd.C_alloc ?_ _) | (with_reducible refine Kd.C_drewN ?_ _) | (with_reducible refine Kd.C_drew ?_))); (case side2 => exact (Kd.R_reads' HO_13.out).2.1); rintro e w49 ⟨rfl, hb⟩; refine ⟨_, rfl, ?_⟩; replace HO_5 := Aside0.mk (Kd.R_below (by (with_reducible repeat (first | apply Kd.R_alloc | apply Kd.R_drewN | apply Kd.R_drew)); exact HO_5.out) hb); replace HO_7 := Aside0.mk (Kd.R_below (by (with_reducible repeat (first | apply Kd.R_alloc | apply Kd.R_drewN | apply Kd.R_drew)); exact HO_7.out) hb); replace HO_11 := Aside0.mk (Kd.R_below (by (with_reducible repeat (first | apply Kd.R_alloc | apply Kd.R_drewN | apply Kd.R_drew)); exact HO_11.out) hb); replace HO_12 := Aside0.mk (Kd.R_below (by (with_reducible repeat (first | apply Kd.R_alloc | apply Kd.R_drewN | apply Kd.R_drew)); exact HO_12.out) hb); replace HO_13 := Aside0.mk (Kd.R_below (by (with_reducible repeat (first | apply Kd.R_alloc | apply Kd.R_drewN | apply Kd.R_drew)); exact HO_13.out) hb); replace HB := Aside0.mk (below_step (by repeat (first | exact HB.out | apply below_alloc | apply pw_below_drewN | apply below_drew1)) hb); (try clear hb); (try clear hb2); (try clear hk); (try clear hi)))
                         go_ret
                         exact ⟨by first | rfl | (simp [*, errW_none, errW_some] <;> rfl), by repeat (first | exact HB.out | apply below_alloc | apply pw_below_drewN | apply below_drew1)⟩)
                · rw [if_neg c40] at H
                  exact absurd H (by simp)
              · replace c39 := Bool.eq_false_iff.mpr c39
                subst c39
                have H1 : (some false) = some r := by rw [if_neg (show ¬ (false = true) by decide)] at H; exact H
                rw [hr_] at H1; exact absurd H1 (by decide)
            · replace c38 := Bool.eq_false_iff.mpr c38
              subst c38
              have H1 : (some false) = some r := by rw [if_neg (show ¬ (false = true) by decide)] at H; exact H
              rw [hr_] at H1; exact absurd H1 (by decide)
          · replace c37 := Bool.eq_false_iff.mpr c37
            subst c37
            have H1 : (some false) = some r := by rw [if_neg (show ¬ (false = true) by decide)] at H; exact H
            rw [hr_] at H1; exact absurd H1 (by decide)
        · replace c33 := Bool.eq_false_iff.mpr c33
          subst c33
          have H1 : (laws_FnSystemsMoved.j2 kj20 l0 l1 t414 t415 t418 t423) = some r := by rw [if_neg (show ¬ (false = true) by decide)] at H; exact H
          clear H
          have H := H1
          clear H1
          have H' := Aside0.mk H
          clear H
          go_wp2
          go_meet
          case rel => exact ⟨_, H', ⟨by have := HJ7.out; have := HJ20.out; first | omega | exact Nat.le_refl _⟩, ⟨by (with_reducible repeat (first | apply Kd.R_alloc | apply Kd.R_drewN | apply Kd.R_drew)); exact Kd.R_mono HO_5.out (fun _ hk => hk.1)⟩, ⟨by (with_reducible repeat (first | apply Kd.R_alloc | apply Kd.R_drewN | apply Kd.R_drew)); exact Kd.R_mono HO_7.out (fun _ hk => hk.1)⟩, ⟨by repeat (first | exact HB.out | apply below_alloc | apply pw_below_drewN | apply below_drew1)⟩⟩
      case rest =>
       rename_i K1_ a1_
       exact laws_FnSystemsMoved.part2 k A0 c0 l0 A1 c1 l1 r w hr_ HR0 HC0 HR1 HC1 t414 t415 t418 t419 t423 nd Ao10 co10 v420 v424 kj7 HJ7 t427 t428 t433 t434 t438 Ao23 co23 Ao24 co24 v435 v439 kj20 HJ20 HC32 wc u4 u17 u18 u19 u20 u21 u22 u61 u62 u63 u64 u65 u66 u67 u68 u69 u70 u71 u72 u73 u74 u75 u76 u77 u78 u79 u80 u81 u82 u83 u84 u85 u86 u87 u88 u89 u90 u91 u92 u93 u94 u95 u96 u97 u98 u99 u100 u101 u102 u103 u104 u105 u106 u107 u108 u109 u110 u111 u112 u113 u114 u115 u116 u117 u118 u119 u120 u121 u122 u123 u124 u125 u126 u127 u128 u129 u130 u131 u132 u133 u134 u135 u136 u137 u138 u139 u140 u141 u142 u143 u144 u145 u146 u147 u148 u149 u150 u151 u152 u153 u154 u155 u156 u157 u158 u159 u160 u161 u162 u163 u164 u165 u166 u167 u168 u169 u170 u171 u172 u173 u174 u175 u176 u177 u178 u179 u180 u181 u182 u183 u184 u185 u186 u187 u188 u189 u190 u191 u192 u193 u194 u195 u196 u197 u198 u199 u200 u201 u202 u203 u204 u205 u206 u207 u208 u209 u210 u211 u212 u213 u214 u215 u216 u217 u218 u219 u220 u221 u222 u223 u224 u225 u226 u227 u228 u229 u230 u231 u232 u233 u234 u235 u236 u237 u238 u239 u240 u241 u242 u243 u244 u245 u246 u247 u248 u249 u250 u251 u252 u253 u254 u255 u256 u257 u258 u259 u260 u261 u262 u263 u264 u265 u266 u267 u268 u269 u270 u271 u272 u273 u274 u275 u276 u277 u278 u279 u280 u281 u282 u283 u284 u285 u286 u287 u288 u289 u290 u291 u292 u293 u294 u295 u296 u297 u298 u299 u300 u301 u302 u303 u304 u305 u306 u307 u308 u309 u310 u311 u312 u313 u314 u315 u316 u317 u318 u319 u320 u321 u322 u326 u327 u328 u329 u330 u331 u332 u333 u334 u335 u336 u337 u338 u339 u340 u341 u342 u343 u344 u345 u346 u347 u348 u349 u350 u351 u352 u353 u354 u355 u356 u357 u358 u359 u360 u361 u362 u363 u364 u365 u366 u367 K1_ a1_ hcut

end Go.Proofs.Ytonobgbpgeielaa.QFnSystemsMoved
