-- Written by wip/myprint.py (a program of mine round the kit's printer). Lean checks it.
import Derived.Test.YtonobgbpgeielaaQFnSystemsMovedx8
import Derived.Test.YtonobgbpgeielaaQFnSystemsMovedx10
namespace Go.Proofs.Ytonobgbpgeielaa.QFnSystemsMoved
open Go.RowKit Go.Proofs.YtonobgbpgeielaaW.PrintWords Go.Proofs.YtonobgbpgeielaaW.PrintLast Go.Proofs.YtonobgbpgeielaaW.PrintMore
attribute [local go_sem] max2_int min2_int max_two min_two max_three min_three max_four min_four   -- for this text's walks alone
set_option linter.unusedVariables false
set_option linter.unusedSimpArgs false

noncomputable def laws_FnSystemsMoved.part6.rest : Code := ((Try.f4.body.bind (laws_FnSystemsMoved.findRest 43)).getD .skip)
noncomputable def laws_FnSystemsMoved.part6.joint : Code := ((Try.f4.body.bind (laws_FnSystemsMoved.findCond 284)).getD .skip)
set_option maxHeartbeats 8000000 in
set_option maxRecDepth 1000000 in
theorem laws_FnSystemsMoved.part6 (k : Nat) (A0 : Option Addr) (c0 : Nat) (l0 : List Int) (A1 : Option Addr) (c1 : Nat) (l1 : List Int) (r : Bool) (w : World) (hr_ : r = true) (t414 : List Int) (t415 : Int) (t418 : List Int) (t419 t423 : Bool) (nd : Nat) (Ao10 : Option Addr) (co10 : Nat) (v420 v424 : Value) (kj7 : Nat) (HJ7 : Aside0 (kj7 + 1 ≤ k)) (t427 t428 : List Int) (t434 t438 : Bool) (Ao23 : Option Addr) (co23 : Nat) (Ao24 : Option Addr) (co24 : Nat) (v435 v439 : Value) (kj20 : Nat) (HJ20 : Aside0 (kj20 + 1 ≤ kj7)) (u17 u18 : Value) (u19 u20 : Value) (u21 u22 : Value) (kj31 : Nat) (HJ31 : Aside0 (kj31 + 1 ≤ kj20)) (t448 : List Int) (t452 t456 : Bool) (t460 t464 : Bool) (Ao69 : Option Addr) (co69 : Nat) (v453 v457 : Value) (v461 v465 : Value) (kj66 : Nat) (HJ66 : Aside0 (kj66 + 1 ≤ kj31)) (u32 u33 : Value) (kj87 : Nat) (HJ87 : Aside0 (kj87 + 1 ≤ kj66)) (u4 u34 : Value) (u35 u36 : Value) (u37 u38 u39 : Value) (kj101 : Nat) (HJ101 : Aside0 (kj101 + 1 ≤ kj87)) (t482 : Int) (t483 : List Int) (t484 : Bool) (t487 : List Int) (t488 : Bool) (t491 : List Int) (t492 : Bool) (t495 : List Int) (t496 : Bool) (HC145 : Aside0 ((if (t484 != t492) = true then j6 kj101 t414 t415 t418 t423 t483 t484 t487 true else if (t488 != t496) = true then j6 kj101 t414 t415 t418 t423 t483 t484 t487 true else (laws_sSame.f kj101 t483 t491).bind fun t499 => if t499 = true then (laws_sSame.f kj101 t487 t495).bind fun t500 => j6 kj101 t414 t415 t418 t423 t483 t484 t487 !t500 else j6 kj101 t414 t415 t418 t423 t483 t484 t487 true) = some r)) (v485 v489 v493 : Value) (w150 : World) (v497 : Value) (HO_5 : Aside0 ((Kd.int IntKind.i64).R 3 w150 w.heap.size (fun k => (((some k ≠ v420.ownBlock ∧ some k ≠ v485.ownBlock) ∧ some k ≠ v489.ownBlock) ∧ some k ≠ v493.ownBlock) ∧ some k ≠ v497.ownBlock) (Value.slice Ao10 t414.length co10) t414)) (HO_7 : Aside0 ((Kd.int IntKind.i64).R 3 w150 w.heap.size (fun k => (((some k ≠ (Value.slice Ao10 t414.length co10).ownBlock ∧ some k ≠ v485.ownBlock) ∧ some k ≠ v489.ownBlock) ∧ some k ≠ v493.ownBlock) ∧ some k ≠ v497.ownBlock) v420 t418)) (HB : Aside0 (Below w.heap.size w w150)) (wc : World) (u61 u62 : Value) (u63 u64 : Value) (u65 u66 : Value) (u67 u68 : Value) (u69 u70 : Value) (u71 u72 : Value) (u73 u74 : Value) (u75 u76 : Value) (u77 u78 : Value) (u79 u80 : Value) (u81 u82 : Value) (u83 u84 : Value) (u85 u86 : Value) (u87 u88 : Value) (u89 u90 : Value) (u91 u92 : Value) (u93 u94 : Value) (u95 u96 : Value) (u97 u98 : Value) (u99 u100 : Value) (u101 u102 : Value) (u103 u104 : Value) (u105 u106 : Value) (u107 u108 : Value) (u109 u110 : Value) (u111 u112 : Value) (u113 u114 : Value) (u115 u116 : Value) (u117 u118 : Value) (u119 u120 : Value) (u121 u122 : Value) (u123 u124 : Value) (u125 u126 : Value) (u127 u128 : Value) (u129 u130 : Value) (u131 u132 : Value) (u133 u134 : Value) (u135 u136 : Value) (u137 u138 : Value) (u139 u140 : Value) (u141 u142 : Value) (u143 u144 : Value) (u145 u146 : Value) (u147 u148 : Value) (u149 u150 : Value) (u151 u152 : Value) (u153 u154 : Value) (u155 u156 : Value) (u157 u158 : Value) (u159 u160 : Value) (u161 u162 : Value) (u163 u164 : Value) (u165 u166 : Value) (u167 u168 : Value) (u169 u170 : Value) (u171 u172 : Value) (u173 u174 : Value) (u175 u176 : Value) (u177 u178 : Value) (u179 u180 : Value) (u181 u182 : Value) (u183 u184 : Value) (u185 u186 : Value) (u187 u188 : Value) (u189 u190 : Value) (u191 u192 : Value) (u193 u194 : Value) (u195 u196 : Value) (u197 u198 : Value) (u199 u200 : Value) (u201 u202 : Value) (u203 u204 : Value) (u205 u206 : Value) (u207 u208 : Value) (u209 u210 : Value) (u211 u212 : Value) (u213 u214 : Value) (u215 u216 : Value) (u217 u218 : Value) (u219 u220 : Value) (u221 u222 : Value) (u223 u224 : Value) (u225 u226 : Value) (u227 u228 : Value) (u229 u230 : Value) (u231 u232 : Value) (u233 u234 : Value) (u235 u236 : Value) (u237 u238 : Value) (u239 u240 : Value) (u241 u242 : Value) (u243 u244 : Value) (u245 u246 : Value) (u247 u248 : Value) (u249 u250 : Value) (u251 u252 : Value) (u253 u254 : Value) (u255 u256 : Value) (u257 u258 : Value) (u259 u260 : Value) (u261 u262 : Value) (u263 u264 : Value) (u265 u266 : Value) (u267 u268 : Value) (u269 u270 : Value) (u271 u272 : Value) (u273 u274 : Value) (u275 u276 : Value) (u277 u278 : Value) (u279 u280 : Value) (u281 u282 : Value) (u283 u284 : Value) (u285 u286 : Value) (u287 u288 : Value) (u289 u290 : Value) (u291 u292 : Value) (u293 u294 : Value) (u295 u296 : Value) (u297 u298 : Value) (u299 u300 : Value) (u301 u302 : Value) (u303 u304 : Value) (u305 u306 : Value) (u307 u308 : Value) (u309 u310 : Value) (u311 u312 : Value) (u313 u314 : Value) (u315 u316 : Value) (u317 u318 : Value) (u319 u320 : Value) (u321 u322 : Value) (u326 u327 : Value) (u328 u329 : Value) (u330 u331 : Value) (u332 u333 : Value) (u334 u335 : Value) (u336 u337 : Value) (u338 u339 : Value) (u340 u341 : Value) (u342 u343 : Value) (u344 u345 : Value) (u346 u347 : Value) (u348 u349 : Value) (u350 u351 : Value) (u352 u353 : Value) (u354 u355 : Value) (u356 u357 : Value) (u358 u359 : Value) (u360 u361 : Value) (u362 u363 : Value) (u364 u365 : Value) (u366 u367 : Value) (K1_ : Act → World → Prop) (a1_ : ∀ (a_ : Act) (w_ : World), Code.wp Try.prog laws_FnSystemsMoved.part6.rest (bodyPost Try.prog Try.f4 fun e w' => e = Ending.returned (Value.bool r) ∧ Below w.heap.size w w') a_ w_ → K1_ a_ w_) (K2_ : Act → World → Prop) (a2_ : ∀ (a_ : Act) (w_ : World), Code.wp Try.prog laws_FnSystemsMoved.part6.joint (Exit.then K1_ (bodyPost Try.prog Try.f4 fun e w' => e = Ending.returned (Value.bool r) ∧ Below w.heap.size w w')) a_ w_ → K2_ a_ w_) (hcut : ∃ kq x284_144, u284 = Value.bool x284_144 ∧ Aside0 (j6 kq t414 t415 t418 t423 t483 t484 t487 x284_144 = some r) ∧ Aside0 (kq ≤ kj101) ∧ Aside0 ((Kd.int IntKind.i64).R 3 wc w.heap.size (fun k_ => some k_ ≠ v420.ownBlock ∧ some k_ ≠ v485.ownBlock ∧ some k_ ≠ v489.ownBlock) (Value.slice Ao10 t414.length co10) t414) ∧ Aside0 ((Kd.int IntKind.i64).R 3 wc w.heap.size (fun k_ => some k_ ≠ (Value.slice Ao10 t414.length co10).ownBlock ∧ some k_ ≠ v485.ownBlock ∧ some k_ ≠ v489.ownBlock) v420 t418) ∧ Aside0 ((Kd.int IntKind.i64).R 3 wc w.heap.size (fun k_ => some k_ ≠ (Value.slice Ao10 t414.length co10).ownBlock ∧ some k_ ≠ v420.ownBlock ∧ some k_ ≠ v489.ownBlock) v485 t483) ∧ Aside0 ((Kd.int IntKind.i64).R 3 wc w.heap.size (fun k_ => some k_ ≠ (Value.slice Ao10 t414.length co10).ownBlock ∧ some k_ ≠ v420.ownBlock ∧ some k_ ≠ v485.ownBlock) v489 t487) ∧ Aside0 (Below w.heap.size w wc)) :
    K2_ { tmps := #[Value.slice A0 l0.length c0, Value.slice A1 l1.length c1, undef, undef, u4, Value.slice Ao10 t414.length co10, Value.int IntKind.i64 t415, v420, Value.bool t419, v424, Value.bool t423, Value.slice Ao23 t427.length co23, Value.slice Ao24 t428.length co24, v435, Value.bool t434, v439, Value.bool t438, u17, u18, u19, u20, u21, u22, Value.slice Ao69 t448.length co69, v453, Value.bool t452, v457, Value.bool t456, v461, Value.bool t460, v465, Value.bool t464, u32, u33, u34, u35, u36, u37, u38, u39, Value.int IntKind.i64 t482, v485, Value.bool t484, v489, Value.bool t488, v493, Value.bool t492, v497, Value.bool t496, undef, undef, undef, undef, undef, undef, undef, undef, undef, undef, undef, undef, u61, u62, u63, u64, u65, u66, u67, u68, u69, u70, u71, u72, u73, u74, u75, u76, u77, u78, u79, u80, u81, u82, u83, u84, u85, u86, u87, u88, u89, u90, u91, u92, u93, u94, u95, u96, u97, u98, u99, u100, u101, u102, u103, u104, u105, u106, u107, u108, u109, u110, u111, u112, u113, u114, u115, u116, u117, u118, u119, u120, u121, u122, u123, u124, u125, u126, u127, u128, u129, u130, u131, u132, u133, u134, u135, u136, u137, u138, u139, u140, u141, u142, u143, u144, u145, u146, u147, u148, u149, u150, u151, u152, u153, u154, u155, u156, u157, u158, u159, u160, u161, u162, u163, u164, u165, u166, u167, u168, u169, u170, u171, u172, u173, u174, u175, u176, u177, u178, u179, u180, u181, u182, u183, u184, u185, u186, u187, u188, u189, u190, u191, u192, u193, u194, u195, u196, u197, u198, u199, u200, u201, u202, u203, u204, u205, u206, u207, u208, u209, u210, u211, u212, u213, u214, u215, u216, u217, u218, u219, u220, u221, u222, u223, u224, u225, u226, u227, u228, u229, u230, u231, u232, u233, u234, u235, u236, u237, u238, u239, u240, u241, u242, u243, u244, u245, u246, u247, u248, u249, u250, u251, u252, u253, u254, u255, u256, u257, u258, u259, u260, u261, u262, u263, u264, u265, u266, u267, u268, u269, u270, u271, u272, u273, u274, u275, u276, u277, u278, u279, u280, u281, u282, u283, u284, u285, u286, u287, u288, u289, u290, u291, u292, u293, u294, u295, u296, u297, u298, u299, u300, u301, u302, u303, u304, u305, u306, u307, u308, u309, u310, u311, u312, u313, u314, u315, u316, u317, u318, u319, u320, u321, u322, undef, undef, undef, u326, u327, u328, u329, u330, u331, u332, u333, u334, u335, u336, u337, u338, u339, u340, u341, u342, u343, u344, u345, u346, u347, u348, u349, u350, u351, u352, u353, u354, u355, u356, u357, u358, u359, u360, u361, u362, u363, u364, u365, u366, u367], defers := [] } wc := by
  obtain ⟨c_, hc_⟩ : ∃ c_, c_ = laws_FnSystemsMoved.part6.rest := ⟨_, rfl⟩
  rw [← hc_] at a1_
  conv at hc_ =>
    rhs
    whnf
  subst hc_
  obtain ⟨c_, hc_⟩ : ∃ c_, c_ = laws_FnSystemsMoved.part6.joint := ⟨_, rfl⟩
  rw [← hc_] at a2_
  conv at hc_ =>
    rhs
    whnf
  subst hc_
  clear HC145
  try clear c1
  try clear c2
  try clear p2
  try clear c3
  try clear c4
  try clear c6
  try clear c7
  try clear c8
  try clear c9
  try clear c10
  try clear c11
  try clear c13
  try clear c13b0
  try clear c13b1
  try clear c13b2
  try clear c15
  try clear c17
  try clear c22
  try clear c23
  try clear c24
  try clear c25
  try clear c26
  try clear c27
  try clear c27b0
  try clear c27b1
  try clear c27b2
  try clear c28
  try clear c29
  try clear c30
  try clear c31
  try clear c32
  try clear c33
  try clear c34
  try clear c35
  try clear c36
  try clear c37
  try clear c38
  try clear c39
  try clear c40
  try clear c40b0
  try clear c40b1
  try clear c40b2
  try clear c41
  try clear c41b0
  try clear c41b1
  try clear c74
  try clear c74b0
  try clear c74b1
  try clear c74b2
  try clear c76
  try clear c77
  try clear c77b0
  try clear c77b1
  try clear c77b2
  try clear c87
  try clear c89
  try clear c91
  try clear c93
  try clear c103
  try clear c107
  try clear c108
  try clear c109
  try clear c109b0
  try clear c109b1
  try clear c109b2
  try clear c110
  try clear c110b0
  try clear c110b1
  try clear c110b2
  try clear c111
  try clear c111b0
  try clear c111b1
  try clear c112
  try clear c113
  try clear c113b0
  try clear c113b1
  try clear c151
  try clear c151b0
  try clear c151b1
  try clear c151b2
  try clear c152
  try clear c152b0
  try clear c152b1
  try clear c152b2
  try clear c154
  try clear p2
  obtain ⟨kq, x284_144, rfl, HA, HJ144, HO_5, HO_7, HO_41, HO_43, HB⟩ := hcut
  cases kq with
  | zero => exact absurd HA.out (by simp [laws_FnSystemsMoved.j6])
  | succ kj144 =>
    have H := HA.out
    clear HA
    simp only [laws_FnSystemsMoved.j6] at H
    by_cases c162 : x284_144 = true
    · subst c162
      have H1 : (some false) = some r := by rw [if_pos rfl] at H; exact H
      rw [hr_] at H1; exact absurd H1 (by decide)
    · replace c162 := Bool.eq_false_iff.mpr c162
      subst c162
      have H1 : (if t484 = true then ((impl_MirrorSystem.f kj144 t483).bind fun bt501 => ((impl_MirrorSystem.f kj144 t487).bind fun bt505 => ((impl_DepthsOf.f kj144 t483).bind fun bt509 => (if bt501.2 = true then (if bt505.2 = true then (if bt509.2 = true then ((laws_sSame.f kj144 bt501.1 t483).bind fun t513 => (if t513 = true then ((laws_sSame.f kj144 bt505.1 t487).bind fun t514 => (laws_FnSystemsMoved.j7 kj144 t414 t415 t418 t423 bt509.1 (!t514))) else (laws_FnSystemsMoved.j7 kj144 t414 t415 t418 t423 bt509.1 true))) else (laws_FnSystemsMoved.j7 kj144 t414 t415 t418 t423 bt509.1 true)) else (laws_FnSystemsMoved.j7 kj144 t414 t415 t418 t423 bt509.1 true)) else (laws_FnSystemsMoved.j7 kj144 t414 t415 t418 t423 bt509.1 true))))) else (laws_FnSystemsMoved.j9 kj144 t414 t415 t418 t423)) = some r := by rw [if_neg (show ¬ (false = true) by decide)] at H; exact H
      clear H
      have H := H1
      clear H1
      have HC163 := Aside0.mk H
      clear H
      go_upto_if 285 with (fail)
      go_cut [] (fun wc => ∃ (kq : Nat), Aside0 (laws_FnSystemsMoved.j9 kq t414 t415 t418 t423 = some r) ∧ Aside0 (kq ≤ kj144) ∧ Aside0 (Kd.R (Kd.int .i64) 3 wc w.heap.size (fun k_ => some k_ ≠ (v420 : Value).ownBlock) (.slice Ao10 t414.length co10) t414) ∧ Aside0 (Kd.R (Kd.int .i64) 3 wc w.heap.size (fun k_ => some k_ ≠ ((.slice Ao10 t414.length co10) : Value).ownBlock) v420 t418) ∧ Aside0 (Below w.heap.size w wc))
      case first =>
        have H := HC163.out
        clear HC163
        by_cases c164 : t484 = true
        · subst c164
          have H1 : ((impl_MirrorSystem.f kj144 t483).bind fun bt501 => ((impl_MirrorSystem.f kj144 t487).bind fun bt505 => ((impl_DepthsOf.f kj144 t483).bind fun bt509 => (if bt501.2 = true then (if bt505.2 = true then (if bt509.2 = true then ((laws_sSame.f kj144 bt501.1 t483).bind fun t513 => (if t513 = true then ((laws_sSame.f kj144 bt505.1 t487).bind fun t514 => (laws_FnSystemsMoved.j7 kj144 t414 t415 t418 t423 bt509.1 (!t514))) else (laws_FnSystemsMoved.j7 kj144 t414 t415 t418 t423 bt509.1 true))) else (laws_FnSystemsMoved.j7 kj144 t414 t415 t418 t423 bt509.1 true)) else (laws_FnSystemsMoved.j7 kj144 t414 t415 t418 t423 bt509.1 true)) else (laws_FnSystemsMoved.j7 kj144 t414 t415 t418 t423 bt509.1 true))))) = some r := by rw [if_pos rfl] at H; exact H
          clear H
          have H := H1
          clear H1
          replace H := Option.bind_eq_some_iff.mp H
          obtain ⟨⟨t501, t502⟩, A1650, H⟩ := H
          replace H : ((impl_MirrorSystem.f kj144 t487).bind fun bt505 => ((impl_DepthsOf.f kj144 t483).bind fun bt509 => (if t502 = true then (if bt505.2 = true then (if bt509.2 = true then ((laws_sSame.f kj144 t501 t483).bind fun t513 => (if t513 = true then ((laws_sSame.f kj144 bt505.1 t487).bind fun t514 => (laws_FnSystemsMoved.j7 kj144 t414 t415 t418 t423 bt509.1 (!t514))) else (laws_FnSystemsMoved.j7 kj144 t414 t415 t418 t423 bt509.1 true))) else (laws_FnSystemsMoved.j7 kj144 t414 t415 t418 t423 bt509.1 true)) else (laws_FnSystemsMoved.j7 kj144 t414 t415 t418 t423 bt509.1 true)) else (laws_FnSystemsMoved.j7 kj144 t414 t415 t418 t423 bt509.1 true)))) = some r := H
          have A165 := Aside0.mk A1650
          clear A1650
          replace H := Option.bind_eq_some_iff.mp H
          obtain ⟨⟨t505, t506⟩, A1660, H⟩ := H
          replace H : ((impl_DepthsOf.f kj144 t483).bind fun bt509 => (if t502 = true then (if t506 = true then (if bt509.2 = true then ((laws_sSame.f kj144 t501 t483).bind fun t513 => (if t513 = true then ((laws_sSame.f kj144 t505 t487).bind fun t514 => (laws_FnSystemsMoved.j7 kj144 t414 t415 t418 t423 bt509.1 (!t514))) else (laws_FnSystemsMoved.j7 kj144 t414 t415 t418 t423 bt509.1 true))) else (laws_FnSystemsMoved.j7 kj144 t414 t415 t418 t423 bt509.1 true)) else (laws_FnSystemsMoved.j7 kj144 t414 t415 t418 t423 bt509.1 true)) else (laws_FnSystemsMoved.j7 kj144 t414 t415 t418 t423 bt509.1 true))) = some r := H
          have A166 := Aside0.mk A1660
          clear A1660
          replace H := Option.bind_eq_some_iff.mp H
          obtain ⟨⟨t509, t510⟩, A1670, H⟩ := H
          replace H : (if t502 = true then (if t506 = true then (if t510 = true then ((laws_sSame.f kj144 t501 t483).bind fun t513 => (if t513 = true then ((laws_sSame.f kj144 t505 t487).bind fun t514 => (laws_FnSystemsMoved.j7 kj144 t414 t415 t418 t423 t509 (!t514))) else (laws_FnSystemsMoved.j7 kj144 t414 t415 t418 t423 t509 true))) else (laws_FnSystemsMoved.j7 kj144 t414 t415 t418 t423 t509 true)) else (laws_FnSystemsMoved.j7 kj144 t414 t415 t418 t423 t509 true)) else (laws_FnSystemsMoved.j7 kj144 t414 t415 t418 t423 t509 true)) = some r := H
          have A167 := Aside0.mk A1670
          clear A1670
          have HC168 := Aside0.mk H
          clear H
          obtain ⟨Ao169, co169, eo169⟩ := Kd.R_slice HO_41.out
          subst eo169
          go_upto_region 47 with (first | ((with_reducible refine gate_callee (f := 32) rfl ?_); refine goesL_ (some 288) rfl rfl Try.func32 (by kernel_rfl) rfl #[.slice Ao169 t483.length co169] rfl (by (try simp only [List.map_toArray, List.map_cons, List.map_nil]); first | done | rfl) ?_; (with_reducible refine (impl_MirrorSystem.calls kj144 _ _ t483 t501 t502 _ ?side1 ?side2 A165.out).mono ?_); (case side1 => repeat (first | exact (Kd.R_reads' HO_41.out).2.2 | (with_reducible refine Kd.C_alloc ?_ _) | (with_reducible refine Kd.C_drewN ?_ _) | (with_reducible refine Kd.C_drew ?_))); (case side2 => exact (Kd.R_reads' HO_41.out).2.1); rintro e w170 ⟨v503, rfl, ho0, hb⟩; refine ⟨_, rfl, ?_⟩; have HO504 := Aside0.mk (Kd.R_lower (Kd.R_new' (Kd.R_new' (Kd.R_new' (Kd.R_new' ho0 (Kd.R_lt (by (with_reducible repeat (first | apply Kd.R_alloc | apply Kd.R_drewN | apply Kd.R_drew)); exact HO_5.out))) (Kd.R_lt (by (with_reducible repeat (first | apply Kd.R_alloc | apply Kd.R_drewN | apply Kd.R_drew)); exact HO_7.out))) (Kd.R_lt (by (with_reducible repeat (first | apply Kd.R_alloc | apply Kd.R_drewN | apply Kd.R_drew)); exact HO_41.out))) (Kd.R_lt (by (with_reducible repeat (first | apply Kd.R_alloc | apply Kd.R_drewN | apply Kd.R_drew)); exact HO_43.out))) (below_size (by repeat (first | exact HB.out | apply below_alloc | apply pw_below_drewN | apply below_drew1)))); replace HO_5 := Aside0.mk (Kd.R_elder' (by (with_reducible repeat (first | apply Kd.R_alloc | apply Kd.R_drewN | apply Kd.R_drew)); exact HO_5.out) (Kd.R_base ho0) hb); replace HO_7 := Aside0.mk (Kd.R_elder' (by (with_reducible repeat (first | apply Kd.R_alloc | apply Kd.R_drewN | apply Kd.R_drew)); exact HO_7.out) (Kd.R_base ho0) hb); replace HO_41 := Aside0.mk (Kd.R_elder' (by (with_reducible repeat (first | apply Kd.R_alloc | apply Kd.R_drewN | apply Kd.R_drew)); exact HO_41.out) (Kd.R_base ho0) hb); replace HO_43 := Aside0.mk (Kd.R_elder' (by (with_reducible repeat (first | apply Kd.R_alloc | apply Kd.R_drewN | apply Kd.R_drew)); exact HO_43.out) (Kd.R_base ho0) hb); replace HB := Aside0.mk (below_step (by repeat (first | exact HB.out | apply below_alloc | apply pw_below_drewN | apply below_drew1)) hb); (try clear hb); (try clear hb2); (try clear hk); (try clear hi); (try clear ho0); obtain ⟨Ao171, co171, eo171⟩ := Kd.R_slice HO_43.out; subst eo171) | ((with_reducible refine gate_callee (f := 32) rfl ?_); refine goesL_ (some 293) rfl rfl Try.func32 (by kernel_rfl) rfl #[.slice Ao171 t487.length co171] rfl (by (try simp only [List.map_toArray, List.map_cons, List.map_nil]); first | done | rfl) ?_; (with_reducible refine (impl_MirrorSystem.calls kj144 _ _ t487 t505 t506 _ ?side1 ?side2 A166.out).mono ?_); (case side1 => repeat (first | exact (Kd.R_reads' HO_43.out).2.2 | (with_reducible refine Kd.C_alloc ?_ _) | (with_reducible refine Kd.C_drewN ?_ _) | (with_reducible refine Kd.C_drew ?_))); (case side2 => exact (Kd.R_reads' HO_43.out).2.1); rintro e w172 ⟨v507, rfl, ho0, hb⟩; refine ⟨_, rfl, ?_⟩; have HO508 := Aside0.mk (Kd.R_lower (Kd.R_new' (Kd.R_new' (Kd.R_new' (Kd.R_new' (Kd.R_new' ho0 (Kd.R_lt (by (with_reducible repeat (first | apply Kd.R_alloc | apply Kd.R_drewN | apply Kd.R_drew)); exact HO_5.out))) (Kd.R_lt (by (with_reducible repeat (first | apply Kd.R_alloc | apply Kd.R_drewN | apply Kd.R_drew)); exact HO_7.out))) (Kd.R_lt (by (with_reducible repeat (first | apply Kd.R_alloc | apply Kd.R_drewN | apply Kd.R_drew)); exact HO_41.out))) (Kd.R_lt (by (with_reducible repeat (first | apply Kd.R_alloc | apply Kd.R_drewN | apply Kd.R_drew)); exact HO_43.out))) (Kd.R_lt (by (with_reducible repeat (first | apply Kd.R_alloc | apply Kd.R_drewN | apply Kd.R_drew)); exact HO504.out))) (below_size (by repeat (first | exact HB.out | apply below_alloc | apply pw_below_drewN | apply below_drew1)))); replace HO_5 := Aside0.mk (Kd.R_elder' (by (with_reducible repeat (first | apply Kd.R_alloc | apply Kd.R_drewN | apply Kd.R_drew)); exact HO_5.out) (Kd.R_base ho0) hb); replace HO_7 := Aside0.mk (Kd.R_elder' (by (with_reducible repeat (first | apply Kd.R_alloc | apply Kd.R_drewN | apply Kd.R_drew)); exact HO_7.out) (Kd.R_base ho0) hb); replace HO_41 := Aside0.mk (Kd.R_elder' (by (with_reducible repeat (first | apply Kd.R_alloc | apply Kd.R_drewN | apply Kd.R_drew)); exact HO_41.out) (Kd.R_base ho0) hb); replace HO_43 := Aside0.mk (Kd.R_elder' (by (with_reducible repeat (first | apply Kd.R_alloc | apply Kd.R_drewN | apply Kd.R_drew)); exact HO_43.out) (Kd.R_base ho0) hb); replace HO504 := Aside0.mk (Kd.R_elder' (by (with_reducible repeat (first | apply Kd.R_alloc | apply Kd.R_drewN | apply Kd.R_drew)); exact HO504.out) (Kd.R_base ho0) hb); replace HB := Aside0.mk (below_step (by repeat (first | exact HB.out | apply below_alloc | apply pw_below_drewN | apply below_drew1)) hb); (try clear hb); (try clear hb2); (try clear hk); (try clear hi); (try clear ho0)) | ((with_reducible refine gate_callee (f := 15) rfl ?_); refine goesL_ (some 298) rfl rfl Try.func15 (by kernel_rfl) rfl #[.slice Ao169 t483.length co169] rfl (by (try simp only [List.map_toArray, List.map_cons, List.map_nil]); first | done | rfl) ?_; (with_reducible refine (impl_DepthsOf.calls kj144 _ _ t483 t509 t510 _ ?side1 ?side2 A167.out).mono ?_); (case side1 => repeat (first | exact (Kd.R_reads' HO_41.out).2.2 | (with_reducible refine Kd.C_alloc ?_ _) | (with_reducible refine Kd.C_drewN ?_ _) | (with_reducible refine Kd.C_drew ?_))); (case side2 => exact (Kd.R_reads' HO_41.out).2.1); rintro e w173 ⟨v511, rfl, ho0, hb⟩; refine ⟨_, rfl, ?_⟩; have HO512 := Aside0.mk (Kd.R_lower (Kd.R_new' (Kd.R_new' (Kd.R_new' (Kd.R_new' (Kd.R_new' (Kd.R_new' ho0 (Kd.R_lt (by (with_reducible repeat (first | apply Kd.R_alloc | apply Kd.R_drewN | apply Kd.R_drew)); exact HO_5.out))) (Kd.R_lt (by (with_reducible repeat (first | apply Kd.R_alloc | apply Kd.R_drewN | apply Kd.R_drew)); exact HO_7.out))) (Kd.R_lt (by (with_reducible repeat (first | apply Kd.R_alloc | apply Kd.R_drewN | apply Kd.R_drew)); exact HO_41.out))) (Kd.R_lt (by (with_reducible repeat (first | apply Kd.R_alloc | apply Kd.R_drewN | apply Kd.R_drew)); exact HO_43.out))) (Kd.R_lt (by (with_reducible repeat (first | apply Kd.R_alloc | apply Kd.R_drewN | apply Kd.R_drew)); exact HO504.out))) (Kd.R_lt (by (with_reducible repeat (first | apply Kd.R_alloc | apply Kd.R_drewN | apply Kd.R_drew)); exact HO508.out))) (below_size (by repeat (first | exact HB.out | apply below_alloc | apply pw_below_drewN | apply below_drew1)))); replace HO_5 := Aside0.mk (Kd.R_elder' (by (with_reducible repeat (first | apply Kd.R_alloc | apply Kd.R_drewN | apply Kd.R_drew)); exact HO_5.out) (Kd.R_base ho0) hb); replace HO_7 := Aside0.mk (Kd.R_elder' (by (with_reducible repeat (first | apply Kd.R_alloc | apply Kd.R_drewN | apply Kd.R_drew)); exact HO_7.out) (Kd.R_base ho0) hb); replace HO_41 := Aside0.mk (Kd.R_elder' (by (with_reducible repeat (first | apply Kd.R_alloc | apply Kd.R_drewN | apply Kd.R_drew)); exact HO_41.out) (Kd.R_base ho0) hb); replace HO_43 := Aside0.mk (Kd.R_elder' (by (with_reducible repeat (first | apply Kd.R_alloc | apply Kd.R_drewN | apply Kd.R_drew)); exact HO_43.out) (Kd.R_base ho0) hb); replace HO504 := Aside0.mk (Kd.R_elder' (by (with_reducible repeat (first | apply Kd.R_alloc | apply Kd.R_drewN | apply Kd.R_drew)); exact HO504.out) (Kd.R_base ho0) hb); replace HO508 := Aside0.mk (Kd.R_elder' (by (with_reducible repeat (first | apply Kd.R_alloc | apply Kd.R_drewN | apply Kd.R_drew)); exact HO508.out) (Kd.R_base ho0) hb); replace HB := Aside0.mk (below_step (by repeat (first | exact HB.out | apply below_alloc | apply pw_below_drewN | apply below_drew1)) hb); (try clear hb); (try clear hb2); (try clear hk); (try clear hi); (try clear ho0)))
          (try simp only [Act.put, List.setIfInBounds_toArray, List.set_cons_zero, List.set_cons_succ])
          go_cut [322] (fun v322 wc => ∃ (kq : Nat) (x322_167 : Bool), v322 = .bool x322_167 ∧ Aside0 (laws_FnSystemsMoved.j7 kq t414 t415 t418 t423 t509 x322_167 = some r) ∧ Aside0 (kq ≤ kj144) ∧ Aside0 (Kd.R (Kd.int .i64) 3 wc w.heap.size (fun k_ => some k_ ≠ (v420 : Value).ownBlock ∧ some k_ ≠ (v511 : Value).ownBlock) (.slice Ao10 t414.length co10) t414) ∧ Aside0 (Kd.R (Kd.int .i64) 3 wc w.heap.size (fun k_ => some k_ ≠ ((.slice Ao10 t414.length co10) : Value).ownBlock ∧ some k_ ≠ (v511 : Value).ownBlock) v420 t418) ∧ Aside0 (Kd.R (Kd.int .i64) 3 wc w.heap.size (fun k_ => some k_ ≠ ((.slice Ao10 t414.length co10) : Value).ownBlock ∧ some k_ ≠ (v420 : Value).ownBlock) v511 t509) ∧ Aside0 (Below w.heap.size w wc))
          case first =>
            have H := HC168.out
            clear HC168
            by_cases c174 : t502 = true
            · subst c174
              have H1 : (if t506 = true then (if t510 = true then ((laws_sSame.f kj144 t501 t483).bind fun t513 => (if t513 = true then ((laws_sSame.f kj144 t505 t487).bind fun t514 => (laws_FnSystemsMoved.j7 kj144 t414 t415 t418 t423 t509 (!t514))) else (laws_FnSystemsMoved.j7 kj144 t414 t415 t418 t423 t509 true))) else (laws_FnSystemsMoved.j7 kj144 t414 t415 t418 t423 t509 true)) else (laws_FnSystemsMoved.j7 kj144 t414 t415 t418 t423 t509 true)) = some r := by rw [if_pos rfl] at H; exact H
              clear H
              have H := H1
              clear H1
              by_cases c175 : t506 = true
              · subst c175
                have H1 : (if t510 = true then ((laws_sSame.f kj144 t501 t483).bind fun t513 => (if t513 = true then ((laws_sSame.f kj144 t505 t487).bind fun t514 => (laws_FnSystemsMoved.j7 kj144 t414 t415 t418 t423 t509 (!t514))) else (laws_FnSystemsMoved.j7 kj144 t414 t415 t418 t423 t509 true))) else (laws_FnSystemsMoved.j7 kj144 t414 t415 t418 t423 t509 true)) = some r := by rw [if_pos rfl] at H; exact H
                clear H
                have H := H1
                clear H1
                by_cases c176 : t510 = true
                · subst c176
                  have H1 : ((laws_sSame.f kj144 t501 t483).bind fun t513 => (if t513 = true then ((laws_sSame.f kj144 t505 t487).bind fun t514 => (laws_FnSystemsMoved.j7 kj144 t414 t415 t418 t423 t509 (!t514))) else (laws_FnSystemsMoved.j7 kj144 t414 t415 t418 t423 t509 true))) = some r := by rw [if_pos rfl] at H; exact H
                  clear H
                  have H := H1
                  clear H1
                  replace H := Option.bind_eq_some_iff.mp H
                  obtain ⟨t513, A1770, H⟩ := H
                  replace H : (if t513 = true then ((laws_sSame.f kj144 t505 t487).bind fun t514 => (laws_FnSystemsMoved.j7 kj144 t414 t415 t418 t423 t509 (!t514))) else (laws_FnSystemsMoved.j7 kj144 t414 t415 t418 t423 t509 true)) = some r := H
                  have A177 := Aside0.mk A1770
                  clear A1770
                  by_cases c178 : t513 = true
                  · subst c178
                    have H1 : ((laws_sSame.f kj144 t505 t487).bind fun t514 => (laws_FnSystemsMoved.j7 kj144 t414 t415 t418 t423 t509 (!t514))) = some r := by rw [if_pos rfl] at H; exact H
                    clear H
                    have H := H1
                    clear H1
                    replace H := Option.bind_eq_some_iff.mp H
                    obtain ⟨t514, A1790, H⟩ := H
                    replace H : (laws_FnSystemsMoved.j7 kj144 t414 t415 t418 t423 t509 (!t514)) = some r := H
                    have A179 := Aside0.mk A1790
                    clear A1790
                    have H' := Aside0.mk H
                    clear H
                    obtain ⟨Ao180, co180, eo180⟩ := Kd.R_slice HO504.out
                    subst eo180
                    go_wp2_with (first | (go_at_call 10; (with_reducible refine (laws_sSame.calls kj144 _ _ t501 _ _ t483 true _ ?side1 ?side2 ?side3 ?side4 A177.out).mono ?_); (case side1 => repeat (first | exact (Kd.R_reads' HO504.out).2.2 | (with_reducible refine Kd.C_alloc ?_ _) | (with_reducible refine Kd.C_drewN ?_ _) | (with_reducible refine Kd.C_drew ?_))); (case side2 => exact (Kd.R_reads' HO504.out).2.1); (case side3 => repeat (first | exact (Kd.R_reads' HO_41.out).2.2 | (with_reducible refine Kd.C_alloc ?_ _) | (with_reducible refine Kd.C_drewN ?_ _) | (with_reducible refine Kd.C_drew ?_))); (case side4 => exact (Kd.R_reads' HO_41.out).2.1); rintro e w' ⟨rfl, ⟨nd, rfl⟩⟩; obtain ⟨Ao181, co181, eo181⟩ := Kd.R_slice HO508.out; subst eo181) | (go_at_call 10; (with_reducible refine (laws_sSame.calls kj144 _ _ t505 _ _ t487 t514 _ ?side1 ?side2 ?side3 ?side4 A179.out).mono ?_); (case side1 => repeat (first | exact (Kd.R_reads' HO508.out).2.2 | (with_reducible refine Kd.C_alloc ?_ _) | (with_reducible refine Kd.C_drewN ?_ _) | (with_reducible refine Kd.C_drew ?_))); (case side2 => exact (Kd.R_reads' HO508.out).2.1); (case side3 => repeat (first | exact (Kd.R_reads' HO_43.out).2.2 | (with_reducible refine Kd.C_alloc ?_ _) | (with_reducible refine Kd.C_drewN ?_ _) | (with_reducible refine Kd.C_drew ?_))); (case side4 => exact (Kd.R_reads' HO_43.out).2.1); rintro e w' ⟨rfl, ⟨nd, rfl⟩⟩))
                    go_meet
                    case rel => exact ⟨_, (!t514), (by first | rfl | (simp; done) | (simp [*]; done)), H', ⟨by have := HJ7.out; have := HJ20.out; have := HJ31.out; have := HJ66.out; have := HJ87.out; have := HJ101.out; have := HJ144.out; first | omega | exact Nat.le_refl _⟩, ⟨by (with_reducible repeat (first | apply Kd.R_alloc | apply Kd.R_drewN | apply Kd.R_drew)); exact Kd.R_mono HO_5.out (fun _ hk => ⟨hk.1.1.1.1, hk.2⟩)⟩, ⟨by (with_reducible repeat (first | apply Kd.R_alloc | apply Kd.R_drewN | apply Kd.R_drew)); exact Kd.R_mono HO_7.out (fun _ hk => ⟨hk.1.1.1.1, hk.2⟩)⟩, ⟨by (with_reducible repeat (first | apply Kd.R_alloc | apply Kd.R_drewN | apply Kd.R_drew)); exact Kd.R_mono HO512.out (fun _ hk => ⟨hk.1.1.1.1.1.2, hk.1.1.1.1.2⟩)⟩, ⟨by repeat (first | exact HB.out | apply below_alloc | apply pw_below_drewN | apply below_drew1)⟩⟩
                  · replace c178 := Bool.eq_false_iff.mpr c178
                    subst c178
                    have H1 : (laws_FnSystemsMoved.j7 kj144 t414 t415 t418 t423 t509 true) = some r := by rw [if_neg (show ¬ (false = true) by decide)] at H; exact H
                    rw [hr_] at H1; exact absurd H1 (laws_FnSystemsMoved.j7_no _ _ _ _ _ _)
                · replace c176 := Bool.eq_false_iff.mpr c176
                  subst c176
                  have H1 : (laws_FnSystemsMoved.j7 kj144 t414 t415 t418 t423 t509 true) = some r := by rw [if_neg (show ¬ (false = true) by decide)] at H; exact H
                  rw [hr_] at H1; exact absurd H1 (laws_FnSystemsMoved.j7_no _ _ _ _ _ _)
              · replace c175 := Bool.eq_false_iff.mpr c175
                subst c175
                have H1 : (laws_FnSystemsMoved.j7 kj144 t414 t415 t418 t423 t509 true) = some r := by rw [if_neg (show ¬ (false = true) by decide)] at H; exact H
                rw [hr_] at H1; exact absurd H1 (laws_FnSystemsMoved.j7_no _ _ _ _ _ _)
            · replace c174 := Bool.eq_false_iff.mpr c174
              subst c174
              have H1 : (laws_FnSystemsMoved.j7 kj144 t414 t415 t418 t423 t509 true) = some r := by rw [if_neg (show ¬ (false = true) by decide)] at H; exact H
              rw [hr_] at H1; exact absurd H1 (laws_FnSystemsMoved.j7_no _ _ _ _ _ _)
          case rest =>
           rename_i J_ K0_ am_ x0_ x1_ aj_ K1_ a1_ K2_ a2_
           exact laws_FnSystemsMoved.part7 k A0 c0 l0 A1 c1 l1 r w hr_ t414 t415 t418 t419 t423 Ao10 co10 v420 v424 kj7 HJ7 t427 t428 t434 t438 Ao23 co23 Ao24 co24 v435 v439 kj20 HJ20 u17 u18 u19 u20 u21 u22 kj31 HJ31 t448 t452 t456 t460 t464 Ao69 co69 v453 v457 v461 v465 kj66 HJ66 u32 u33 kj87 HJ87 u4 u34 u35 u36 u37 u38 u39 kj101 HJ101 t482 t483 t487 t488 t492 t496 v493 v497 kj144 HJ144 t501 t502 t505 t506 t509 t510 HC168 Ao169 co169 v503 Ao171 co171 v507 w173 v511 HO_5 HO_7 HB wc u61 u62 u63 u64 u65 u66 u67 u68 u69 u70 u71 u72 u73 u74 u75 u76 u77 u78 u79 u80 u81 u82 u83 u84 u85 u86 u87 u88 u89 u90 u91 u92 u93 u94 u95 u96 u97 u98 u99 u100 u101 u102 u103 u104 u105 u106 u107 u108 u109 u110 u111 u112 u113 u114 u115 u116 u117 u118 u119 u120 u121 u122 u123 u124 u125 u126 u127 u128 u129 u130 u131 u132 u133 u134 u135 u136 u137 u138 u139 u140 u141 u142 u143 u144 u145 u146 u147 u148 u149 u150 u151 u152 u153 u154 u155 u156 u157 u158 u159 u160 u161 u162 u163 u164 u165 u166 u167 u168 u169 u170 u171 u172 u173 u174 u175 u176 u177 u178 u179 u180 u181 u182 u183 u184 u185 u186 u187 u188 u189 u190 u191 u192 u193 u194 u195 u196 u197 u198 u199 u200 u201 u202 u203 u204 u205 u206 u207 u208 u209 u210 u211 u212 u213 u214 u215 u216 u217 u218 u219 u220 u221 u222 u223 u224 u225 u226 u227 u228 u229 u230 u231 u232 u233 u234 u235 u236 u237 u238 u239 u240 u241 u242 u243 u244 u245 u246 u247 u248 u249 u250 u251 u252 u253 u254 u255 u256 u257 u258 u259 u260 u261 u262 u263 u264 u265 u266 u267 u268 u269 u270 u271 u272 u273 u274 u275 u276 u277 u278 u279 u280 u281 u282 u283 u284 u285 u286 u287 u288 u289 u290 u291 u292 u293 u294 u295 u296 u297 u298 u299 u300 u301 u302 u303 u304 u305 u306 u307 u308 u309 u310 u311 u312 u313 u314 u315 u316 u317 u318 u319 u320 u321 u322 u326 u327 u328 u329 u330 u331 u332 u333 u334 u335 u336 u337 u338 u339 u340 u341 u342 u343 u344 u345 u346 u347 u348 u349 u350 u351 u352 u353 u354 u355 u356 u357 u358 u359 u360 u361 u362 u363 u364 u365 u366 u367 J_ K0_ am_ aj_ K1_ a1_ K2_ a2_ hcut
        · replace c164 := Bool.eq_false_iff.mpr c164
          subst c164
          have H1 : (laws_FnSystemsMoved.j9 kj144 t414 t415 t418 t423) = some r := by rw [if_neg (show ¬ (false = true) by decide)] at H; exact H
          clear H
          have H := H1
          clear H1
          have H' := Aside0.mk H
          clear H
          go_wp2
          go_meet
          case rel => exact ⟨_, H', ⟨by have := HJ7.out; have := HJ20.out; have := HJ31.out; have := HJ66.out; have := HJ87.out; have := HJ101.out; have := HJ144.out; first | omega | exact Nat.le_refl _⟩, ⟨by (with_reducible repeat (first | apply Kd.R_alloc | apply Kd.R_drewN | apply Kd.R_drew)); exact Kd.R_mono HO_5.out (fun _ hk => hk.1)⟩, ⟨by (with_reducible repeat (first | apply Kd.R_alloc | apply Kd.R_drewN | apply Kd.R_drew)); exact Kd.R_mono HO_7.out (fun _ hk => hk.1)⟩, ⟨by repeat (first | exact HB.out | apply below_alloc | apply pw_below_drewN | apply below_drew1)⟩⟩
      case rest =>
       rename_i K1_ a1_
       exact laws_FnSystemsMoved.part8 A0 c0 l0 A1 c1 l1 r w hr_ t414 t415 t418 t419 t423 nd Ao10 co10 v420 v424 t427 t428 t434 t438 Ao23 co23 Ao24 co24 v435 v439 u17 u18 u19 u20 u21 u22 t448 t452 t456 t460 t464 Ao69 co69 v453 v457 v461 v465 u32 u33 u34 u35 u36 u37 u38 u39 t482 t483 t484 t487 t488 t492 t496 v485 v489 v493 v497 kj144 HC163 wc u4 u49 u50 u51 u52 u53 u54 u55 u56 u61 u62 u63 u64 u65 u66 u67 u68 u69 u70 u71 u72 u73 u74 u75 u76 u77 u78 u79 u80 u81 u82 u83 u84 u85 u86 u87 u88 u89 u90 u91 u92 u93 u94 u95 u96 u97 u98 u99 u100 u101 u102 u103 u104 u105 u106 u107 u108 u109 u110 u111 u112 u113 u114 u115 u116 u117 u118 u119 u120 u121 u122 u123 u124 u125 u126 u127 u128 u129 u130 u131 u132 u133 u134 u135 u136 u137 u138 u139 u140 u141 u142 u143 u144 u145 u146 u147 u148 u149 u150 u151 u152 u153 u154 u155 u156 u157 u158 u159 u160 u161 u162 u163 u164 u165 u166 u167 u168 u169 u170 u171 u172 u173 u174 u175 u176 u177 u178 u179 u180 u181 u182 u183 u184 u185 u186 u187 u188 u189 u190 u191 u192 u193 u194 u195 u196 u197 u198 u199 u200 u201 u202 u203 u204 u205 u206 u207 u208 u209 u210 u211 u212 u213 u214 u215 u216 u217 u218 u219 u220 u221 u222 u223 u224 u225 u226 u227 u228 u229 u230 u231 u232 u233 u234 u235 u236 u237 u238 u239 u240 u241 u242 u243 u244 u245 u246 u247 u248 u249 u250 u251 u252 u253 u254 u255 u256 u257 u258 u259 u260 u261 u262 u263 u264 u265 u266 u267 u268 u269 u270 u271 u272 u273 u274 u275 u276 u277 u278 u279 u280 u281 u282 u283 u284 u285 u286 u287 u288 u289 u290 u291 u292 u293 u294 u295 u296 u297 u298 u299 u300 u301 u302 u303 u304 u305 u306 u307 u308 u309 u310 u311 u312 u313 u314 u315 u316 u317 u318 u319 u320 u321 u322 u323 u324 u325 u326 u327 u328 u329 u330 u331 u332 u333 u334 u335 u336 u337 u338 u339 u340 u341 u342 u343 u344 u345 u346 u347 u348 u349 u350 u351 u352 u353 u354 u355 u356 u357 u358 u359 u360 u361 u362 u363 u364 u365 u366 u367 K1_ a1_ hcut

end Go.Proofs.Ytonobgbpgeielaa.QFnSystemsMoved
