-- Written by wip/myprint.py (a program of mine round the kit's printer). Lean checks it.
import Derived.Test.YtonobgbpgeielaaQFnSystemsMovedx8
import Derived.Test.YtonobgbpgeielaaQFnSystemsMovedx9
namespace Go.Proofs.Ytonobgbpgeielaa.QFnSystemsMoved
open Go.RowKit Go.Proofs.YtonobgbpgeielaaW.PrintWords Go.Proofs.YtonobgbpgeielaaW.PrintLast Go.Proofs.YtonobgbpgeielaaW.PrintMore
attribute [local go_sem] max2_int min2_int max_two min_two max_three min_three max_four min_four   -- for this text's walks alone
set_option linter.unusedVariables false
set_option linter.unusedSimpArgs false

noncomputable def laws_FnSystemsMoved.part7.rest : Code := ((Try.f4.body.bind (laws_FnSystemsMoved.findRest 49)).getD .skip)
noncomputable def laws_FnSystemsMoved.part7.joint : Code := ((Try.f4.body.bind (laws_FnSystemsMoved.findCond 322)).getD .skip)
set_option maxHeartbeats 8000000 in
set_option maxRecDepth 1000000 in
theorem laws_FnSystemsMoved.part7 (k : Nat) (A0 : Option Addr) (c0 : Nat) (l0 : List Int) (A1 : Option Addr) (c1 : Nat) (l1 : List Int) (r : Bool) (w : World) (hr_ : r = true) (t414 : List Int) (t415 : Int) (t418 : List Int) (t419 t423 : Bool) (Ao10 : Option Addr) (co10 : Nat) (v420 v424 : Value) (kj7 : Nat) (HJ7 : Aside0 (kj7 + 1 ≤ k)) (t427 t428 : List Int) (t434 t438 : Bool) (Ao23 : Option Addr) (co23 : Nat) (Ao24 : Option Addr) (co24 : Nat) (v435 v439 : Value) (kj20 : Nat) (HJ20 : Aside0 (kj20 + 1 ≤ kj7)) (u17 u18 : Value) (u19 u20 : Value) (u21 u22 : Value) (kj31 : Nat) (HJ31 : Aside0 (kj31 + 1 ≤ kj20)) (t448 : List Int) (t452 t456 : Bool) (t460 t464 : Bool) (Ao69 : Option Addr) (co69 : Nat) (v453 v457 : Value) (v461 v465 : Value) (kj66 : Nat) (HJ66 : Aside0 (kj66 + 1 ≤ kj31)) (u32 u33 : Value) (kj87 : Nat) (HJ87 : Aside0 (kj87 + 1 ≤ kj66)) (u4 u34 : Value) (u35 u36 : Value) (u37 u38 u39 : Value) (kj101 : Nat) (HJ101 : Aside0 (kj101 + 1 ≤ kj87)) (t482 : Int) (t483 t487 : List Int) (t488 t492 t496 : Bool) (v493 v497 : Value) (kj144 : Nat) (HJ144 : Aside0 (kj144 + 1 ≤ kj101)) (t501 : List Int) (t502 : Bool) (t505 : List Int) (t506 : Bool) (t509 : List Int) (t510 : Bool) (HC168 : Aside0 ((if t502 = true then if t506 = true then if t510 = true then (laws_sSame.f kj144 t501 t483).bind fun t513 => if t513 = true then (laws_sSame.f kj144 t505 t487).bind fun t514 => j7 kj144 t414 t415 t418 t423 t509 !t514 else j7 kj144 t414 t415 t418 t423 t509 true else j7 kj144 t414 t415 t418 t423 t509 true else j7 kj144 t414 t415 t418 t423 t509 true else j7 kj144 t414 t415 t418 t423 t509 true) = some r)) (Ao169 : Option Addr) (co169 : Nat) (v503 : Value) (Ao171 : Option Addr) (co171 : Nat) (v507 : Value) (w173 : World) (v511 : Value) (HO_5 : Aside0 ((Kd.int IntKind.i64).R 3 w173 w.heap.size (fun k => (((some k ≠ v420.ownBlock ∧ some k ≠ (Value.slice Ao169 t483.length co169).ownBlock ∧ some k ≠ (Value.slice Ao171 t487.length co171).ownBlock) ∧ some k ≠ v503.ownBlock) ∧ some k ≠ v507.ownBlock) ∧ some k ≠ v511.ownBlock) (Value.slice Ao10 t414.length co10) t414)) (HO_7 : Aside0 ((Kd.int IntKind.i64).R 3 w173 w.heap.size (fun k => (((some k ≠ (Value.slice Ao10 t414.length co10).ownBlock ∧ some k ≠ (Value.slice Ao169 t483.length co169).ownBlock ∧ some k ≠ (Value.slice Ao171 t487.length co171).ownBlock) ∧ some k ≠ v503.ownBlock) ∧ some k ≠ v507.ownBlock) ∧ some k ≠ v511.ownBlock) v420 t418)) (HB : Aside0 (Below w.heap.size w w173)) (wc : World) (u61 u62 : Value) (u63 u64 : Value) (u65 u66 : Value) (u67 u68 : Value) (u69 u70 : Value) (u71 u72 : Value) (u73 u74 : Value) (u75 u76 : Value) (u77 u78 : Value) (u79 u80 : Value) (u81 u82 : Value) (u83 u84 : Value) (u85 u86 : Value) (u87 u88 : Value) (u89 u90 : Value) (u91 u92 : Value) (u93 u94 : Value) (u95 u96 : Value) (u97 u98 : Value) (u99 u100 : Value) (u101 u102 : Value) (u103 u104 : Value) (u105 u106 : Value) (u107 u108 : Value) (u109 u110 : Value) (u111 u112 : Value) (u113 u114 : Value) (u115 u116 : Value) (u117 u118 : Value) (u119 u120 : Value) (u121 u122 : Value) (u123 u124 : Value) (u125 u126 : Value) (u127 u128 : Value) (u129 u130 : Value) (u131 u132 : Value) (u133 u134 : Value) (u135 u136 : Value) (u137 u138 : Value) (u139 u140 : Value) (u141 u142 : Value) (u143 u144 : Value) (u145 u146 : Value) (u147 u148 : Value) (u149 u150 : Value) (u151 u152 : Value) (u153 u154 : Value) (u155 u156 : Value) (u157 u158 : Value) (u159 u160 : Value) (u161 u162 : Value) (u163 u164 : Value) (u165 u166 : Value) (u167 u168 : Value) (u169 u170 : Value) (u171 u172 : Value) (u173 u174 : Value) (u175 u176 : Value) (u177 u178 : Value) (u179 u180 : Value) (u181 u182 : Value) (u183 u184 : Value) (u185 u186 : Value) (u187 u188 : Value) (u189 u190 : Value) (u191 u192 : Value) (u193 u194 : Value) (u195 u196 : Value) (u197 u198 : Value) (u199 u200 : Value) (u201 u202 : Value) (u203 u204 : Value) (u205 u206 : Value) (u207 u208 : Value) (u209 u210 : Value) (u211 u212 : Value) (u213 u214 : Value) (u215 u216 : Value) (u217 u218 : Value) (u219 u220 : Value) (u221 u222 : Value) (u223 u224 : Value) (u225 u226 : Value) (u227 u228 : Value) (u229 u230 : Value) (u231 u232 : Value) (u233 u234 : Value) (u235 u236 : Value) (u237 u238 : Value) (u239 u240 : Value) (u241 u242 : Value) (u243 u244 : Value) (u245 u246 : Value) (u247 u248 : Value) (u249 u250 : Value) (u251 u252 : Value) (u253 u254 : Value) (u255 u256 : Value) (u257 u258 : Value) (u259 u260 : Value) (u261 u262 : Value) (u263 u264 : Value) (u265 u266 : Value) (u267 u268 : Value) (u269 u270 : Value) (u271 u272 : Value) (u273 u274 : Value) (u275 u276 : Value) (u277 u278 : Value) (u279 u280 : Value) (u281 u282 : Value) (u283 u284 : Value) (u285 u286 : Value) (u287 u288 : Value) (u289 u290 : Value) (u291 u292 : Value) (u293 u294 : Value) (u295 u296 : Value) (u297 u298 : Value) (u299 u300 : Value) (u301 u302 : Value) (u303 u304 : Value) (u305 u306 : Value) (u307 u308 : Value) (u309 u310 : Value) (u311 u312 : Value) (u313 u314 : Value) (u315 u316 : Value) (u317 u318 : Value) (u319 u320 : Value) (u321 u322 : Value) (u326 u327 : Value) (u328 u329 : Value) (u330 u331 : Value) (u332 u333 : Value) (u334 u335 : Value) (u336 u337 : Value) (u338 u339 : Value) (u340 u341 : Value) (u342 u343 : Value) (u344 u345 : Value) (u346 u347 : Value) (u348 u349 : Value) (u350 u351 : Value) (u352 u353 : Value) (u354 u355 : Value) (u356 u357 : Value) (u358 u359 : Value) (u360 u361 : Value) (u362 u363 : Value) (u364 u365 : Value) (u366 u367 : Value) (J_ K0_ : Act → World → Prop) (am_ : ∀ (a' : Act) (w' : World), Met J_ a' w' → K0_ a' w') (aj_ : ∀ (a' : Act) (w' : World), (∃ u4 u49 u50 u51 u52 u53 u54 u55 u56 u61 u62 u63 u64 u65 u66 u67 u68 u69 u70 u71 u72 u73 u74 u75 u76 u77 u78 u79 u80 u81 u82 u83 u84 u85 u86 u87 u88 u89 u90 u91 u92 u93 u94 u95 u96 u97 u98 u99 u100 u101 u102 u103 u104 u105 u106 u107 u108 u109 u110 u111 u112 u113 u114 u115 u116 u117 u118 u119 u120 u121 u122 u123 u124 u125 u126 u127 u128 u129 u130 u131 u132 u133 u134 u135 u136 u137 u138 u139 u140 u141 u142 u143 u144 u145 u146 u147 u148 u149 u150 u151 u152 u153 u154 u155 u156 u157 u158 u159 u160 u161 u162 u163 u164 u165 u166 u167 u168 u169 u170 u171 u172 u173 u174 u175 u176 u177 u178 u179 u180 u181 u182 u183 u184 u185 u186 u187 u188 u189 u190 u191 u192 u193 u194 u195 u196 u197 u198 u199 u200 u201 u202 u203 u204 u205 u206 u207 u208 u209 u210 u211 u212 u213 u214 u215 u216 u217 u218 u219 u220 u221 u222 u223 u224 u225 u226 u227 u228 u229 u230 u231 u232 u233 u234 u235 u236 u237 u238 u239 u240 u241 u242 u243 u244 u245 u246 u247 u248 u249 u250 u251 u252 u253 u254 u255 u256 u257 u258 u259 u260 u261 u262 u263 u264 u265 u266 u267 u268 u269 u270 u271 u272 u273 u274 u275 u276 u277 u278 u279 u280 u281 u282 u283 u284 u285 u286 u287 u288 u289 u290 u291 u292 u293 u294 u295 u296 u297 u298 u299 u300 u301 u302 u303 u304 u305 u306 u307 u308 u309 u310 u311 u312 u313 u314 u315 u316 u317 u318 u319 u320 u321 u322 u323 u324 u325 u326 u327 u328 u329 u330 u331 u332 u333 u334 u335 u336 u337 u338 u339 u340 u341 u342 u343 u344 u345 u346 u347 u348 u349 u350 u351 u352 u353 u354 u355 u356 u357 u358 u359 u360 u361 u362 u363 u364 u365 u366 u367, (∃ kq, Aside0 (j9 kq t414 t415 t418 t423 = some r) ∧ Aside0 (kq ≤ kj144) ∧ Aside0 ((Kd.int IntKind.i64).R 3 w' w.heap.size (fun k_ => some k_ ≠ v420.ownBlock) (Value.slice Ao10 t414.length co10) t414) ∧ Aside0 ((Kd.int IntKind.i64).R 3 w' w.heap.size (fun k_ => some k_ ≠ (Value.slice Ao10 t414.length co10).ownBlock) v420 t418) ∧ Aside0 (Below w.heap.size w w')) ∧ a' = { tmps := #[Value.slice A0 l0.length c0, Value.slice A1 l1.length c1, undef, undef, u4, Value.slice Ao10 t414.length co10, Value.int IntKind.i64 t415, v420, Value.bool t419, v424, Value.bool t423, Value.slice Ao23 t427.length co23, Value.slice Ao24 t428.length co24, v435, Value.bool t434, v439, Value.bool t438, u17, u18, u19, u20, u21, u22, Value.slice Ao69 t448.length co69, v453, Value.bool t452, v457, Value.bool t456, v461, Value.bool t460, v465, Value.bool t464, u32, u33, u34, u35, u36, u37, u38, u39, Value.int IntKind.i64 t482, Value.slice Ao169 t483.length co169, Value.bool true, Value.slice Ao171 t487.length co171, Value.bool t488, v493, Value.bool t492, v497, Value.bool t496, u49, u50, u51, u52, u53, u54, u55, u56, undef, undef, undef, undef, u61, u62, u63, u64, u65, u66, u67, u68, u69, u70, u71, u72, u73, u74, u75, u76, u77, u78, u79, u80, u81, u82, u83, u84, u85, u86, u87, u88, u89, u90, u91, u92, u93, u94, u95, u96, u97, u98, u99, u100, u101, u102, u103, u104, u105, u106, u107, u108, u109, u110, u111, u112, u113, u114, u115, u116, u117, u118, u119, u120, u121, u122, u123, u124, u125, u126, u127, u128, u129, u130, u131, u132, u133, u134, u135, u136, u137, u138, u139, u140, u141, u142, u143, u144, u145, u146, u147, u148, u149, u150, u151, u152, u153, u154, u155, u156, u157, u158, u159, u160, u161, u162, u163, u164, u165, u166, u167, u168, u169, u170, u171, u172, u173, u174, u175, u176, u177, u178, u179, u180, u181, u182, u183, u184, u185, u186, u187, u188, u189, u190, u191, u192, u193, u194, u195, u196, u197, u198, u199, u200, u201, u202, u203, u204, u205, u206, u207, u208, u209, u210, u211, u212, u213, u214, u215, u216, u217, u218, u219, u220, u221, u222, u223, u224, u225, u226, u227, u228, u229, u230, u231, u232, u233, u234, u235, u236, u237, u238, u239, u240, u241, u242, u243, u244, u245, u246, u247, u248, u249, u250, u251, u252, u253, u254, u255, u256, u257, u258, u259, u260, u261, u262, u263, u264, u265, u266, u267, u268, u269, u270, u271, u272, u273, u274, u275, u276, u277, u278, u279, u280, u281, u282, u283, u284, u285, u286, u287, u288, u289, u290, u291, u292, u293, u294, u295, u296, u297, u298, u299, u300, u301, u302, u303, u304, u305, u306, u307, u308, u309, u310, u311, u312, u313, u314, u315, u316, u317, u318, u319, u320, u321, u322, u323, u324, u325, u326, u327, u328, u329, u330, u331, u332, u333, u334, u335, u336, u337, u338, u339, u340, u341, u342, u343, u344, u345, u346, u347, u348, u349, u350, u351, u352, u353, u354, u355, u356, u357, u358, u359, u360, u361, u362, u363, u364, u365, u366, u367], defers := [] }) → J_ a' w') (K1_ : Act → World → Prop) (a1_ : ∀ (a_ : Act) (w_ : World), Code.wp Try.prog laws_FnSystemsMoved.part7.rest (Exit.then K0_ (bodyPost Try.prog Try.f4 fun e w' => e = Ending.returned (Value.bool r) ∧ Below w.heap.size w w')) a_ w_ → K1_ a_ w_) (K2_ : Act → World → Prop) (a2_ : ∀ (a_ : Act) (w_ : World), Code.wp Try.prog laws_FnSystemsMoved.part7.joint (Exit.then K1_ (Exit.then K0_ (bodyPost Try.prog Try.f4 fun e w' => e = Ending.returned (Value.bool r) ∧ Below w.heap.size w w'))) a_ w_ → K2_ a_ w_) (hcut : ∃ kq x322_167, u322 = Value.bool x322_167 ∧ Aside0 (j7 kq t414 t415 t418 t423 t509 x322_167 = some r) ∧ Aside0 (kq ≤ kj144) ∧ Aside0 ((Kd.int IntKind.i64).R 3 wc w.heap.size (fun k_ => some k_ ≠ v420.ownBlock ∧ some k_ ≠ v511.ownBlock) (Value.slice Ao10 t414.length co10) t414) ∧ Aside0 ((Kd.int IntKind.i64).R 3 wc w.heap.size (fun k_ => some k_ ≠ (Value.slice Ao10 t414.length co10).ownBlock ∧ some k_ ≠ v511.ownBlock) v420 t418) ∧ Aside0 ((Kd.int IntKind.i64).R 3 wc w.heap.size (fun k_ => some k_ ≠ (Value.slice Ao10 t414.length co10).ownBlock ∧ some k_ ≠ v420.ownBlock) v511 t509) ∧ Aside0 (Below w.heap.size w wc)) :
    K2_ { tmps := #[Value.slice A0 l0.length c0, Value.slice A1 l1.length c1, undef, undef, u4, Value.slice Ao10 t414.length co10, Value.int IntKind.i64 t415, v420, Value.bool t419, v424, Value.bool t423, Value.slice Ao23 t427.length co23, Value.slice Ao24 t428.length co24, v435, Value.bool t434, v439, Value.bool t438, u17, u18, u19, u20, u21, u22, Value.slice Ao69 t448.length co69, v453, Value.bool t452, v457, Value.bool t456, v461, Value.bool t460, v465, Value.bool t464, u32, u33, u34, u35, u36, u37, u38, u39, Value.int IntKind.i64 t482, Value.slice Ao169 t483.length co169, Value.bool true, Value.slice Ao171 t487.length co171, Value.bool t488, v493, Value.bool t492, v497, Value.bool t496, v503, Value.bool t502, v507, Value.bool t506, v511, Value.bool t510, undef, undef, undef, undef, undef, undef, u61, u62, u63, u64, u65, u66, u67, u68, u69, u70, u71, u72, u73, u74, u75, u76, u77, u78, u79, u80, u81, u82, u83, u84, u85, u86, u87, u88, u89, u90, u91, u92, u93, u94, u95, u96, u97, u98, u99, u100, u101, u102, u103, u104, u105, u106, u107, u108, u109, u110, u111, u112, u113, u114, u115, u116, u117, u118, u119, u120, u121, u122, u123, u124, u125, u126, u127, u128, u129, u130, u131, u132, u133, u134, u135, u136, u137, u138, u139, u140, u141, u142, u143, u144, u145, u146, u147, u148, u149, u150, u151, u152, u153, u154, u155, u156, u157, u158, u159, u160, u161, u162, u163, u164, u165, u166, u167, u168, u169, u170, u171, u172, u173, u174, u175, u176, u177, u178, u179, u180, u181, u182, u183, u184, u185, u186, u187, u188, u189, u190, u191, u192, u193, u194, u195, u196, u197, u198, u199, u200, u201, u202, u203, u204, u205, u206, u207, u208, u209, u210, u211, u212, u213, u214, u215, u216, u217, u218, u219, u220, u221, u222, u223, u224, u225, u226, u227, u228, u229, u230, u231, u232, u233, u234, u235, u236, u237, u238, u239, u240, u241, u242, u243, u244, u245, u246, u247, u248, u249, u250, u251, u252, u253, u254, u255, u256, u257, u258, u259, u260, u261, u262, u263, u264, u265, u266, u267, u268, u269, u270, u271, u272, u273, u274, u275, u276, u277, u278, u279, u280, u281, u282, u283, u284, u285, u286, u287, u288, u289, u290, u291, u292, u293, u294, u295, u296, u297, u298, u299, u300, u301, u302, u303, u304, u305, u306, u307, u308, u309, u310, u311, u312, u313, u314, u315, u316, u317, u318, u319, u320, u321, u322, undef, undef, undef, u326, u327, u328, u329, u330, u331, u332, u333, u334, u335, u336, u337, u338, u339, u340, u341, u342, u343, u344, u345, u346, u347, u348, u349, u350, u351, u352, u353, u354, u355, u356, u357, u358, u359, u360, u361, u362, u363, u364, u365, u366, u367], defers := [] } wc := by
  obtain ⟨c_, hc_⟩ : ∃ c_, c_ = laws_FnSystemsMoved.part7.rest := ⟨_, rfl⟩
  rw [← hc_] at a1_
  conv at hc_ =>
    rhs
    whnf
  subst hc_
  obtain ⟨c_, hc_⟩ : ∃ c_, c_ = laws_FnSystemsMoved.part7.joint := ⟨_, rfl⟩
  rw [← hc_] at a2_
  conv at hc_ =>
    rhs
    whnf
  subst hc_
  clear HC168
  try clear c1
  try clear c2
  try clear p2
  try clear c3
  try clear c4
  try clear c6
  try clear c7
  try clear c8
  try clear c9
  try clear c10
  try clear c11
  try clear c13
  try clear c13b0
  try clear c13b1
  try clear c13b2
  try clear c15
  try clear c16
  try clear c17
  try clear c22
  try clear c23
  try clear c24
  try clear c25
  try clear c26
  try clear c27
  try clear c27b0
  try clear c27b1
  try clear c27b2
  try clear c28
  try clear c29
  try clear c30
  try clear c31
  try clear c32
  try clear c33
  try clear c34
  try clear c35
  try clear c36
  try clear c37
  try clear c38
  try clear c39
  try clear c40
  try clear c40b0
  try clear c40b1
  try clear c40b2
  try clear c41
  try clear c41b0
  try clear c41b1
  try clear c74
  try clear c74b0
  try clear c74b1
  try clear c74b2
  try clear c76
  try clear c77
  try clear c77b0
  try clear c77b1
  try clear c77b2
  try clear c87
  try clear c89
  try clear c91
  try clear c93
  try clear c103
  try clear c107
  try clear c108
  try clear c109
  try clear c109b0
  try clear c109b1
  try clear c109b2
  try clear c110
  try clear c110b0
  try clear c110b1
  try clear c110b2
  try clear c111
  try clear c111b0
  try clear c111b1
  try clear c112
  try clear c113
  try clear c113b0
  try clear c113b1
  try clear c151
  try clear c151b0
  try clear c151b1
  try clear c151b2
  try clear c152
  try clear c152b0
  try clear c152b1
  try clear c152b2
  try clear c154
  try clear c162
  try clear c164
  try clear c174
  try clear c175
  try clear c176
  try clear c178
  try clear p2
  obtain ⟨kq, x322_167, rfl, HA, HJ167, HO_5, HO_7, HO_53, HB⟩ := hcut
  cases kq with
  | zero => exact absurd HA.out (by simp [laws_FnSystemsMoved.j7])
  | succ kj167 =>
    have H := HA.out
    clear HA
    simp only [laws_FnSystemsMoved.j7] at H
    by_cases c183 : x322_167 = true
    · subst c183
      have H1 : (some false) = some r := by rw [if_pos rfl] at H; exact H
      rw [hr_] at H1; exact absurd H1 (by decide)
    · replace c183 := Bool.eq_false_iff.mpr c183
      subst c183
      have H1 : (laws_FnSystemsMoved.l0 kj167 t414 t415 t418 t423 t509 (t509.length : Int) 0) = some r := by rw [if_neg (show ¬ (false = true) by decide)] at H; exact H
      clear H
      have H := H1
      clear H1
      have H' := Aside0.mk H
      clear H
      obtain ⟨Ao184, co184, eo184⟩ := Kd.R_slice HO_53.out
      subst eo184
      go_wp2
      go_loopg [325] kj167 (fun kq v325 w' => ∃ (x325_9 : Int), v325 = .int .i64 x325_9 ∧ Aside0 (laws_FnSystemsMoved.l0 kq t414 t415 t418 t423 t509 (t509.length : Int) x325_9 = some r) ∧ Aside0 (kq ≤ kj167) ∧ Aside0 (Kd.R (Kd.int .i64) 3 w' w.heap.size (fun k_ => some k_ ≠ (v420 : Value).ownBlock ∧ some k_ ≠ ((.slice Ao184 t509.length co184) : Value).ownBlock) (.slice Ao10 t414.length co10) t414) ∧ Aside0 (Kd.R (Kd.int .i64) 3 w' w.heap.size (fun k_ => some k_ ≠ ((.slice Ao10 t414.length co10) : Value).ownBlock ∧ some k_ ≠ ((.slice Ao184 t509.length co184) : Value).ownBlock) v420 t418) ∧ Aside0 (Kd.R (Kd.int .i64) 3 w' w.heap.size (fun k_ => some k_ ≠ ((.slice Ao10 t414.length co10) : Value).ownBlock ∧ some k_ ≠ (v420 : Value).ownBlock) (.slice Ao184 t509.length co184) t509) ∧ Aside0 (Below w.heap.size w w'))
      case atStart => exact ⟨(0), (by first | rfl | (simp; done) | (simp [*]; done)), H', ⟨Nat.le_refl _⟩, ⟨by (with_reducible repeat (first | apply Kd.R_alloc | apply Kd.R_drewN | apply Kd.R_drew)); exact HO_5.out⟩, ⟨by (with_reducible repeat (first | apply Kd.R_alloc | apply Kd.R_drewN | apply Kd.R_drew)); exact HO_7.out⟩, ⟨by (with_reducible repeat (first | apply Kd.R_alloc | apply Kd.R_drewN | apply Kd.R_drew)); exact HO_53.out⟩, ⟨by repeat (first | exact HB.out | apply below_alloc | apply pw_below_drewN | apply below_drew1)⟩⟩
      case round =>
        clear H'
        try clear c1
        try clear c2
        try clear p2
        try clear c3
        try clear c4
        try clear c6
        try clear c7
        try clear c8
        try clear c9
        try clear c10
        try clear c11
        try clear c13
        try clear c13b0
        try clear c13b1
        try clear c13b2
        try clear c15
        try clear c16
        try clear c17
        try clear c18
        try clear c22
        try clear c23
        try clear c24
        try clear c25
        try clear c26
        try clear c27
        try clear c27b0
        try clear c27b1
        try clear c27b2
        try clear c28
        try clear c29
        try clear c30
        try clear c31
        try clear c32
        try clear c33
        try clear c34
        try clear c35
        try clear c36
        try clear c37
        try clear c38
        try clear c39
        try clear c40
        try clear c40b0
        try clear c40b1
        try clear c40b2
        try clear c41
        try clear c41b0
        try clear c41b1
        try clear c74
        try clear c74b0
        try clear c74b1
        try clear c74b2
        try clear c76
        try clear c77
        try clear c77b0
        try clear c77b1
        try clear c77b2
        try clear c87
        try clear c89
        try clear c91
        try clear c93
        try clear c103
        try clear c107
        try clear c108
        try clear c109
        try clear c109b0
        try clear c109b1
        try clear c109b2
        try clear c110
        try clear c110b0
        try clear c110b1
        try clear c110b2
        try clear c111
        try clear c111b0
        try clear c111b1
        try clear c112
        try clear c113
        try clear c113b0
        try clear c113b1
        try clear c151
        try clear c151b0
        try clear c151b1
        try clear c151b2
        try clear c152
        try clear c152b0
        try clear c152b1
        try clear c152b2
        try clear c154
        try clear c162
        try clear c164
        try clear c174
        try clear c175
        try clear c176
        try clear c178
        try clear c183
        try clear p2
        obtain ⟨x325_9, rfl, HA, HK9, HO_5, HO_7, HO_323, HB⟩ := hrel
        cases gk with
        | zero => exact absurd HA.out (by simp [laws_FnSystemsMoved.l0])
        | succ k9 =>
          have H := HA.out
          clear HA
          simp only [laws_FnSystemsMoved.l0] at H
          by_cases c185 : x325_9 < (t509.length : Int)
          · rw [if_pos c185] at H
            have c185b0 : decide (x325_9 < (t509.length : Int)) = true := decide_eq_true c185
            clear c185
            by_cases c186 : 0 ≤ x325_9
            · rw [if_pos c186] at H
              have c186b0 : decide (0 ≤ x325_9) = true := decide_eq_true c186
              clear c186
              by_cases c187 : x325_9 < (t509.length : Int)
              · rw [if_pos c187] at H
                have c187b0 : decide (x325_9 < (t509.length : Int)) = true := decide_eq_true c187
                clear c187
                by_cases c188 : (rd t509 x325_9) = x325_9
                · rw [if_pos c188] at H
                  have c188b0 : ((rd t509 x325_9) == x325_9) = true := beq_iff_eq.mpr c188
                  have c188b1 : ((rd t509 x325_9) != x325_9) = false := bne_eq_false_iff_eq.mpr c188
                  clear c188
                  have H' := Aside0.mk H
                  clear H
                  have p515 : 0 ≤ (x325_9 : Int) := of_decide_eq_true (by assumption)
                  have q515 : x325_9 < (t509.length : Int) := of_decide_eq_true (by assumption)
                  obtain ⟨ad515, e515, hx515_0⟩ := Kd.at_int (Kd.R_reads' HO_323.out).2.2 x325_9 p515 q515
                  cases e515
                  replace p515 := eq_true p515
                  replace q515 := eq_true q515
                  go_wp2
                  go_roundg k9
                  case measure => have := HJ7.out; have := HJ20.out; have := HJ31.out; have := HJ66.out; have := HJ87.out; have := HJ101.out; have := HJ144.out; have := HJ167.out; have := HK9.out; omega
                  case rel => exact ⟨(wrap64 (x325_9 + 1)), (by first | rfl | (simp; done) | (simp [*]; done)), H', ⟨by have := HJ7.out; have := HJ20.out; have := HJ31.out; have := HJ66.out; have := HJ87.out; have := HJ101.out; have := HJ144.out; have := HJ167.out; have := HK9.out; omega⟩, ⟨by (with_reducible repeat (first | apply Kd.R_alloc | apply Kd.R_drewN | apply Kd.R_drew)); exact HO_5.out⟩, ⟨by (with_reducible repeat (first | apply Kd.R_alloc | apply Kd.R_drewN | apply Kd.R_drew)); exact HO_7.out⟩, ⟨by (with_reducible repeat (first | apply Kd.R_alloc | apply Kd.R_drewN | apply Kd.R_drew)); exact HO_323.out⟩, ⟨by repeat (first | exact HB.out | apply below_alloc | apply pw_below_drewN | apply below_drew1)⟩⟩
                · rw [if_neg c188] at H
                  have c188b0 : ((rd t509 x325_9) == x325_9) = false := beq_eq_false_iff_ne.mpr c188
                  have c188b1 : ((rd t509 x325_9) != x325_9) = true := bne_iff_ne.mpr c188
                  have hrr_ := Option.some.inj H
                  rw [hr_] at hrr_
                  first
                    | exact absurd hrr_ (by decide)
                    | (clear hrr_
                       obtain rfl := Option.some.inj H
                       have p515 : 0 ≤ (x325_9 : Int) := of_decide_eq_true (by assumption)
                       have q515 : x325_9 < (t509.length : Int) := of_decide_eq_true (by assumption)
                       obtain ⟨ad515, e515, hx515_0⟩ := Kd.at_int (Kd.R_reads' HO_323.out).2.2 x325_9 p515 q515
                       cases e515
                       replace p515 := eq_true p515
                       replace q515 := eq_true q515
                       go_wp2
                       go_ret
                       exact ⟨by first | rfl | (simp [*, errW_none, errW_some] <;> rfl), by repeat (first | exact HB.out | apply below_alloc | apply pw_below_drewN | apply below_drew1)⟩)
              · rw [if_neg c187] at H
                exact absurd H (by simp)
            · rw [if_neg c186] at H
              exact absurd H (by simp)
          · rw [if_neg c185] at H
            have c185b0 : decide (x325_9 < (t509.length : Int)) = false := decide_eq_false c185
            clear c185
            have H' := Aside0.mk H
            clear H
            go_wp2
            go_meet
            case rel => exact ⟨_, H', ⟨by have := HJ7.out; have := HJ20.out; have := HJ31.out; have := HJ66.out; have := HJ87.out; have := HJ101.out; have := HJ144.out; have := HJ167.out; have := HK9.out; first | omega | exact Nat.le_refl _⟩, ⟨by (with_reducible repeat (first | apply Kd.R_alloc | apply Kd.R_drewN | apply Kd.R_drew)); exact Kd.R_mono HO_5.out (fun _ hk => hk.1)⟩, ⟨by (with_reducible repeat (first | apply Kd.R_alloc | apply Kd.R_drewN | apply Kd.R_drew)); exact Kd.R_mono HO_7.out (fun _ hk => hk.1)⟩, ⟨by repeat (first | exact HB.out | apply below_alloc | apply pw_below_drewN | apply below_drew1)⟩⟩

end Go.Proofs.Ytonobgbpgeielaa.QFnSystemsMoved
