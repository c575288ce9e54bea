-- Written by wip/myprint.py (a program of mine round the kit's printer). Lean checks it.
import Derived.Test.YtfencncopkeobaaQFnComponentsWalkedx9
import Derived.Test.YtfencncopkeobaaQFnComponentsWalkedx11
namespace Go.Proofs.Ytfencncopkeobaa.QFnComponentsWalked
open Go.RowKit Go.Proofs.YtfencncopkeobaaW.PrintWords Go.Proofs.YtfencncopkeobaaW.PrintLast Go.Proofs.YtfencncopkeobaaW.PrintMore
attribute [local go_sem] max2_int min2_int max_two min_two max_three min_three max_four min_four   -- for this text's walks alone
set_option linter.unusedVariables false
set_option linter.unusedSimpArgs false

noncomputable def laws_FnComponentsWalked.part2.rest : Code := ((Try.f3.body.bind (laws_FnComponentsWalked.findRest 19)).getD .skip)
noncomputable def laws_FnComponentsWalked.part2.joint : Code := ((Try.f3.body.bind (laws_FnComponentsWalked.findCond 145)).getD .skip)
set_option maxHeartbeats 8000000 in
set_option maxRecDepth 1000000 in
theorem laws_FnComponentsWalked.part2 (k : Nat) (A0 : Option Addr) (c0 : Nat) (l0 : List Int) (A1 : Option Addr) (c1 : Nat) (l1 : List Int) (r : Bool) (w : World) (hr_ : r = true) (hu26 : Try.prog.underlying 26 = some (TypeDesc.struct #[{ name := "Top", type := 24, offset := 0, embedded := false, tag := "", pkgPath := "", byteOffset := 0 }, { name := "Bottom", type := 24, offset := 1, embedded := false, tag := "", pkgPath := "", byteOffset := 24 }])) (t420 t423 : List Int) (t427 : List (List Int)) (t430 t434 : Bool) (t435 : Int) (t436 : Bool) (t437 : List Int) (t440 t444 : Bool) (gb426 : Nat) (GE426 : Aside0 (w.heap.size ≤ gb426)) (Ao14 : Option Addr) (co14 : Nat) (Ao16 : Option Addr) (co16 : Nat) (v428 v432 : Value) (v438 v442 : Value) (kj10 : Nat) (HJ10 : Aside0 (kj10 + 1 ≤ k)) (t448 t451 : List Int) (t454 : Int) (t456 : List Int) (t463 : Bool) (gb455 : Nat) (GE455 : Aside0 (w.heap.size ≤ gb455)) (Ao62 : Option Addr) (co62 : Nat) (Ao65 : Option Addr) (co65 : Nat) (v457 v461 : Value) (kj58 : Nat) (HJ58 : Aside0 (kj58 + 1 ≤ kj10)) (HC76 : Aside0 ((if 0 < ((t456.length : Nat) : Int) then if rd t456 0 = t454 then j2 kj58 l1 t427 t434 t435 t437 t456 (((t456.length : Nat) : Int) % 2 == 1) t420 t423 t448 t451 else j2 kj58 l1 t427 t434 t435 t437 t456 true t420 t423 t448 t451 else none) = some r)) (wc : World) (u42 u43 : Value) (u44 u45 : Value) (u46 u47 : Value) (u48 u49 : Value) (u50 u51 : Value) (u52 u53 : Value) (u54 u55 : Value) (u56 u57 : Value) (u58 u59 : Value) (u60 u61 : Value) (u62 u63 : Value) (u64 u65 : Value) (u66 u67 : Value) (u68 u69 : Value) (u70 u71 : Value) (u72 u73 : Value) (u74 u75 : Value) (u76 u77 : Value) (u78 u79 : Value) (u80 u81 : Value) (u82 u83 : Value) (u84 u85 : Value) (u86 u87 : Value) (u88 u89 : Value) (u90 u91 : Value) (u92 u93 : Value) (u94 u95 : Value) (u96 u97 : Value) (u98 u99 : Value) (u100 u101 : Value) (u102 u103 : Value) (u104 u105 : Value) (u106 u107 : Value) (u108 u109 : Value) (u110 u111 : Value) (u112 u113 : Value) (u114 u115 : Value) (u116 u117 : Value) (u118 u119 : Value) (u120 u121 : Value) (u122 u123 : Value) (u124 u125 : Value) (u126 u127 : Value) (u128 u129 : Value) (u130 u131 : Value) (u132 u133 : Value) (u134 u135 : Value) (u136 u137 : Value) (u138 u139 : Value) (u140 u141 : Value) (u142 u143 : Value) (u144 u145 : Value) (u146 u147 : Value) (u148 u149 : Value) (u150 u151 : Value) (u152 u153 : Value) (u154 u155 : Value) (u156 u157 : Value) (u158 u159 : Value) (u160 u161 : Value) (u162 u163 : Value) (u164 u165 : Value) (u166 u167 : Value) (u168 u169 : Value) (u170 u171 : Value) (u172 u173 : Value) (u174 u175 : Value) (u176 u177 : Value) (u178 u179 : Value) (u180 u181 : Value) (u182 u183 : Value) (u184 u185 : Value) (u186 u187 : Value) (u188 u189 : Value) (u190 u191 : Value) (u192 u193 : Value) (u194 u195 : Value) (u196 u197 : Value) (u198 u199 : Value) (u200 u201 : Value) (u202 u203 : Value) (u204 u205 : Value) (u206 u207 : Value) (u211 u212 : Value) (u213 u214 : Value) (u215 u216 : Value) (u217 u218 : Value) (u222 u223 : Value) (u224 u225 : Value) (u226 u227 : Value) (u228 u229 : Value) (u230 u231 : Value) (u232 u233 : Value) (u234 u235 : Value) (u236 u237 : Value) (u238 u239 : Value) (u240 u241 : Value) (u242 u243 : Value) (u244 u245 : Value) (u246 u247 : Value) (u248 u249 : Value) (u250 u251 : Value) (u252 u253 : Value) (u254 u255 : Value) (u256 u257 : Value) (u258 u259 : Value) (u260 u261 : Value) (u262 u263 : Value) (u264 u265 : Value) (u266 u267 : Value) (u268 u269 : Value) (u270 u271 : Value) (u272 u273 : Value) (u274 u275 : Value) (u276 u277 : Value) (u278 u279 : Value) (u280 u281 : Value) (u282 u283 : Value) (u284 u285 : Value) (u286 u287 : Value) (u288 u289 : Value) (u290 u291 : Value) (u292 u293 : Value) (u294 u295 : Value) (u296 u297 : Value) (u298 u299 : Value) (u300 u301 : Value) (u302 u303 : Value) (u304 u305 : Value) (u306 u307 : Value) (u308 u309 : Value) (u310 u311 : Value) (u312 u313 : Value) (u314 u315 : Value) (u316 u317 : Value) (u318 u319 : Value) (u320 u321 : Value) (u322 u323 : Value) (u324 u325 : Value) (u326 u327 : Value) (u328 u329 : Value) (u330 u331 : Value) (u332 u333 : Value) (u334 u335 : Value) (u336 u337 : Value) (u338 u339 : Value) (u340 u341 : Value) (u342 u343 : Value) (u344 u345 : Value) (u346 u347 u348 : Value) (J_ K0_ : Act → World → Prop) (am_ : ∀ (a' : Act) (w' : World), Met J_ a' w' → K0_ a' w') (aj_ : ∀ (a' : Act) (w' : World), (∃ u4 u22 u42 u43 u44 u45 u46 u47 u48 u49 u50 u51 u52 u53 u54 u55 u56 u57 u58 u59 u60 u61 u62 u63 u64 u65 u66 u67 u68 u69 u70 u71 u72 u73 u74 u75 u76 u77 u78 u79 u80 u81 u82 u83 u84 u85 u86 u87 u88 u89 u90 u91 u92 u93 u94 u95 u96 u97 u98 u99 u100 u101 u102 u103 u104 u105 u106 u107 u108 u109 u110 u111 u112 u113 u114 u115 u116 u117 u118 u119 u120 u121 u122 u123 u124 u125 u126 u127 u128 u129 u130 u131 u132 u133 u134 u135 u136 u137 u138 u139 u140 u141 u142 u143 u144 u145 u146 u147 u148 u149 u150 u151 u152 u153 u154 u155 u156 u157 u158 u159 u160 u161 u162 u163 u164 u165 u166 u167 u168 u169 u170 u171 u172 u173 u174 u175 u176 u177 u178 u179 u180 u181 u182 u183 u184 u185 u186 u187 u188 u189 u190 u191 u192 u193 u194 u195 u196 u197 u198 u199 u200 u201 u202 u203 u204 u205 u206 u207 u211 u212 u213 u214 u215 u216 u217 u218 u222 u223 u224 u225 u226 u227 u228 u229 u230 u231 u232 u233 u234 u235 u236 u237 u238 u239 u240 u241 u242 u243 u244 u245 u246 u247 u248 u249 u250 u251 u252 u253 u254 u255 u256 u257 u258 u259 u260 u261 u262 u263 u264 u265 u266 u267 u268 u269 u270 u271 u272 u273 u274 u275 u276 u277 u278 u279 u280 u281 u282 u283 u284 u285 u286 u287 u288 u289 u290 u291 u292 u293 u294 u295 u296 u297 u298 u299 u300 u301 u302 u303 u304 u305 u306 u307 u308 u309 u310 u311 u312 u313 u314 u315 u316 u317 u318 u319 u320 u321 u322 u323 u324 u325 u326 u327 u328 u329 u330 u331 u332 u333 u334 u335 u336 u337 u338 u339 u340 u341 u342 u343 u344 u345 u346 u347 u348, (∃ kq, Aside0 (j4 kq l1 t427 t434 t435 t437 t420 t423 = some r) ∧ Aside0 (kq ≤ kj58) ∧ Aside0 ((Kd.slice 3 (Kd.int IntKind.i64)).S 24 w' w.heap.size (fun k_ => some k_ ≠ v438.ownBlock ∧ some k_ ≠ (Value.slice Ao14 t420.length co14).ownBlock ∧ some k_ ≠ (Value.slice Ao16 t423.length co16).ownBlock ∧ some k_ ≠ (Value.slice Ao62 t448.length co62).ownBlock ∧ some k_ ≠ (Value.slice Ao65 t451.length co65).ownBlock) v428 t427) ∧ Aside0 ((Kd.int IntKind.i64).R 3 w' w.heap.size (fun k_ => some k_ ≠ (Value.slice Ao14 t420.length co14).ownBlock ∧ some k_ ≠ (Value.slice Ao16 t423.length co16).ownBlock ∧ some k_ ≠ (Value.slice Ao62 t448.length co62).ownBlock ∧ some k_ ≠ (Value.slice Ao65 t451.length co65).ownBlock) v438 t437) ∧ Aside0 ((Kd.int IntKind.i64).R 3 w' w.heap.size (fun k_ => some k_ ≠ v438.ownBlock ∧ some k_ ≠ (Value.slice Ao16 t423.length co16).ownBlock ∧ some k_ ≠ (Value.slice Ao62 t448.length co62).ownBlock ∧ some k_ ≠ (Value.slice Ao65 t451.length co65).ownBlock) (Value.slice Ao14 t420.length co14) t420) ∧ Aside0 ((Kd.int IntKind.i64).R 3 w' w.heap.size (fun k_ => some k_ ≠ v438.ownBlock ∧ some k_ ≠ (Value.slice Ao14 t420.length co14).ownBlock ∧ some k_ ≠ (Value.slice Ao62 t448.length co62).ownBlock ∧ some k_ ≠ (Value.slice Ao65 t451.length co65).ownBlock) (Value.slice Ao16 t423.length co16) t423) ∧ Aside0 ((Kd.int IntKind.i64).R 3 w' w.heap.size (fun k_ => some k_ ≠ v438.ownBlock ∧ some k_ ≠ (Value.slice Ao14 t420.length co14).ownBlock ∧ some k_ ≠ (Value.slice Ao16 t423.length co16).ownBlock ∧ some k_ ≠ (Value.slice Ao65 t451.length co65).ownBlock) (Value.slice Ao62 t448.length co62) t448) ∧ Aside0 ((Kd.int IntKind.i64).R 3 w' w.heap.size (fun k_ => some k_ ≠ v438.ownBlock ∧ some k_ ≠ (Value.slice Ao14 t420.length co14).ownBlock ∧ some k_ ≠ (Value.slice Ao16 t423.length co16).ownBlock ∧ some k_ ≠ (Value.slice Ao62 t448.length co62).ownBlock) (Value.slice Ao65 t451.length co65) t451) ∧ Aside0 (w'.heap[gb426]? = some (Obj.cells #[Value.slice Ao14 t420.length co14, Value.slice Ao16 t423.length co16] 26)) ∧ Aside0 (w'.heap[gb455]? = some (Obj.cells #[Value.slice Ao62 t448.length co62, Value.slice Ao65 t451.length co65] 26)) ∧ Aside0 (Below w.heap.size w w')) ∧ a' = { tmps := #[Value.slice A0 l0.length c0, Value.slice A1 l1.length c1, undef, undef, u4, Value.pointer (some { block := gb426, off := 0 }), v428, Value.bool t430, v432, Value.bool t434, Value.int IntKind.i64 t435, Value.bool t436, v438, Value.bool t440, v442, Value.bool t444, Value.pointer (some { block := gb455, off := 0 }), Value.int IntKind.i64 t454, v457, Value.bool true, v461, Value.bool t463, u22, undef, undef, undef, undef, undef, undef, undef, undef, undef, undef, undef, undef, undef, undef, undef, undef, undef, undef, undef, u42, u43, u44, u45, u46, u47, u48, u49, u50, u51, u52, u53, u54, u55, u56, u57, u58, u59, u60, u61, u62, u63, u64, u65, u66, u67, u68, u69, u70, u71, u72, u73, u74, u75, u76, u77, u78, u79, u80, u81, u82, u83, u84, u85, u86, u87, u88, u89, u90, u91, u92, u93, u94, u95, u96, u97, u98, u99, u100, u101, u102, u103, u104, u105, u106, u107, u108, u109, u110, u111, u112, u113, u114, u115, u116, u117, u118, u119, u120, u121, u122, u123, u124, u125, u126, u127, u128, u129, u130, u131, u132, u133, u134, u135, u136, u137, u138, u139, u140, u141, u142, u143, u144, u145, u146, u147, u148, u149, u150, u151, u152, u153, u154, u155, u156, u157, u158, u159, u160, u161, u162, u163, u164, u165, u166, u167, u168, u169, u170, u171, u172, u173, u174, u175, u176, u177, u178, u179, u180, u181, u182, u183, u184, u185, u186, u187, u188, u189, u190, u191, u192, u193, u194, u195, u196, u197, u198, u199, u200, u201, u202, u203, u204, u205, u206, u207, undef, undef, undef, u211, u212, u213, u214, u215, u216, u217, u218, undef, undef, undef, u222, u223, u224, u225, u226, u227, u228, u229, u230, u231, u232, u233, u234, u235, u236, u237, u238, u239, u240, u241, u242, u243, u244, u245, u246, u247, u248, u249, u250, u251, u252, u253, u254, u255, u256, u257, u258, u259, u260, u261, u262, u263, u264, u265, u266, u267, u268, u269, u270, u271, u272, u273, u274, u275, u276, u277, u278, u279, u280, u281, u282, u283, u284, u285, u286, u287, u288, u289, u290, u291, u292, u293, u294, u295, u296, u297, u298, u299, u300, u301, u302, u303, u304, u305, u306, u307, u308, u309, u310, u311, u312, u313, u314, u315, u316, u317, u318, u319, u320, u321, u322, u323, u324, u325, u326, u327, u328, u329, u330, u331, u332, u333, u334, u335, u336, u337, u338, u339, u340, u341, u342, u343, u344, u345, u346, u347, u348], defers := [] }) → J_ a' w') (K1_ : Act → World → Prop) (a1_ : ∀ (a_ : Act) (w_ : World), Code.wp Try.prog laws_FnComponentsWalked.part2.rest (Exit.then K0_ (bodyPost Try.prog Try.f3 fun e w' => e = Ending.returned (Value.bool r) ∧ Below w.heap.size w w')) a_ w_ → K1_ a_ w_) (K2_ : Act → World → Prop) (a2_ : ∀ (a_ : Act) (w_ : World), Code.wp Try.prog laws_FnComponentsWalked.part2.joint (Exit.then K1_ (Exit.then K0_ (bodyPost Try.prog Try.f3 fun e w' => e = Ending.returned (Value.bool r) ∧ Below w.heap.size w w'))) a_ w_ → K2_ a_ w_) (hcut : ∃ kq x145_75, u145 = Value.bool x145_75 ∧ Aside0 (j2 kq l1 t427 t434 t435 t437 t456 x145_75 t420 t423 t448 t451 = some r) ∧ Aside0 (kq ≤ kj58) ∧ Aside0 ((Kd.slice 3 (Kd.int IntKind.i64)).S 24 wc w.heap.size (fun k_ => some k_ ≠ v438.ownBlock ∧ some k_ ≠ v457.ownBlock ∧ some k_ ≠ (Value.slice Ao14 t420.length co14).ownBlock ∧ some k_ ≠ (Value.slice Ao16 t423.length co16).ownBlock ∧ some k_ ≠ (Value.slice Ao62 t448.length co62).ownBlock ∧ some k_ ≠ (Value.slice Ao65 t451.length co65).ownBlock) v428 t427) ∧ Aside0 ((Kd.int IntKind.i64).R 3 wc w.heap.size (fun k_ => some k_ ≠ v457.ownBlock ∧ some k_ ≠ (Value.slice Ao14 t420.length co14).ownBlock ∧ some k_ ≠ (Value.slice Ao16 t423.length co16).ownBlock ∧ some k_ ≠ (Value.slice Ao62 t448.length co62).ownBlock ∧ some k_ ≠ (Value.slice Ao65 t451.length co65).ownBlock) v438 t437) ∧ Aside0 ((Kd.int IntKind.i64).R 3 wc w.heap.size (fun k_ => some k_ ≠ v438.ownBlock ∧ some k_ ≠ (Value.slice Ao14 t420.length co14).ownBlock ∧ some k_ ≠ (Value.slice Ao16 t423.length co16).ownBlock ∧ some k_ ≠ (Value.slice Ao62 t448.length co62).ownBlock ∧ some k_ ≠ (Value.slice Ao65 t451.length co65).ownBlock) v457 t456) ∧ Aside0 ((Kd.int IntKind.i64).R 3 wc w.heap.size (fun k_ => some k_ ≠ v438.ownBlock ∧ some k_ ≠ v457.ownBlock ∧ some k_ ≠ (Value.slice Ao16 t423.length co16).ownBlock ∧ some k_ ≠ (Value.slice Ao62 t448.length co62).ownBlock ∧ some k_ ≠ (Value.slice Ao65 t451.length co65).ownBlock) (Value.slice Ao14 t420.length co14) t420) ∧ Aside0 ((Kd.int IntKind.i64).R 3 wc w.heap.size (fun k_ => some k_ ≠ v438.ownBlock ∧ some k_ ≠ v457.ownBlock ∧ some k_ ≠ (Value.slice Ao14 t420.length co14).ownBlock ∧ some k_ ≠ (Value.slice Ao62 t448.length co62).ownBlock ∧ some k_ ≠ (Value.slice Ao65 t451.length co65).ownBlock) (Value.slice Ao16 t423.length co16) t423) ∧ Aside0 ((Kd.int IntKind.i64).R 3 wc w.heap.size (fun k_ => some k_ ≠ v438.ownBlock ∧ some k_ ≠ v457.ownBlock ∧ some k_ ≠ (Value.slice Ao14 t420.length co14).ownBlock ∧ some k_ ≠ (Value.slice Ao16 t423.length co16).ownBlock ∧ some k_ ≠ (Value.slice Ao65 t451.length co65).ownBlock) (Value.slice Ao62 t448.length co62) t448) ∧ Aside0 ((Kd.int IntKind.i64).R 3 wc w.heap.size (fun k_ => some k_ ≠ v438.ownBlock ∧ some k_ ≠ v457.ownBlock ∧ some k_ ≠ (Value.slice Ao14 t420.length co14).ownBlock ∧ some k_ ≠ (Value.slice Ao16 t423.length co16).ownBlock ∧ some k_ ≠ (Value.slice Ao62 t448.length co62).ownBlock) (Value.slice Ao65 t451.length co65) t451) ∧ Aside0 (wc.heap[gb426]? = some (Obj.cells #[Value.slice Ao14 t420.length co14, Value.slice Ao16 t423.length co16] 26)) ∧ Aside0 (wc.heap[gb455]? = some (Obj.cells #[Value.slice Ao62 t448.length co62, Value.slice Ao65 t451.length co65] 26)) ∧ Aside0 (Below w.heap.size w wc)) :
 K2_ { tmps := #[Value.slice A0 l0.length c0, Value.slice A1 l1.length c1, undef, undef, Value.bool false, Value.pointer (some { block := gb426, off := 0 }), v428, Value.bool t430, v432, Value.bool t434, Value.int IntKind.i64 t435, Value.bool t436, v438, Value.bool t440, v442, Value.bool t444, Value.pointer (some { block := gb455, off := 0 }), Value.int IntKind.i64 t454, v457, Value.bool true, v461, Value.bool t463, undef, undef, undef, undef, undef, undef, undef, undef, undef, undef, undef, undef, undef, undef, undef, undef, undef, undef, undef, undef, u42, u43, u44, u45, u46, u47, u48, u49, u50, u51, u52, u53, u54, u55, u56, u57, u58, u59, u60, u61, u62, u63, u64, u65, u66, u67, u68, u69, u70, u71, u72, u73, u74, u75, u76, u77, u78, u79, u80, u81, u82, u83, u84, u85, u86, u87, u88, u89, u90, u91, u92, u93, u94, u95, u96, u97, u98, u99, u100, u101, u102, u103, u104, u105, u106, u107, u108, u109, u110, u111, u112, u113, u114, u115, u116, u117, u118, u119, u120, u121, u122, u123, u124, u125, u126, u127, u128, u129, u130, u131, u132, u133, u134, u135, u136, u137, u138, u139, u140, u141, u142, u143, u144, u145, u146, u147, u148, u149, u150, u151, u152, u153, u154, u155, u156, u157, u158, u159, u160, u161, u162, u163, u164, u165, u166, u167, u168, u169, u170, u171, u172, u173, u174, u175, u176, u177, u178, u179, u180, u181, u182, u183, u184, u185, u186, u187, u188, u189, u190, u191, u192, u193, u194, u195, u196, u197, u198, u199, u200, u201, u202, u203, u204, u205, u206, u207, undef, undef, undef, u211, u212, u213, u214, u215, u216, u217, u218, undef, undef, undef, u222, u223, u224, u225, u226, u227, u228, u229, u230, u231, u232, u233, u234, u235, u236, u237, u238, u239, u240, u241, u242, u243, u244, u245, u246, u247, u248, u249, u250, u251, u252, u253, u254, u255, u256, u257, u258, u259, u260, u261, u262, u263, u264, u265, u266, u267, u268, u269, u270, u271, u272, u273, u274, u275, u276, u277, u278, u279, u280, u281, u282, u283, u284, u285, u286, u287, u288, u289, u290, u291, u292, u293, u294, u295, u296, u297, u298, u299, u300, u301, u302, u303, u304, u305, u306, u307, u308, u309, u310, u311, u312, u313, u314, u315, u316, u317, u318, u319, u320, u321, u322, u323, u324, u325, u326, u327, u328, u329, u330, u331, u332, u333, u334, u335, u336, u337, u338, u339, u340, u341, u342, u343, u344, u345, u346, u347, u348], defers := [] } wc := by
 obtain ⟨c_, hc_⟩ : ∃ c_, c_ = laws_FnComponentsWalked.part2.rest := ⟨_, rfl⟩
 rw [← hc_] at a1_
 conv at hc_ =>
  rhs
  whnf
 subst hc_
 obtain ⟨c_, hc_⟩ : ∃ c_, c_ = laws_FnComponentsWalked.part2.joint := ⟨_, rfl⟩
 rw [← hc_] at a2_
 conv at hc_ =>
  rhs
  whnf
 subst hc_
 clear HC76
 try clear p2
 try clear p4
 try clear q4
 try clear hx4
 try clear qi4
 try clear p46
 try clear q46
 try clear hx46
 try clear qi46
 try clear hcz15_0
 try clear hcz15_1
 try clear hcz18_0
 try clear hcz18_1
 try clear hcz20_0
 try clear hcz20_1
 try clear hcz22_0
 try clear hcz22_1
 try clear hcz24_0
 try clear hcz24_1
 try clear hcz47_0
 try clear hcz47_1
 try clear hcz64_0
 try clear hcz64_1
 try clear hcz67_0
 try clear hcz67_1
 try clear hfz15_0
 try clear hfz15_1
 try clear hfz18_0
 try clear hfz18_1
 try clear hfz20_0
 try clear hfz20_1
 try clear hfz22_0
 try clear hfz22_1
 try clear hfz24_0
 try clear hfz24_1
 try clear hfz47_0
 try clear hfz47_1
 try clear hfz64_0
 try clear hfz64_1
 try clear hfz67_0
 try clear hfz67_1
 try clear hx465_0
 try clear p2
 try clear p465
 try clear q465
 obtain ⟨kq, x145_75, rfl, HA, HJ75, HO_6, HO_12, HO_18, HO_427000, HO_427001, HO_456000, HO_456001, BK426, BK455, HB⟩ := hcut
 cases kq with
 | zero => exact absurd HA.out (by simp [laws_FnComponentsWalked.j2])
 | succ kj75 =>
  have H := HA.out
  clear HA
  simp only [laws_FnComponentsWalked.j2] at H
  by_cases c81 : x145_75 = true
  ·subst c81
   have H1 : (some false) = some r := by rw [if_pos rfl] at H; exact H
   rw [hr_] at H1; exact absurd H1 (by decide)
  ·replace c81 := Bool.eq_false_iff.mpr c81
   subst c81
   have H1 : (laws_FnComponentsWalked.l0 kj75 l1 t427 t434 t435 t437 t456 0 t420 t423 t448 t451) = some r := by rw [if_neg (show ¬ (false = true) by decide)] at H; exact H
   clear H
   have H := H1
   clear H1
   have H' := Aside0.mk H
   clear H
   go_wp2
   go_loopg [22] kj75 (fun kq v22 w' => ∃ (x22_4 : Int), v22 = .int .i64 x22_4 ∧ Aside0 (laws_FnComponentsWalked.l0 kq l1 t427 t434 t435 t437 t456 x22_4 t420 t423 t448 t451 = some r) ∧ Aside0 (kq ≤ kj75) ∧ Aside0 (Kd.S (Kd.slice 3 (Kd.int .i64)) 24 w' w.heap.size (fun k_ => some k_ ≠ (v438 : Value).ownBlock ∧ some k_ ≠ (v457 : Value).ownBlock ∧ some k_ ≠ ((.slice Ao14 t420.length co14) : Value).ownBlock ∧ some k_ ≠ ((.slice Ao16 t423.length co16) : Value).ownBlock ∧ some k_ ≠ ((.slice Ao62 t448.length co62) : Value).ownBlock ∧ some k_ ≠ ((.slice Ao65 t451.length co65) : Value).ownBlock) v428 t427) ∧ Aside0 (Kd.R (Kd.int .i64) 3 w' w.heap.size (fun k_ => some k_ ≠ (v457 : Value).ownBlock ∧ some k_ ≠ ((.slice Ao14 t420.length co14) : Value).ownBlock ∧ some k_ ≠ ((.slice Ao16 t423.length co16) : Value).ownBlock ∧ some k_ ≠ ((.slice Ao62 t448.length co62) : Value).ownBlock ∧ some k_ ≠ ((.slice Ao65 t451.length co65) : Value).ownBlock) v438 t437) ∧ Aside0 (Kd.R (Kd.int .i64) 3 w' w.heap.size (fun k_ => some k_ ≠ (v438 : Value).ownBlock ∧ some k_ ≠ ((.slice Ao14 t420.length co14) : Value).ownBlock ∧ some k_ ≠ ((.slice Ao16 t423.length co16) : Value).ownBlock ∧ some k_ ≠ ((.slice Ao62 t448.length co62) : Value).ownBlock ∧ some k_ ≠ ((.slice Ao65 t451.length co65) : Value).ownBlock) v457 t456) ∧ Aside0 (Kd.R (Kd.int .i64) 3 w' w.heap.size (fun k_ => some k_ ≠ (v438 : Value).ownBlock ∧ some k_ ≠ (v457 : Value).ownBlock ∧ some k_ ≠ ((.slice Ao16 t423.length co16) : Value).ownBlock ∧ some k_ ≠ ((.slice Ao62 t448.length co62) : Value).ownBlock ∧ some k_ ≠ ((.slice Ao65 t451.length co65) : Value).ownBlock) (.slice Ao14 t420.length co14) t420) ∧ Aside0 (Kd.R (Kd.int .i64) 3 w' w.heap.size (fun k_ => some k_ ≠ (v438 : Value).ownBlock ∧ some k_ ≠ (v457 : Value).ownBlock ∧ some k_ ≠ ((.slice Ao14 t420.length co14) : Value).ownBlock ∧ some k_ ≠ ((.slice Ao62 t448.length co62) : Value).ownBlock ∧ some k_ ≠ ((.slice Ao65 t451.length co65) : Value).ownBlock) (.slice Ao16 t423.length co16) t423) ∧ Aside0 (Kd.R (Kd.int .i64) 3 w' w.heap.size (fun k_ => some k_ ≠ (v438 : Value).ownBlock ∧ some k_ ≠ (v457 : Value).ownBlock ∧ some k_ ≠ ((.slice Ao14 t420.length co14) : Value).ownBlock ∧ some k_ ≠ ((.slice Ao16 t423.length co16) : Value).ownBlock ∧ some k_ ≠ ((.slice Ao65 t451.length co65) : Value).ownBlock) (.slice Ao62 t448.length co62) t448) ∧ Aside0 (Kd.R (Kd.int .i64) 3 w' w.heap.size (fun k_ => some k_ ≠ (v438 : Value).ownBlock ∧ some k_ ≠ (v457 : Value).ownBlock ∧ some k_ ≠ ((.slice Ao14 t420.length co14) : Value).ownBlock ∧ some k_ ≠ ((.slice Ao16 t423.length co16) : Value).ownBlock ∧ some k_ ≠ ((.slice Ao62 t448.length co62) : Value).ownBlock) (.slice Ao65 t451.length co65) t451) ∧ Aside0 (w'.heap[gb426]? = some (.cells #[(.slice Ao14 t420.length co14), (.slice Ao16 t423.length co16)] 26 (0, 0))) ∧ Aside0 (w'.heap[gb455]? = some (.cells #[(.slice Ao62 t448.length co62), (.slice Ao65 t451.length co65)] 26 (0, 0))) ∧ Aside0 (Below w.heap.size w w'))
   case atStart => exact ⟨(0), (by first | rfl | (simp; done) | (simp [*]; done)), H', ⟨Nat.le_refl _⟩, ⟨by (with_reducible repeat (first | apply Kd.S_alloc | apply Kd.S_drewN | apply Kd.S_drew)); exact HO_6.out⟩, ⟨by (with_reducible repeat (first | apply rA | apply rN | apply rD)); exact HO_12.out⟩, ⟨by (with_reducible repeat (first | apply rA | apply rN | apply rD)); exact HO_18.out⟩, ⟨by (with_reducible repeat (first | apply rA | apply rN | apply rD)); exact HO_427000.out⟩, ⟨by (with_reducible repeat (first | apply rA | apply rN | apply rD)); exact HO_427001.out⟩, ⟨by (with_reducible repeat (first | apply rA | apply rN | apply rD)); exact HO_456000.out⟩, ⟨by (with_reducible repeat (first | apply rA | apply rN | apply rD)); exact HO_456001.out⟩, ⟨by (with_reducible repeat (first | refine blk_drewN ?_ _ | refine blk_drew ?_ | refine blk_alloc ?_ _)); exact BK426.out⟩, ⟨by (with_reducible repeat (first | refine blk_drewN ?_ _ | refine blk_drew ?_ | refine blk_alloc ?_ _)); exact BK455.out⟩, ⟨by repeat (first | exact HB.out | apply bA | apply bN | apply bD | refine below_set ?_ GE426.out | refine below_set ?_ GE455.out)⟩⟩
   case round =>
    clear H'
    try clear p2
    try clear p4
    try clear q4
    try clear hx4
    try clear qi4
    try clear p46
    try clear q46
    try clear hx46
    try clear qi46
    try clear hcz15_0
    try clear hcz15_1
    try clear hcz18_0
    try clear hcz18_1
    try clear hcz20_0
    try clear hcz20_1
    try clear hcz22_0
    try clear hcz22_1
    try clear hcz24_0
    try clear hcz24_1
    try clear hcz47_0
    try clear hcz47_1
    try clear hcz64_0
    try clear hcz64_1
    try clear hcz67_0
    try clear hcz67_1
    try clear hfz15_0
    try clear hfz15_1
    try clear hfz18_0
    try clear hfz18_1
    try clear hfz20_0
    try clear hfz20_1
    try clear hfz22_0
    try clear hfz22_1
    try clear hfz24_0
    try clear hfz24_1
    try clear hfz47_0
    try clear hfz47_1
    try clear hfz64_0
    try clear hfz64_1
    try clear hfz67_0
    try clear hfz67_1
    try clear hx465_0
    try clear p2
    try clear p4
    try clear p46
    try clear p465
    try clear q4
    try clear q46
    try clear q465
    obtain ⟨x22_4, rfl, HA, HK4, HO_6, HO_12, HO_18, HO_427000, HO_427001, HO_456000, HO_456001, BK426, BK455, HB⟩ := hrel
    cases gk with
    | zero => exact absurd HA.out (by simp [laws_FnComponentsWalked.l0])
    | succ k4 =>
     have H := HA.out
     clear HA
     simp only [laws_FnComponentsWalked.l0] at H
     by_cases c82 : x22_4 < (t456.length : Int)
     ·rw [if_pos c82] at H
      have c82b0 : decide (x22_4 < (t456.length : Int)) = true := decide_eq_true c82
      clear c82
      by_cases c83 : 0 ≤ x22_4
      ·rw [if_pos c83] at H
       have c83b0 : decide (0 ≤ x22_4) = true := decide_eq_true c83
       clear c83
       by_cases c84 : 0 ≤ (rd t456 x22_4)
       ·rw [if_pos c84] at H
        have c84b0 : decide (0 ≤ (rd t456 x22_4)) = true := decide_eq_true c84
        clear c84
        by_cases c85 : (rd t456 x22_4) < (t448.length : Int)
        ·rw [if_pos c85] at H
         have c85b0 : decide ((rd t456 x22_4) < (t448.length : Int)) = true := decide_eq_true c85
         clear c85
         obtain ⟨ji86, hji86⟩ : ∃ j_ : Int, (wrap64 (x22_4 + 1)) = j_ := ⟨_, rfl⟩
         replace H : (if 0 ≤ (ji86) then (if (ji86) < (t456.length : Int) then (if (rd t448 (rd t456 x22_4)) = (rd t456 (ji86)) then (if 0 ≤ (rd t456 (ji86)) then (if (rd t456 (ji86)) < (t451.length : Int) then (if (t456.length : Int) = 0 then (none) else (if 0 ≤ (Int.tmod (wrap64 (x22_4 + 2)) (t456.length : Int)) then (if (Int.tmod (wrap64 (x22_4 + 2)) (t456.length : Int)) < (t456.length : Int) then (if (rd t451 (rd t456 (ji86))) = (rd t456 (Int.tmod (wrap64 (x22_4 + 2)) (t456.length : Int))) then (laws_FnComponentsWalked.l0 k4 l1 t427 t434 t435 t437 t456 (wrap64 (x22_4 + 2)) t420 t423 t448 t451) else (some false)) else (none)) else (none))) else (none)) else (none)) else (some false)) else (none)) else (none)) = some r := by first | (rw [hji86] at H; exact H) | (simp only [hji86] at H ⊢; exact H)
         have hji86w : (IntKind.i64.wrap (x22_4 + 1)) = ji86 := (i64_w _).trans hji86
         by_cases c87 : 0 ≤ (ji86)
         ·rw [if_pos c87] at H
          have c87b0 : decide (0 ≤ (ji86)) = true := decide_eq_true c87
          clear c87
          by_cases c88 : (ji86) < (t456.length : Int)
          ·rw [if_pos c88] at H
           have c88b0 : decide ((ji86) < (t456.length : Int)) = true := decide_eq_true c88
           clear c88
           by_cases c89 : (rd t448 (rd t456 x22_4)) = (rd t456 (ji86))
           ·rw [if_pos c89] at H
            have c89b0 : ((rd t448 (rd t456 x22_4)) == (rd t456 (ji86))) = true := beq_iff_eq.mpr c89
            have c89b1 : ((rd t448 (rd t456 x22_4)) != (rd t456 (ji86))) = false := bne_eq_false_iff_eq.mpr c89
            clear c89
            by_cases c90 : 0 ≤ (rd t456 (ji86))
            ·rw [if_pos c90] at H
             have c90b0 : decide (0 ≤ (rd t456 (ji86))) = true := decide_eq_true c90
             clear c90
             by_cases c91 : (rd t456 (ji86)) < (t451.length : Int)
             ·rw [if_pos c91] at H
              have c91b0 : decide ((rd t456 (ji86)) < (t451.length : Int)) = true := decide_eq_true c91
              clear c91
              by_cases c92 : (t456.length : Int) = 0
              ·rw [if_pos c92] at H
               exact absurd H (by simp)
              ·rw [if_neg c92] at H
               have c92b0 : ((t456.length : Int) == 0) = false := beq_eq_false_iff_ne.mpr c92
               have c92b1 : ((t456.length : Int) != 0) = true := bne_iff_ne.mpr c92
               have c92b2 : ¬ (t456 = []) := fun h_ => c92 (by rw [h_]; rfl)
               obtain ⟨ji93, hji93⟩ : ∃ j_ : Int, (Int.tmod (wrap64 (x22_4 + 2)) (t456.length : Int)) = j_ := ⟨_, rfl⟩
               replace H : (if 0 ≤ (ji93) then (if (ji93) < (t456.length : Int) then (if (rd t451 (rd t456 (ji86))) = (rd t456 (ji93)) then (laws_FnComponentsWalked.l0 k4 l1 t427 t434 t435 t437 t456 (wrap64 (x22_4 + 2)) t420 t423 t448 t451) else (some false)) else (none)) else (none)) = some r := by first | (rw [hji93] at H; exact H) | (simp only [hji93] at H ⊢; exact H)
               by_cases c94 : 0 ≤ (ji93)
               ·rw [if_pos c94] at H
                have c94b0 : decide (0 ≤ (ji93)) = true := decide_eq_true c94
                clear c94
                by_cases c95 : (ji93) < (t456.length : Int)
                ·rw [if_pos c95] at H
                 have c95b0 : decide ((ji93) < (t456.length : Int)) = true := decide_eq_true c95
                 clear c95
                 by_cases c96 : (rd t451 (rd t456 (ji86))) = (rd t456 (ji93))
                 ·rw [if_pos c96] at H
                  have c96b0 : ((rd t451 (rd t456 (ji86))) == (rd t456 (ji93))) = true := beq_iff_eq.mpr c96
                  have c96b1 : ((rd t451 (rd t456 (ji86))) != (rd t456 (ji93))) = false := bne_eq_false_iff_eq.mpr c96
                  clear c96
                  have H' := Aside0.mk H
                  clear H
                  obtain ⟨Ao97, co97, eo97⟩ := Kd.R_slice HO_18.out
                  subst eo97
                  try go_wp2
                  replace HO_6 := Aside0.mk (Kd.S_drew HO_6.out)
                  replace HO_12 := Aside0.mk (Kd.R_drew HO_12.out)
                  replace HO_18 := Aside0.mk (Kd.R_drew HO_18.out)
                  replace HO_427000 := Aside0.mk (Kd.R_drew HO_427000.out)
                  replace HO_427001 := Aside0.mk (Kd.R_drew HO_427001.out)
                  replace HO_456000 := Aside0.mk (Kd.R_drew HO_456000.out)
                  replace HO_456001 := Aside0.mk (Kd.R_drew HO_456001.out)
                  replace BK426 := Aside0.mk (blk_drew BK426.out)
                  replace BK455 := Aside0.mk (blk_drew BK455.out)
                  replace HB := Aside0.mk (below_drew1 HB.out)
                  have p466 : 0 ≤ (x22_4 : Int) := of_decide_eq_true (by assumption)
                  have q466 : x22_4 < (t456.length : Int) := of_decide_eq_true (by assumption)
                  obtain ⟨ad466, e466, hx466_0⟩ := Kd.at_int (Kd.R_reads' HO_18.out).2.2 x22_4 p466 q466
                  cases e466
                  replace p466 := eq_true p466
                  replace q466 := eq_true q466
                  have p467 : 0 ≤ ((rd t456 x22_4) : Int) := of_decide_eq_true (by assumption)
                  have q467 : (rd t456 x22_4) < (t448.length : Int) := of_decide_eq_true (by assumption)
                  obtain ⟨ad467, e467, hx467_0⟩ := Kd.at_int (Kd.R_reads' HO_456000.out).2.2 (rd t456 x22_4) p467 q467
                  cases e467
                  replace p467 := eq_true p467
                  replace q467 := eq_true q467
                  have p468 : 0 ≤ ((ji86) : Int) := of_decide_eq_true (by assumption)
                  have q468 : (ji86) < (t456.length : Int) := of_decide_eq_true (by assumption)
                  obtain ⟨ad468, e468, hx468_0⟩ := Kd.at_int (Kd.R_reads' HO_18.out).2.2 (ji86) p468 q468
                  obtain rfl : ad466 = ad468 := (by injection e468)
                  replace p468 := eq_true p468
                  replace q468 := eq_true q468
                  have p469 : 0 ≤ ((ji86) : Int) := of_decide_eq_true (by assumption)
                  have q469 : (ji86) < (t456.length : Int) := of_decide_eq_true (by assumption)
                  obtain ⟨ad469, e469, hx469_0⟩ := Kd.at_int (Kd.R_reads' HO_18.out).2.2 (ji86) p469 q469
                  obtain rfl : ad466 = ad469 := (by injection e469)
                  replace p469 := eq_true p469
                  replace q469 := eq_true q469
                  have p470 : 0 ≤ ((rd t456 (ji86)) : Int) := of_decide_eq_true (by assumption)
                  have q470 : (rd t456 (ji86)) < (t451.length : Int) := of_decide_eq_true (by assumption)
                  obtain ⟨ad470, e470, hx470_0⟩ := Kd.at_int (Kd.R_reads' HO_456001.out).2.2 (rd t456 (ji86)) p470 q470
                  cases e470
                  replace p470 := eq_true p470
                  replace q470 := eq_true q470
                  have p471 : 0 ≤ ((ji93) : Int) := of_decide_eq_true (by assumption)
                  have q471 : (ji93) < (t456.length : Int) := of_decide_eq_true (by assumption)
                  obtain ⟨ad471, e471, hx471_0⟩ := Kd.at_int (Kd.R_reads' HO_18.out).2.2 (ji93) p471 q471
                  obtain rfl : ad466 = ad471 := (by injection e471)
                  replace p471 := eq_true p471
                  replace q471 := eq_true q471
                  refine start_ (n := 34) (S := fun w' => w'.cell? ⟨gb455, 0, none⟩ = some (.slice (some ad467) t448.length co62) ∧ w'.cell? ⟨gb455, 1, none⟩ = some (.slice (some ad470) t451.length co65) ∧ w'.cell? (ad466.add (x22_4).toNat) = some (.int .i64 (rd t456 x22_4)) ∧ w'.cell? (ad467.add ((rd t456 x22_4)).toNat) = some (.int .i64 (rd t448 (rd t456 x22_4))) ∧ w'.cell? (ad466.add ((ji86)).toNat) = some (.int .i64 (rd t456 (ji86))) ∧ w'.cell? (ad466.add ((ji86)).toNat) = some (.int .i64 (rd t456 (ji86))) ∧ w'.cell? (ad470.add ((rd t456 (ji86))).toNat) = some (.int .i64 (rd t451 (rd t456 (ji86)))) ∧ w'.cell? (ad466.add ((ji93)).toNat) = some (.int .i64 (rd t456 (ji93)))) (ds := []) #[false, false, false, false, false, false, false, false, false, false, false, false, false, false, false, false, false, false, false, false, false, false, false, false, false, false, false, false, false, false, false, false, false, false] (by kernel_rfl) rfl rfl ⟨(blk_cell BK455.out 0).trans rfl, (blk_cell BK455.out 1).trans rfl, hx466_0, hx467_0, hx468_0, hx469_0, hx470_0, hx471_0⟩ (fun hHeld => ?_); refine with_tabW laws_FnComponentsWalked.tab22 laws_FnComponentsWalked.bits22 (fun HT_ HW_ => ?_)
                  generalize wr.drew = w98 at HO_6 HO_12 HO_18 HO_427000 HO_427001 HO_456000 HO_456001 BK426 BK455 HB hx466_0 hx467_0 hx468_0 hx469_0 hx470_0 hx471_0 hHeld ⊢
                  refine pure_ (i := 0) (N := some 152) (v := ?_) (a' := ?_) #[true, false, false, false, false, false, false, false, false, false, false, false, false, false, false, false, false, false, false, false, false, false, false, false, false, false, false, false, false, false, false, false, false, false] rfl rfl (any_of HT_.out (by kernel_rfl)) (fun _ _ _ h => h) (Or.inl ⟨by rfl, ?_⟩) ?_ ?_
                  rotate_left
                  ·intro w'
                   go_simp
                   with_reducible rfl
                  rotate_left
                  ·simp only [Act.put, List.setIfInBounds_toArray, List.set_cons_zero, List.set_cons_succ, i64_w, i32_w]
                   rfl
                  refine pure_ (i := 2) (N := some 154) (v := ?_) (a' := ?_) #[true, false, true, false, false, false, false, false, false, false, false, false, false, false, false, false, false, false, false, false, false, false, false, false, false, false, false, false, false, false, false, false, false, false] rfl rfl (any_of HT_.out (by kernel_rfl)) (fun _ _ _ h => h) (Or.inl ⟨by rfl, ?_⟩) ?_ ?_
                  rotate_left
                  ·intro w'
                   go_simp
                   with_reducible rfl
                  rotate_left
                  ·simp only [Act.put, List.setIfInBounds_toArray, List.set_cons_zero, List.set_cons_succ, i64_w, i32_w]
                   rfl
                  refine pure_ (i := 3) (N := some 155) (v := ?_) (a' := ?_) #[true, false, true, true, false, false, false, false, false, false, false, false, false, false, false, false, false, false, false, false, false, false, false, false, false, false, false, false, false, false, false, false, false, false] rfl rfl (any_of HT_.out (by kernel_rfl)) (fun _ _ _ h => h) (Or.inl ⟨by rfl, ?_⟩) ?_ ?_
                  rotate_left
                  ·intro w'
                   go_simp
                   with_reducible rfl
                  rotate_left
                  ·simp only [Act.put, List.setIfInBounds_toArray, List.set_cons_zero, List.set_cons_succ, i64_w, i32_w]
                   rfl
                  refine pure_ (i := 4) (N := some 156) (v := ?_) (a' := ?_) #[true, false, true, true, true, false, false, false, false, false, false, false, false, false, false, false, false, false, false, false, false, false, false, false, false, false, false, false, false, false, false, false, false, false] rfl rfl (any_of HT_.out (by kernel_rfl)) (fun _ _ _ h => h) (Or.inl ⟨by rfl, ?_⟩) ?_ ?_
                  rotate_left
                  ·intro w'
                   go_simp
                   with_reducible rfl
                  rotate_left
                  ·simp only [Act.put, List.setIfInBounds_toArray, List.set_cons_zero, List.set_cons_succ, i64_w, i32_w]
                   rfl
                  refine pure_ (i := 8) (N := some 160) (v := ?_) (a' := ?_) #[true, false, true, true, true, false, false, false, true, false, false, false, false, false, false, false, false, false, false, false, false, false, false, false, false, false, false, false, false, false, false, false, false, false] rfl rfl (any_of HT_.out (by kernel_rfl)) (fun _ _ _ h => h) (Or.inl ⟨by rfl, ?_⟩) ?_ ?_
                  rotate_left
                  ·intro w'
                   go_simp
                   with_reducible rfl
                  rotate_left
                  ·simp only [Act.put, List.setIfInBounds_toArray, List.set_cons_zero, List.set_cons_succ, i64_w, i32_w]
                   rfl
                  refine pure_ (i := 9) (N := some 161) (v := ?_) (a' := ?_) #[true, false, true, true, true, false, false, false, true, true, false, false, false, false, false, false, false, false, false, false, false, false, false, false, false, false, false, false, false, false, false, false, false, false] rfl rfl (any_of HT_.out (by kernel_rfl)) (fun _ _ _ h => h) (Or.inl ⟨by rfl, ?_⟩) ?_ ?_
                  rotate_left
                  ·intro w'
                   go_simp
                   with_reducible rfl
                  rotate_left
                  ·simp only [Act.put, List.setIfInBounds_toArray, List.set_cons_zero, List.set_cons_succ, i64_w, i32_w]
                   rfl
                  refine pure_ (i := 10) (N := some 162) (v := ?_) (a' := ?_) #[true, false, true, true, true, false, false, false, true, true, true, false, false, false, false, false, false, false, false, false, false, false, false, false, false, false, false, false, false, false, false, false, false, false] rfl rfl (any_of HT_.out (by kernel_rfl)) (fun _ _ _ h => h) (Or.inl ⟨by rfl, ?_⟩) ?_ ?_
                  rotate_left
                  ·intro w'
                   go_simp
                   with_reducible rfl
                  rotate_left
                  ·simp only [Act.put, List.setIfInBounds_toArray, List.set_cons_zero, List.set_cons_succ, i64_w, i32_w]
                   rfl
                  refine pure_ (i := 11) (N := some 163) (v := ?_) (a' := ?_) #[true, false, true, true, true, false, false, false, true, true, true, true, false, false, false, false, false, false, false, false, false, false, false, false, false, false, false, false, false, false, false, false, false, false] rfl rfl (any_of HT_.out (by kernel_rfl)) (fun _ _ _ h => h) (Or.inl ⟨by rfl, ?_⟩) ?_ ?_
                  rotate_left
                  ·intro w'
                   go_simp
                   with_reducible rfl
                  rotate_left
                  ·simp only [Act.put, List.setIfInBounds_toArray, List.set_cons_zero, List.set_cons_succ, i64_w, i32_w]
                   rfl
                  refine take_ (i := 1) (N := some 153) (v := ?_) (a' := ?_) #[true, true, true, true, true, false, false, false, true, true, true, true, false, false, false, false, false, false, false, false, false, false, false, false, false, false, false, false, false, false, false, false, false, false] rfl rfl (take_ofW HT_.out HW_.out (by kernel_rfl)) (fun _ _ _ h => h) (Or.inl ⟨by rfl, ?_⟩) hHeld ?_ ?_
                  rotate_left
                  ·rintro w' ⟨s0, s1, s2, s3, s4, s5, s6, s7⟩
                   go_simp
                   with_reducible rfl
                  rotate_left
                  ·simp only [Act.put, List.setIfInBounds_toArray, List.set_cons_zero, List.set_cons_succ, i64_w, i32_w]
                   rfl
                  refine take_ (i := 5) (N := some 157) (v := ?_) (a' := ?_) #[true, true, true, true, true, true, false, false, true, true, true, true, false, false, false, false, false, false, false, false, false, false, false, false, false, false, false, false, false, false, false, false, false, false] rfl rfl (take_ofW HT_.out HW_.out (by kernel_rfl)) (fun _ _ _ h => h) (Or.inl ⟨by rfl, ?_⟩) hHeld ?_ ?_
                  rotate_left
                  ·rintro w' ⟨s0, s1, s2, s3, s4, s5, s6, s7⟩
                   go_simp
                   with_reducible rfl
                  rotate_left
                  ·simp only [Act.put, List.setIfInBounds_toArray, List.set_cons_zero, List.set_cons_succ, i64_w, i32_w]
                   rfl
                  refine pure_ (i := 6) (N := some 158) (v := ?_) (a' := ?_) #[true, true, true, true, true, true, true, false, true, true, true, true, false, false, false, false, false, false, false, false, false, false, false, false, false, false, false, false, false, false, false, false, false, false] rfl rfl (any_of HT_.out (by kernel_rfl)) (fun _ _ _ h => h) (Or.inl ⟨by rfl, ?_⟩) ?_ ?_
                  rotate_left
                  ·intro w'
                   go_simp
                   with_reducible rfl
                  rotate_left
                  ·simp only [Act.put, List.setIfInBounds_toArray, List.set_cons_zero, List.set_cons_succ, i64_w, i32_w]
                   rfl
                  refine take_ (i := 7) (N := some 159) (v := ?_) (a' := ?_) #[true, true, true, true, true, true, true, true, true, true, true, true, false, false, false, false, false, false, false, false, false, false, false, false, false, false, false, false, false, false, false, false, false, false] rfl rfl (take_ofW HT_.out HW_.out (by kernel_rfl)) (fun _ _ _ h => h) (Or.inl ⟨by rfl, ?_⟩) hHeld ?_ ?_
                  rotate_left
                  ·rintro w' ⟨s0, s1, s2, s3, s4, s5, s6, s7⟩
                   go_simp
                   with_reducible rfl
                  rotate_left
                  ·simp only [Act.put, List.setIfInBounds_toArray, List.set_cons_zero, List.set_cons_succ, i64_w, i32_w]
                   rfl
                  refine take_ (i := 12) (N := some 164) (v := ?_) (a' := ?_) #[true, true, true, true, true, true, true, true, true, true, true, true, true, false, false, false, false, false, false, false, false, false, false, false, false, false, false, false, false, false, false, false, false, false] rfl rfl (take_ofW HT_.out HW_.out (by kernel_rfl)) (fun _ _ _ h => h) (Or.inl ⟨by rfl, ?_⟩) hHeld ?_ ?_
                  rotate_left
                  ·rintro w' ⟨s0, s1, s2, s3, s4, s5, s6, s7⟩
                   go_simp
                   with_reducible rfl
                  rotate_left
                  ·simp only [Act.put, List.setIfInBounds_toArray, List.set_cons_zero, List.set_cons_succ, i64_w, i32_w]
                   rfl
                  refine pure_ (i := 13) (N := some 165) (v := ?_) (a' := ?_) #[true, true, true, true, true, true, true, true, true, true, true, true, true, true, false, false, false, false, false, false, false, false, false, false, false, false, false, false, false, false, false, false, false, false] rfl rfl (any_of HT_.out (by kernel_rfl)) (fun _ _ _ h => h) (Or.inl ⟨by rfl, ?_⟩) ?_ ?_
                  rotate_left
                  ·intro w'
                   go_simp
                   with_reducible rfl
                  rotate_left
                  ·simp only [Act.put, List.setIfInBounds_toArray, List.set_cons_zero, List.set_cons_succ, i64_w, i32_w]
                   rfl
                  refine pure_ (i := 14) (N := some 166) (v := ?_) (a' := ?_) #[true, true, true, true, true, true, true, true, true, true, true, true, true, true, true, false, false, false, false, false, false, false, false, false, false, false, false, false, false, false, false, false, false, false] rfl rfl (any_of HT_.out (by kernel_rfl)) (fun _ _ _ h => h) (Or.inl ⟨by rfl, ?_⟩) ?_ ?_
                  rotate_left
                  ·intro w'
                   go_simp
                   with_reducible rfl
                  rotate_left
                  ·simp only [Act.put, List.setIfInBounds_toArray, List.set_cons_zero, List.set_cons_succ, i64_w, i32_w]
                   rfl
                  refine pure_ (i := 15) (N := some 167) (v := ?_) (a' := ?_) #[true, true, true, true, true, true, true, true, true, true, true, true, true, true, true, true, false, false, false, false, false, false, false, false, false, false, false, false, false, false, false, false, false, false] rfl rfl (any_of HT_.out (by kernel_rfl)) (fun _ _ _ h => h) (Or.inl ⟨by rfl, ?_⟩) ?_ ?_
                  rotate_left
                  ·intro w'
                   go_simp
                   with_reducible rfl
                  rotate_left
                  ·simp only [Act.put, List.setIfInBounds_toArray, List.set_cons_zero, List.set_cons_succ, i64_w, i32_w]
                   rfl
                  refine pure_ (i := 17) (N := some 169) (v := ?_) (a' := ?_) #[true, true, true, true, true, true, true, true, true, true, true, true, true, true, true, true, false, true, false, false, false, false, false, false, false, false, false, false, false, false, false, false, false, false] rfl rfl (any_of HT_.out (by kernel_rfl)) (fun _ _ _ h => h) (Or.inl ⟨by rfl, ?_⟩) ?_ ?_
                  rotate_left
                  ·intro w'
                   go_simp
                   with_reducible rfl
                  rotate_left
                  ·simp only [Act.put, List.setIfInBounds_toArray, List.set_cons_zero, List.set_cons_succ, i64_w, i32_w]
                   rfl
                  refine pure_ (i := 18) (N := some 170) (v := ?_) (a' := ?_) #[true, true, true, true, true, true, true, true, true, true, true, true, true, true, true, true, false, true, true, false, false, false, false, false, false, false, false, false, false, false, false, false, false, false] rfl rfl (any_of HT_.out (by kernel_rfl)) (fun _ _ _ h => h) (Or.inl ⟨by rfl, ?_⟩) ?_ ?_
                  rotate_left
                  ·intro w'
                   go_simp
                   with_reducible rfl
                  rotate_left
                  ·simp only [Act.put, List.setIfInBounds_toArray, List.set_cons_zero, List.set_cons_succ, i64_w, i32_w]
                   rfl
                  refine pure_ (i := 19) (N := some 171) (v := ?_) (a' := ?_) #[true, true, true, true, true, true, true, true, true, true, true, true, true, true, true, true, false, true, true, true, false, false, false, false, false, false, false, false, false, false, false, false, false, false] rfl rfl (any_of HT_.out (by kernel_rfl)) (fun _ _ _ h => h) (Or.inl ⟨by rfl, ?_⟩) ?_ ?_
                  rotate_left
                  ·intro w'
                   go_simp
                   with_reducible rfl
                  rotate_left
                  ·simp only [Act.put, List.setIfInBounds_toArray, List.set_cons_zero, List.set_cons_succ, i64_w, i32_w]
                   rfl
                  refine pure_ (i := 20) (N := some 172) (v := ?_) (a' := ?_) #[true, true, true, true, true, true, true, true, true, true, true, true, true, true, true, true, false, true, true, true, true, false, false, false, false, false, false, false, false, false, false, false, false, false] rfl rfl (any_of HT_.out (by kernel_rfl)) (fun _ _ _ h => h) (Or.inl ⟨by rfl, ?_⟩) ?_ ?_
                  rotate_left
                  ·intro w'
                   go_simp
                   with_reducible rfl
                  rotate_left
                  ·simp only [Act.put, List.setIfInBounds_toArray, List.set_cons_zero, List.set_cons_succ, i64_w, i32_w]
                   rfl
                  refine pure_ (i := 24) (N := some 176) (v := ?_) (a' := ?_) #[true, true, true, true, true, true, true, true, true, true, true, true, true, true, true, true, false, true, true, true, true, false, false, false, true, false, false, false, false, false, false, false, false, false] rfl rfl (any_of HT_.out (by kernel_rfl)) (fun _ _ _ h => h) (Or.inl ⟨by rfl, ?_⟩) ?_ ?_
                  rotate_left
                  ·intro w'
                   go_simp
                   with_reducible rfl
                  rotate_left
                  ·simp only [Act.put, List.setIfInBounds_toArray, List.set_cons_zero, List.set_cons_succ, i64_w, i32_w]
                   rfl
                  refine pure_ (i := 25) (N := some 177) (v := ?_) (a' := ?_) #[true, true, true, true, true, true, true, true, true, true, true, true, true, true, true, true, false, true, true, true, true, false, false, false, true, true, false, false, false, false, false, false, false, false] rfl rfl (any_of HT_.out (by kernel_rfl)) (fun _ _ _ h => h) (Or.inl ⟨by rfl, ?_⟩) ?_ ?_
                  rotate_left
                  ·intro w'
                   go_simp
                   with_reducible rfl
                  rotate_left
                  ·simp only [Act.put, List.setIfInBounds_toArray, List.set_cons_zero, List.set_cons_succ, i64_w, i32_w]
                   rfl
                  refine pure_ (i := 26) (N := some 178) (v := ?_) (a' := ?_) #[true, true, true, true, true, true, true, true, true, true, true, true, true, true, true, true, false, true, true, true, true, false, false, false, true, true, true, false, false, false, false, false, false, false] rfl rfl (any_of HT_.out (by kernel_rfl)) (fun _ _ _ h => h) (Or.inl ⟨by rfl, ?_⟩) ?_ ?_
                  rotate_left
                  ·intro w'
                   go_simp
                   with_reducible rfl
                  rotate_left
                  ·simp only [Act.put, List.setIfInBounds_toArray, List.set_cons_zero, List.set_cons_succ, i64_w, i32_w]
                   rfl
                  refine pure_ (i := 27) (N := some 179) (v := ?_) (a' := ?_) #[true, true, true, true, true, true, true, true, true, true, true, true, true, true, true, true, false, true, true, true, true, false, false, false, true, true, true, true, false, false, false, false, false, false] rfl rfl (any_of HT_.out (by kernel_rfl)) (fun _ _ _ h => h) (Or.inl ⟨by rfl, ?_⟩) ?_ ?_
                  rotate_left
                  ·intro w'
                   go_simp
                   with_reducible rfl
                  rotate_left
                  ·simp only [Act.put, List.setIfInBounds_toArray, List.set_cons_zero, List.set_cons_succ, i64_w, i32_w]
                   rfl
                  refine pure_ (i := 28) (N := some 180) (v := ?_) (a' := ?_) #[true, true, true, true, true, true, true, true, true, true, true, true, true, true, true, true, false, true, true, true, true, false, false, false, true, true, true, true, true, false, false, false, false, false] rfl rfl (any_of HT_.out (by kernel_rfl)) (fun _ _ _ h => h) (Or.inl ⟨by rfl, ?_⟩) ?_ ?_
                  rotate_left
                  ·intro w'
                   go_simp
                   with_reducible rfl
                  rotate_left
                  ·simp only [Act.put, List.setIfInBounds_toArray, List.set_cons_zero, List.set_cons_succ, i64_w, i32_w]
                   rfl
                  refine pure_ (i := 29) (N := some 181) (v := ?_) (a' := ?_) #[true, true, true, true, true, true, true, true, true, true, true, true, true, true, true, true, false, true, true, true, true, false, false, false, true, true, true, true, true, true, false, false, false, false] rfl rfl (any_of HT_.out (by kernel_rfl)) (fun _ _ _ h => h) (Or.inl ⟨by rfl, ?_⟩) ?_ ?_
                  rotate_left
                  ·intro w'
                   go_simp
                   with_reducible rfl
                  rotate_left
                  ·simp only [Act.put, List.setIfInBounds_toArray, List.set_cons_zero, List.set_cons_succ, i64_w, i32_w]
                   rfl
                  refine pure_ (i := 30) (N := some 182) (v := ?_) (a' := ?_) #[true, true, true, true, true, true, true, true, true, true, true, true, true, true, true, true, false, true, true, true, true, false, false, false, true, true, true, true, true, true, true, false, false, false] rfl rfl (any_of HT_.out (by kernel_rfl)) (fun _ _ _ h => h) (Or.inl ⟨by rfl, ?_⟩) ?_ ?_
                  rotate_left
                  ·intro w'
                   go_simp
                   with_reducible rfl
                  rotate_left
                  ·simp only [Act.put, List.setIfInBounds_toArray, List.set_cons_zero, List.set_cons_succ, i64_w, i32_w]
                   rfl
                  refine take_ (i := 16) (N := some 168) (v := ?_) (a' := ?_) #[true, true, true, true, true, true, true, true, true, true, true, true, true, true, true, true, true, true, true, true, true, false, false, false, true, true, true, true, true, true, true, false, false, false] rfl rfl (take_ofW HT_.out HW_.out (by kernel_rfl)) (fun _ _ _ h => h) (Or.inl ⟨by rfl, ?_⟩) hHeld ?_ ?_
                  rotate_left
                  ·rintro w' ⟨s0, s1, s2, s3, s4, s5, s6, s7⟩
                   go_simp
                   with_reducible rfl
                  rotate_left
                  ·simp only [Act.put, List.setIfInBounds_toArray, List.set_cons_zero, List.set_cons_succ, i64_w, i32_w]
                   rfl
                  refine take_ (i := 21) (N := some 173) (v := ?_) (a' := ?_) #[true, true, true, true, true, true, true, true, true, true, true, true, true, true, true, true, true, true, true, true, true, true, false, false, true, true, true, true, true, true, true, false, false, false] rfl rfl (take_ofW HT_.out HW_.out (by kernel_rfl)) (fun _ _ _ h => h) (Or.inl ⟨by rfl, ?_⟩) hHeld ?_ ?_
                  rotate_left
                  ·rintro w' ⟨s0, s1, s2, s3, s4, s5, s6, s7⟩
                   go_simp
                   with_reducible rfl
                  rotate_left
                  ·simp only [Act.put, List.setIfInBounds_toArray, List.set_cons_zero, List.set_cons_succ, i64_w, i32_w]
                   rfl
                  refine pure_ (i := 22) (N := some 174) (v := ?_) (a' := ?_) #[true, true, true, true, true, true, true, true, true, true, true, true, true, true, true, true, true, true, true, true, true, true, true, false, true, true, true, true, true, true, true, false, false, false] rfl rfl (any_of HT_.out (by kernel_rfl)) (fun _ _ _ h => h) (Or.inl ⟨by rfl, ?_⟩) ?_ ?_
                  rotate_left
                  ·intro w'
                   go_simp
                   with_reducible rfl
                  rotate_left
                  ·simp only [Act.put, List.setIfInBounds_toArray, List.set_cons_zero, List.set_cons_succ, i64_w, i32_w]
                   rfl
                  refine take_ (i := 23) (N := some 175) (v := ?_) (a' := ?_) #[true, true, true, true, true, true, true, true, true, true, true, true, true, true, true, true, true, true, true, true, true, true, true, true, true, true, true, true, true, true, true, false, false, false] rfl rfl (take_ofW HT_.out HW_.out (by kernel_rfl)) (fun _ _ _ h => h) (Or.inl ⟨by rfl, ?_⟩) hHeld ?_ ?_
                  rotate_left
                  ·rintro w' ⟨s0, s1, s2, s3, s4, s5, s6, s7⟩
                   go_simp
                   with_reducible rfl
                  rotate_left
                  ·simp only [Act.put, List.setIfInBounds_toArray, List.set_cons_zero, List.set_cons_succ, i64_w, i32_w]
                   rfl
                  refine take_ (i := 31) (N := some 183) (v := ?_) (a' := ?_) #[true, true, true, true, true, true, true, true, true, true, true, true, true, true, true, true, true, true, true, true, true, true, true, true, true, true, true, true, true, true, true, true, false, false] rfl rfl (take_ofW HT_.out HW_.out (by kernel_rfl)) (fun _ _ _ h => h) (Or.inl ⟨by rfl, ?_⟩) hHeld ?_ ?_
                  rotate_left
                  ·rintro w' ⟨s0, s1, s2, s3, s4, s5, s6, s7⟩
                   go_simp
                   with_reducible rfl
                  rotate_left
                  ·simp only [Act.put, List.setIfInBounds_toArray, List.set_cons_zero, List.set_cons_succ, i64_w, i32_w]
                   rfl
                  refine pure_ (i := 32) (N := some 184) (v := ?_) (a' := ?_) #[true, true, true, true, true, true, true, true, true, true, true, true, true, true, true, true, true, true, true, true, true, true, true, true, true, true, true, true, true, true, true, true, true, false] rfl rfl (any_of HT_.out (by kernel_rfl)) (fun _ _ _ h => h) (Or.inl ⟨by rfl, ?_⟩) ?_ ?_
                  rotate_left
                  ·intro w'
                   go_simp
                   with_reducible rfl
                  rotate_left
                  ·simp only [Act.put, List.setIfInBounds_toArray, List.set_cons_zero, List.set_cons_succ, i64_w, i32_w]
                   rfl
                  refine pure_ (i := 33) (N := some 185) (v := ?_) (a' := ?_) #[true, true, true, true, true, true, true, true, true, true, true, true, true, true, true, true, true, true, true, true, true, true, true, true, true, true, true, true, true, true, true, true, true, true] rfl rfl (any_of HT_.out (by kernel_rfl)) (fun _ _ _ h => h) (Or.inl ⟨by rfl, ?_⟩) ?_ ?_
                  rotate_left
                  ·intro w'
                   go_simp
                   with_reducible rfl
                  rotate_left
                  ·simp only [Act.put, List.setIfInBounds_toArray, List.set_cons_zero, List.set_cons_succ, i64_w, i32_w]
                   rfl
                  refine done_ (done_of HT_.out (by kernel_rfl)) ?_
                  try go_wp2
                  go_roundg k4
                  case measure => have := HJ10.out; have := HJ58.out; have := HJ75.out; have := HK4.out; omega
                  case rel => exact ⟨(wrap64 (x22_4 + 2)), (by first | rfl | (simp; done) | (simp [*]; done)), H', ⟨by have := HJ10.out; have := HJ58.out; have := HJ75.out; have := HK4.out; omega⟩, ⟨by (with_reducible repeat (first | apply Kd.S_alloc | apply Kd.S_drewN | apply Kd.S_drew)); exact HO_6.out⟩, ⟨by (with_reducible repeat (first | apply rA | apply rN | apply rD)); exact HO_12.out⟩, ⟨by (with_reducible repeat (first | apply rA | apply rN | apply rD)); exact HO_18.out⟩, ⟨by (with_reducible repeat (first | apply rA | apply rN | apply rD)); exact HO_427000.out⟩, ⟨by (with_reducible repeat (first | apply rA | apply rN | apply rD)); exact HO_427001.out⟩, ⟨by (with_reducible repeat (first | apply rA | apply rN | apply rD)); exact HO_456000.out⟩, ⟨by (with_reducible repeat (first | apply rA | apply rN | apply rD)); exact HO_456001.out⟩, ⟨by (with_reducible repeat (first | refine blk_drewN ?_ _ | refine blk_drew ?_ | refine blk_alloc ?_ _)); exact BK426.out⟩, ⟨by (with_reducible repeat (first | refine blk_drewN ?_ _ | refine blk_drew ?_ | refine blk_alloc ?_ _)); exact BK455.out⟩, ⟨by repeat (first | exact HB.out | apply bA | apply bN | apply bD | refine below_set ?_ GE426.out | refine below_set ?_ GE455.out)⟩⟩
                 ·rw [if_neg c96] at H
                  have c96b0 : ((rd t451 (rd t456 (ji86))) == (rd t456 (ji93))) = false := beq_eq_false_iff_ne.mpr c96
                  have c96b1 : ((rd t451 (rd t456 (ji86))) != (rd t456 (ji93))) = true := bne_iff_ne.mpr c96
                  have hrr_ := Option.some.inj H
                  rw [hr_] at hrr_
                  exact absurd hrr_ (by decide)
                ·rw [if_neg c95] at H
                 exact absurd H (by simp)
               ·rw [if_neg c94] at H
                exact absurd H (by simp)
             ·rw [if_neg c91] at H
              exact absurd H (by simp)
            ·rw [if_neg c90] at H
             exact absurd H (by simp)
           ·rw [if_neg c89] at H
            have c89b0 : ((rd t448 (rd t456 x22_4)) == (rd t456 (ji86))) = false := beq_eq_false_iff_ne.mpr c89
            have c89b1 : ((rd t448 (rd t456 x22_4)) != (rd t456 (ji86))) = true := bne_iff_ne.mpr c89
            have hrr_ := Option.some.inj H
            rw [hr_] at hrr_
            exact absurd hrr_ (by decide)
          ·rw [if_neg c88] at H
           exact absurd H (by simp)
         ·rw [if_neg c87] at H
          exact absurd H (by simp)
        ·rw [if_neg c85] at H
         exact absurd H (by simp)
       ·rw [if_neg c84] at H
        exact absurd H (by simp)
      ·rw [if_neg c83] at H
       exact absurd H (by simp)
     ·rw [if_neg c82] at H
      have c82b0 : decide (x22_4 < (t456.length : Int)) = false := decide_eq_false c82
      clear c82
      have H' := Aside0.mk H
      clear H
      obtain ⟨Ao103, co103, eo103⟩ := Kd.R_slice HO_18.out
      subst eo103
      go_wp2
      go_meet
      case rel => exact ⟨_, H', ⟨by have := HJ10.out; have := HJ58.out; have := HJ75.out; have := HK4.out; first | omega | exact Nat.le_refl _⟩, ⟨by (with_reducible repeat (first | apply Kd.S_alloc | apply Kd.S_drewN | apply Kd.S_drew)); exact Kd.S_mono HO_6.out (fun _ hk => ⟨hk.1, ⟨hk.2.2.1, ⟨hk.2.2.2.1, ⟨hk.2.2.2.2.1, hk.2.2.2.2.2⟩⟩⟩⟩)⟩, ⟨by (with_reducible repeat (first | apply rA | apply rN | apply rD)); exact Kd.R_mono HO_12.out (fun _ hk => ⟨hk.2.1, ⟨hk.2.2.1, ⟨hk.2.2.2.1, hk.2.2.2.2⟩⟩⟩)⟩, ⟨by (with_reducible repeat (first | apply rA | apply rN | apply rD)); exact Kd.R_mono HO_427000.out (fun _ hk => ⟨hk.1, ⟨hk.2.2.1, ⟨hk.2.2.2.1, hk.2.2.2.2⟩⟩⟩)⟩, ⟨by (with_reducible repeat (first | apply rA | apply rN | apply rD)); exact Kd.R_mono HO_427001.out (fun _ hk => ⟨hk.1, ⟨hk.2.2.1, ⟨hk.2.2.2.1, hk.2.2.2.2⟩⟩⟩)⟩, ⟨by (with_reducible repeat (first | apply rA | apply rN | apply rD)); exact Kd.R_mono HO_456000.out (fun _ hk => ⟨hk.1, ⟨hk.2.2.1, ⟨hk.2.2.2.1, hk.2.2.2.2⟩⟩⟩)⟩, ⟨by (with_reducible repeat (first | apply rA | apply rN | apply rD)); exact Kd.R_mono HO_456001.out (fun _ hk => ⟨hk.1, ⟨hk.2.2.1, ⟨hk.2.2.2.1, hk.2.2.2.2⟩⟩⟩)⟩, ⟨by (with_reducible repeat (first | refine blk_drewN ?_ _ | refine blk_drew ?_ | refine blk_alloc ?_ _)); exact BK426.out⟩, ⟨by (with_reducible repeat (first | refine blk_drewN ?_ _ | refine blk_drew ?_ | refine blk_alloc ?_ _)); exact BK455.out⟩, ⟨by repeat (first | exact HB.out | apply bA | apply bN | apply bD | refine below_set ?_ GE426.out | refine below_set ?_ GE455.out)⟩⟩

end Go.Proofs.Ytfencncopkeobaa.QFnComponentsWalked
