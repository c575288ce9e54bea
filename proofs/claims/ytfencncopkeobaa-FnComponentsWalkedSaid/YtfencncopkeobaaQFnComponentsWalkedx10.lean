-- Written by wip/myprint.py (a program of mine round the kit's printer). Lean checks it.
import Derived.Test.YtfencncopkeobaaQFnComponentsWalkedx9
namespace Go.Proofs.Ytfencncopkeobaa.QFnComponentsWalked
open Go.RowKit Go.Proofs.YtfencncopkeobaaW.PrintWords Go.Proofs.YtfencncopkeobaaW.PrintLast Go.Proofs.YtfencncopkeobaaW.PrintMore
attribute [local go_sem] max2_int min2_int max_two min_two max_three min_three max_four min_four   -- for this text's walks alone
set_option linter.unusedVariables false
set_option linter.unusedSimpArgs false

noncomputable def laws_FnComponentsWalked.part4.rest : Code := ((Try.f3.body.bind (laws_FnComponentsWalked.findRest 29)).getD .skip)
noncomputable def laws_FnComponentsWalked.part4.joint : Code := ((Try.f3.body.bind (laws_FnComponentsWalked.findCond 205)).getD .skip)
set_option maxHeartbeats 8000000 in
set_option maxRecDepth 1000000 in
theorem laws_FnComponentsWalked.part4 (k : Nat) (A0 : Option Addr) (c0 : Nat) (l0 : List Int) (A1 : Option Addr) (c1 : Nat) (l1 : List Int) (r : Bool) (w : World) (hr_ : r = true) (hu26 : Try.prog.underlying 26 = some (TypeDesc.struct #[{ name := "Top", type := 24, offset := 0, embedded := false, tag := "", pkgPath := "", byteOffset := 0 }, { name := "Bottom", type := 24, offset := 1, embedded := false, tag := "", pkgPath := "", byteOffset := 24 }])) (t420 t423 : List Int) (t427 : List (List Int)) (t430 t434 : Bool) (t435 : Int) (t436 : Bool) (t437 : List Int) (t440 t444 : Bool) (gb426 : Nat) (GE426 : Aside0 (w.heap.size ≤ gb426)) (Ao14 : Option Addr) (co14 : Nat) (Ao16 : Option Addr) (co16 : Nat) (v428 v432 : Value) (v438 v442 : Value) (kj10 : Nat) (HJ10 : Aside0 (kj10 + 1 ≤ k)) (t448 t451 : List Int) (t454 : Int) (t459 t463 : Bool) (gb455 : Nat) (GE455 : Aside0 (w.heap.size ≤ gb455)) (NB426_455 : Aside0 (gb426 ≠ gb455)) (NB455_426 : Aside0 (gb455 ≠ gb426)) (Ao62 : Option Addr) (co62 : Nat) (Ao65 : Option Addr) (co65 : Nat) (v457 v461 : Value) (kj58 : Nat) (HJ58 : Aside0 (kj58 + 1 ≤ kj10)) (u4 u22 : Value) (kj73 : Nat) (HJ73 : Aside0 (kj73 + 1 ≤ kj58)) (t472 : List Int) (t475 : Int) (t476 : Bool) (t477 : Int) (t478 : Bool) (HC107 : Aside0 ((if (t476 != t478) = true then j5 kj73 t427 t434 t435 t437 true t420 t423 else j5 kj73 t427 t434 t435 t437 (t475 != t477) t420 t423) = some r)) (w108 : World) (Ao109 : Option Addr) (co109 nd : Nat) (w110 : World) (hb : Below (w108.drewN nd).heap.size (w108.drewN nd) w110) (HO_6 : Aside0 ((Kd.slice 3 (Kd.int IntKind.i64)).S 24 w110 w.heap.size (fun k => (some k ≠ v438.ownBlock ∧ some k ≠ (Value.slice Ao14 t420.length co14).ownBlock ∧ some k ≠ (Value.slice Ao16 t423.length co16).ownBlock ∧ some k ≠ (Value.slice Ao62 t448.length co62).ownBlock ∧ some k ≠ (Value.slice Ao65 t451.length co65).ownBlock) ∧ some k ≠ (Value.slice Ao109 t472.length co109).ownBlock) v428 t427)) (HO_12 : Aside0 ((Kd.int IntKind.i64).R 3 w110 w.heap.size (fun k => (some k ≠ (Value.slice Ao14 t420.length co14).ownBlock ∧ some k ≠ (Value.slice Ao16 t423.length co16).ownBlock ∧ some k ≠ (Value.slice Ao62 t448.length co62).ownBlock ∧ some k ≠ (Value.slice Ao65 t451.length co65).ownBlock) ∧ some k ≠ (Value.slice Ao109 t472.length co109).ownBlock) v438 t437)) (HO_427000 : Aside0 ((Kd.int IntKind.i64).R 3 w110 w.heap.size (fun k => (some k ≠ v438.ownBlock ∧ some k ≠ (Value.slice Ao16 t423.length co16).ownBlock ∧ some k ≠ (Value.slice Ao62 t448.length co62).ownBlock ∧ some k ≠ (Value.slice Ao65 t451.length co65).ownBlock) ∧ some k ≠ (Value.slice Ao109 t472.length co109).ownBlock) (Value.slice Ao14 t420.length co14) t420)) (HO_427001 : Aside0 ((Kd.int IntKind.i64).R 3 w110 w.heap.size (fun k => (some k ≠ v438.ownBlock ∧ some k ≠ (Value.slice Ao14 t420.length co14).ownBlock ∧ some k ≠ (Value.slice Ao62 t448.length co62).ownBlock ∧ some k ≠ (Value.slice Ao65 t451.length co65).ownBlock) ∧ some k ≠ (Value.slice Ao109 t472.length co109).ownBlock) (Value.slice Ao16 t423.length co16) t423)) (HO_456000 : Aside0 ((Kd.int IntKind.i64).R 3 w110 w.heap.size (fun k => (some k ≠ v438.ownBlock ∧ some k ≠ (Value.slice Ao14 t420.length co14).ownBlock ∧ some k ≠ (Value.slice Ao16 t423.length co16).ownBlock ∧ some k ≠ (Value.slice Ao65 t451.length co65).ownBlock) ∧ some k ≠ (Value.slice Ao109 t472.length co109).ownBlock) (Value.slice Ao62 t448.length co62) t448)) (HO_456001 : Aside0 ((Kd.int IntKind.i64).R 3 w110 w.heap.size (fun k => (some k ≠ v438.ownBlock ∧ some k ≠ (Value.slice Ao14 t420.length co14).ownBlock ∧ some k ≠ (Value.slice Ao16 t423.length co16).ownBlock ∧ some k ≠ (Value.slice Ao62 t448.length co62).ownBlock) ∧ some k ≠ (Value.slice Ao109 t472.length co109).ownBlock) (Value.slice Ao65 t451.length co65) t451)) (BK426 : Aside0 (w110.heap[gb426]? = some (Obj.cells #[Value.slice Ao14 t420.length co14, Value.slice Ao16 t423.length co16] 26))) (BK455 : Aside0 (w110.heap[gb455]? = some (Obj.cells #[Value.slice Ao62 t448.length co62, Value.slice Ao65 t451.length co65] 26))) (HB : Aside0 (Below w.heap.size w w110)) (wc : World) (u42 u43 : Value) (u44 u45 : Value) (u46 u47 : Value) (u48 u49 : Value) (u50 u51 : Value) (u52 u53 : Value) (u54 u55 : Value) (u56 u57 : Value) (u58 u59 : Value) (u60 u61 : Value) (u62 u63 : Value) (u64 u65 : Value) (u66 u67 : Value) (u68 u69 : Value) (u70 u71 : Value) (u72 u73 : Value) (u74 u75 : Value) (u76 u77 : Value) (u78 u79 : Value) (u80 u81 : Value) (u82 u83 : Value) (u84 u85 : Value) (u86 u87 : Value) (u88 u89 : Value) (u90 u91 : Value) (u92 u93 : Value) (u94 u95 : Value) (u96 u97 : Value) (u98 u99 : Value) (u100 u101 : Value) (u102 u103 : Value) (u104 u105 : Value) (u106 u107 : Value) (u108 u109 : Value) (u110 u111 : Value) (u112 u113 : Value) (u114 u115 : Value) (u116 u117 : Value) (u118 u119 : Value) (u120 u121 : Value) (u122 u123 : Value) (u124 u125 : Value) (u126 u127 : Value) (u128 u129 : Value) (u130 u131 : Value) (u132 u133 : Value) (u134 u135 : Value) (u136 u137 : Value) (u138 u139 : Value) (u140 u141 : Value) (u142 u143 : Value) (u144 u145 : Value) (u146 u147 : Value) (u148 u149 : Value) (u150 u151 : Value) (u152 u153 : Value) (u154 u155 : Value) (u156 u157 : Value) (u158 u159 : Value) (u160 u161 : Value) (u162 u163 : Value) (u164 u165 : Value) (u166 u167 : Value) (u168 u169 : Value) (u170 u171 : Value) (u172 u173 : Value) (u174 u175 : Value) (u176 u177 : Value) (u178 u179 : Value) (u180 u181 : Value) (u182 u183 : Value) (u184 u185 : Value) (u186 u187 : Value) (u188 u189 : Value) (u190 u191 : Value) (u192 u193 : Value) (u194 u195 : Value) (u196 u197 : Value) (u198 u199 : Value) (u200 u201 : Value) (u202 u203 : Value) (u204 u205 : Value) (u206 u207 : Value) (u211 u212 : Value) (u213 u214 : Value) (u215 u216 : Value) (u217 u218 : Value) (u222 u223 : Value) (u224 u225 : Value) (u226 u227 : Value) (u228 u229 : Value) (u230 u231 : Value) (u232 u233 : Value) (u234 u235 : Value) (u236 u237 : Value) (u238 u239 : Value) (u240 u241 : Value) (u242 u243 : Value) (u244 u245 : Value) (u246 u247 : Value) (u248 u249 : Value) (u250 u251 : Value) (u252 u253 : Value) (u254 u255 : Value) (u256 u257 : Value) (u258 u259 : Value) (u260 u261 : Value) (u262 u263 : Value) (u264 u265 : Value) (u266 u267 : Value) (u268 u269 : Value) (u270 u271 : Value) (u272 u273 : Value) (u274 u275 : Value) (u276 u277 : Value) (u278 u279 : Value) (u280 u281 : Value) (u282 u283 : Value) (u284 u285 : Value) (u286 u287 : Value) (u288 u289 : Value) (u290 u291 : Value) (u292 u293 : Value) (u294 u295 : Value) (u296 u297 : Value) (u298 u299 : Value) (u300 u301 : Value) (u302 u303 : Value) (u304 u305 : Value) (u306 u307 : Value) (u308 u309 : Value) (u310 u311 : Value) (u312 u313 : Value) (u314 u315 : Value) (u316 u317 : Value) (u318 u319 : Value) (u320 u321 : Value) (u322 u323 : Value) (u324 u325 : Value) (u326 u327 : Value) (u328 u329 : Value) (u330 u331 : Value) (u332 u333 : Value) (u334 u335 : Value) (u336 u337 : Value) (u338 u339 : Value) (u340 u341 : Value) (u342 u343 : Value) (u344 u345 : Value) (u346 u347 u348 : Value) (K1_ : Act → World → Prop) (a1_ : ∀ (a_ : Act) (w_ : World), Code.wp Try.prog laws_FnComponentsWalked.part4.rest (bodyPost Try.prog Try.f3 fun e w' => e = Ending.returned (Value.bool r) ∧ Below w.heap.size w w') a_ w_ → K1_ a_ w_) (K2_ : Act → World → Prop) (a2_ : ∀ (a_ : Act) (w_ : World), Code.wp Try.prog laws_FnComponentsWalked.part4.joint (Exit.then K1_ (bodyPost Try.prog Try.f3 fun e w' => e = Ending.returned (Value.bool r) ∧ Below w.heap.size w w')) a_ w_ → K2_ a_ w_) (hcut : ∃ kq x205_106, u205 = Value.bool x205_106 ∧ Aside0 (j5 kq t427 t434 t435 t437 x205_106 t420 t423 = some r) ∧ Aside0 (kq ≤ kj73) ∧ Aside0 ((Kd.slice 3 (Kd.int IntKind.i64)).S 24 wc w.heap.size (fun k_ => some k_ ≠ v438.ownBlock ∧ some k_ ≠ (Value.slice Ao14 t420.length co14).ownBlock ∧ some k_ ≠ (Value.slice Ao16 t423.length co16).ownBlock ∧ some k_ ≠ (Value.slice Ao62 t448.length co62).ownBlock ∧ some k_ ≠ (Value.slice Ao65 t451.length co65).ownBlock) v428 t427) ∧ Aside0 ((Kd.int IntKind.i64).R 3 wc w.heap.size (fun k_ => some k_ ≠ (Value.slice Ao14 t420.length co14).ownBlock ∧ some k_ ≠ (Value.slice Ao16 t423.length co16).ownBlock ∧ some k_ ≠ (Value.slice Ao62 t448.length co62).ownBlock ∧ some k_ ≠ (Value.slice Ao65 t451.length co65).ownBlock) v438 t437) ∧ Aside0 ((Kd.int IntKind.i64).R 3 wc w.heap.size (fun k_ => some k_ ≠ v438.ownBlock ∧ some k_ ≠ (Value.slice Ao16 t423.length co16).ownBlock ∧ some k_ ≠ (Value.slice Ao62 t448.length co62).ownBlock ∧ some k_ ≠ (Value.slice Ao65 t451.length co65).ownBlock) (Value.slice Ao14 t420.length co14) t420) ∧ Aside0 ((Kd.int IntKind.i64).R 3 wc w.heap.size (fun k_ => some k_ ≠ v438.ownBlock ∧ some k_ ≠ (Value.slice Ao14 t420.length co14).ownBlock ∧ some k_ ≠ (Value.slice Ao62 t448.length co62).ownBlock ∧ some k_ ≠ (Value.slice Ao65 t451.length co65).ownBlock) (Value.slice Ao16 t423.length co16) t423) ∧ Aside0 ((Kd.int IntKind.i64).R 3 wc w.heap.size (fun k_ => some k_ ≠ v438.ownBlock ∧ some k_ ≠ (Value.slice Ao14 t420.length co14).ownBlock ∧ some k_ ≠ (Value.slice Ao16 t423.length co16).ownBlock ∧ some k_ ≠ (Value.slice Ao65 t451.length co65).ownBlock) (Value.slice Ao62 t448.length co62) t448) ∧ Aside0 ((Kd.int IntKind.i64).R 3 wc w.heap.size (fun k_ => some k_ ≠ v438.ownBlock ∧ some k_ ≠ (Value.slice Ao14 t420.length co14).ownBlock ∧ some k_ ≠ (Value.slice Ao16 t423.length co16).ownBlock ∧ some k_ ≠ (Value.slice Ao62 t448.length co62).ownBlock) (Value.slice Ao65 t451.length co65) t451) ∧ Aside0 (wc.heap[gb426]? = some (Obj.cells #[Value.slice Ao14 t420.length co14, Value.slice Ao16 t423.length co16] 26)) ∧ Aside0 (wc.heap[gb455]? = some (Obj.cells #[Value.slice Ao62 t448.length co62, Value.slice Ao65 t451.length co65] 26)) ∧ Aside0 (Below w.heap.size w wc)) :
 K2_ { tmps := #[Value.slice A0 l0.length c0, Value.slice A1 l1.length c1, undef, undef, u4, Value.pointer (some { block := gb426, off := 0 }), v428, Value.bool t430, v432, Value.bool t434, Value.int IntKind.i64 t435, Value.bool t436, v438, Value.bool t440, v442, Value.bool t444, Value.pointer (some { block := gb455, off := 0 }), Value.int IntKind.i64 t454, v457, Value.bool t459, v461, Value.bool t463, u22, Value.slice Ao109 t472.length co109, Value.int IntKind.i64 t475, Value.bool t476, Value.int IntKind.i64 t477, Value.bool t478, undef, undef, undef, undef, undef, undef, undef, undef, undef, undef, undef, undef, undef, undef, u42, u43, u44, u45, u46, u47, u48, u49, u50, u51, u52, u53, u54, u55, u56, u57, u58, u59, u60, u61, u62, u63, u64, u65, u66, u67, u68, u69, u70, u71, u72, u73, u74, u75, u76, u77, u78, u79, u80, u81, u82, u83, u84, u85, u86, u87, u88, u89, u90, u91, u92, u93, u94, u95, u96, u97, u98, u99, u100, u101, u102, u103, u104, u105, u106, u107, u108, u109, u110, u111, u112, u113, u114, u115, u116, u117, u118, u119, u120, u121, u122, u123, u124, u125, u126, u127, u128, u129, u130, u131, u132, u133, u134, u135, u136, u137, u138, u139, u140, u141, u142, u143, u144, u145, u146, u147, u148, u149, u150, u151, u152, u153, u154, u155, u156, u157, u158, u159, u160, u161, u162, u163, u164, u165, u166, u167, u168, u169, u170, u171, u172, u173, u174, u175, u176, u177, u178, u179, u180, u181, u182, u183, u184, u185, u186, u187, u188, u189, u190, u191, u192, u193, u194, u195, u196, u197, u198, u199, u200, u201, u202, u203, u204, u205, u206, u207, undef, undef, undef, u211, u212, u213, u214, u215, u216, u217, u218, undef, undef, undef, u222, u223, u224, u225, u226, u227, u228, u229, u230, u231, u232, u233, u234, u235, u236, u237, u238, u239, u240, u241, u242, u243, u244, u245, u246, u247, u248, u249, u250, u251, u252, u253, u254, u255, u256, u257, u258, u259, u260, u261, u262, u263, u264, u265, u266, u267, u268, u269, u270, u271, u272, u273, u274, u275, u276, u277, u278, u279, u280, u281, u282, u283, u284, u285, u286, u287, u288, u289, u290, u291, u292, u293, u294, u295, u296, u297, u298, u299, u300, u301, u302, u303, u304, u305, u306, u307, u308, u309, u310, u311, u312, u313, u314, u315, u316, u317, u318, u319, u320, u321, u322, u323, u324, u325, u326, u327, u328, u329, u330, u331, u332, u333, u334, u335, u336, u337, u338, u339, u340, u341, u342, u343, u344, u345, u346, u347, u348], defers := [] } wc := by
 obtain ⟨c_, hc_⟩ : ∃ c_, c_ = laws_FnComponentsWalked.part4.rest := ⟨_, rfl⟩
 rw [← hc_] at a1_
 conv at hc_ =>
  rhs
  whnf
 subst hc_
 obtain ⟨c_, hc_⟩ : ∃ c_, c_ = laws_FnComponentsWalked.part4.joint := ⟨_, rfl⟩
 rw [← hc_] at a2_
 conv at hc_ =>
  rhs
  whnf
 subst hc_
 clear HC107
 try clear p2
 try clear p4
 try clear q4
 try clear hx4
 try clear p46
 try clear q46
 try clear hx46
 try clear p47
 try clear q47
 try clear hx47
 try clear hx466_0
 try clear hx467_0
 try clear hx468_0
 try clear hx469_0
 try clear hx470_0
 try clear hx471_0
 try clear p2
 try clear p4
 try clear p46
 try clear p466
 try clear p467
 try clear p468
 try clear p469
 try clear p47
 try clear p470
 try clear p471
 try clear q4
 try clear q46
 try clear q466
 try clear q467
 try clear q468
 try clear q469
 try clear q47
 try clear q470
 try clear q471
 obtain ⟨kq, x205_106, rfl, HA, HJ106, HO_6, HO_12, HO_427000, HO_427001, HO_456000, HO_456001, BK426, BK455, HB⟩ := hcut
 cases kq with
 | zero => exact absurd HA.out (by simp [laws_FnComponentsWalked.j5])
 | succ kj106 =>
  have H := HA.out
  clear HA
  simp only [laws_FnComponentsWalked.j5] at H
  by_cases c112 : x205_106 = true
  ·subst c112
   have H1 : (some false) = some r := by rw [if_pos rfl] at H; exact H
   rw [hr_] at H1; exact absurd H1 (by decide)
  ·replace c112 := Bool.eq_false_iff.mpr c112
   subst c112
   have H1 : (if t434 = true then (laws_FnComponentsWalked.l1 kj106 t427 t435 t437 0 t427 (t427.length : Int) 0 t420 t423) else (some true)) = some r := by rw [if_neg (show ¬ (false = true) by decide)] at H; exact H
   clear H
   have H := H1
   clear H1
   by_cases c113 : t434 = true
   ·subst c113
    have H1 : (laws_FnComponentsWalked.l1 kj106 t427 t435 t437 0 t427 (t427.length : Int) 0 t420 t423) = some r := by rw [if_pos rfl] at H; exact H
    clear H
    have H := H1
    clear H1
    have H' := Aside0.mk H
    clear H
    obtain ⟨Ao114, co114, eo114⟩ := Kd.S_slice HO_6.out
    subst eo114
    go_wp2
    go_loopg [28, 210] kj106 (fun kq v28 v210 w' => ∃ (x28_5 : Int) (x210_5 : Int), v28 = .int .i64 x28_5 ∧ v210 = .int .i64 x210_5 ∧ Aside0 (laws_FnComponentsWalked.l1 kq t427 t435 t437 x28_5 t427 (t427.length : Int) x210_5 t420 t423 = some r) ∧ Aside0 (kq ≤ kj106) ∧ Aside0 (Kd.S (Kd.slice 3 (Kd.int .i64)) 24 w' w.heap.size (fun k_ => some k_ ≠ (v438 : Value).ownBlock ∧ some k_ ≠ ((.slice Ao14 t420.length co14) : Value).ownBlock ∧ some k_ ≠ ((.slice Ao16 t423.length co16) : Value).ownBlock ∧ some k_ ≠ ((.slice Ao62 t448.length co62) : Value).ownBlock ∧ some k_ ≠ ((.slice Ao65 t451.length co65) : Value).ownBlock) (.slice Ao114 t427.length co114) t427) ∧ Aside0 (Kd.R (Kd.int .i64) 3 w' w.heap.size (fun k_ => some k_ ≠ ((.slice Ao14 t420.length co14) : Value).ownBlock ∧ some k_ ≠ ((.slice Ao16 t423.length co16) : Value).ownBlock ∧ some k_ ≠ ((.slice Ao62 t448.length co62) : Value).ownBlock ∧ some k_ ≠ ((.slice Ao65 t451.length co65) : Value).ownBlock) v438 t437) ∧ Aside0 (Kd.S (Kd.slice 3 (Kd.int .i64)) 24 w' w.heap.size (fun k_ => some k_ ≠ (v438 : Value).ownBlock ∧ some k_ ≠ ((.slice Ao14 t420.length co14) : Value).ownBlock ∧ some k_ ≠ ((.slice Ao16 t423.length co16) : Value).ownBlock ∧ some k_ ≠ ((.slice Ao62 t448.length co62) : Value).ownBlock ∧ some k_ ≠ ((.slice Ao65 t451.length co65) : Value).ownBlock) (.slice Ao114 t427.length co114) t427) ∧ Aside0 (Kd.R (Kd.int .i64) 3 w' w.heap.size (fun k_ => some k_ ≠ (v438 : Value).ownBlock ∧ some k_ ≠ ((.slice Ao16 t423.length co16) : Value).ownBlock ∧ some k_ ≠ ((.slice Ao62 t448.length co62) : Value).ownBlock ∧ some k_ ≠ ((.slice Ao65 t451.length co65) : Value).ownBlock) (.slice Ao14 t420.length co14) t420) ∧ Aside0 (Kd.R (Kd.int .i64) 3 w' w.heap.size (fun k_ => some k_ ≠ (v438 : Value).ownBlock ∧ some k_ ≠ ((.slice Ao14 t420.length co14) : Value).ownBlock ∧ some k_ ≠ ((.slice Ao62 t448.length co62) : Value).ownBlock ∧ some k_ ≠ ((.slice Ao65 t451.length co65) : Value).ownBlock) (.slice Ao16 t423.length co16) t423) ∧ Aside0 (Kd.R (Kd.int .i64) 3 w' w.heap.size (fun k_ => some k_ ≠ (v438 : Value).ownBlock ∧ some k_ ≠ ((.slice Ao14 t420.length co14) : Value).ownBlock ∧ some k_ ≠ ((.slice Ao16 t423.length co16) : Value).ownBlock ∧ some k_ ≠ ((.slice Ao65 t451.length co65) : Value).ownBlock) (.slice Ao62 t448.length co62) t448) ∧ Aside0 (Kd.R (Kd.int .i64) 3 w' w.heap.size (fun k_ => some k_ ≠ (v438 : Value).ownBlock ∧ some k_ ≠ ((.slice Ao14 t420.length co14) : Value).ownBlock ∧ some k_ ≠ ((.slice Ao16 t423.length co16) : Value).ownBlock ∧ some k_ ≠ ((.slice Ao62 t448.length co62) : Value).ownBlock) (.slice Ao65 t451.length co65) t451) ∧ Aside0 (w'.heap[gb426]? = some (.cells #[(.slice Ao14 t420.length co14), (.slice Ao16 t423.length co16)] 26 (0, 0))) ∧ Aside0 (w'.heap[gb455]? = some (.cells #[(.slice Ao62 t448.length co62), (.slice Ao65 t451.length co65)] 26 (0, 0))) ∧ Aside0 (Below w.heap.size w w'))
    case atStart => exact ⟨(0), (0), (by first | rfl | (simp; done) | (simp [*]; done)), (by first | rfl | (simp; done) | (simp [*]; done)), H', ⟨Nat.le_refl _⟩, ⟨by (with_reducible repeat (first | apply Kd.S_alloc | apply Kd.S_drewN | apply Kd.S_drew)); exact HO_6.out⟩, ⟨by (with_reducible repeat (first | apply rA | apply rN | apply rD)); exact HO_12.out⟩, ⟨by (with_reducible repeat (first | apply Kd.S_alloc | apply Kd.S_drewN | apply Kd.S_drew)); exact HO_6.out⟩, ⟨by (with_reducible repeat (first | apply rA | apply rN | apply rD)); exact HO_427000.out⟩, ⟨by (with_reducible repeat (first | apply rA | apply rN | apply rD)); exact HO_427001.out⟩, ⟨by (with_reducible repeat (first | apply rA | apply rN | apply rD)); exact HO_456000.out⟩, ⟨by (with_reducible repeat (first | apply rA | apply rN | apply rD)); exact HO_456001.out⟩, ⟨by (with_reducible repeat (first | refine blk_drewN ?_ _ | refine blk_drew ?_ | refine blk_alloc ?_ _)); exact BK426.out⟩, ⟨by (with_reducible repeat (first | refine blk_drewN ?_ _ | refine blk_drew ?_ | refine blk_alloc ?_ _)); exact BK455.out⟩, ⟨by repeat (first | exact HB.out | apply bA | apply bN | apply bD | refine below_set ?_ GE426.out | refine below_set ?_ GE455.out)⟩⟩
    case round =>
     clear H'
     try clear p2
     try clear p4
     try clear q4
     try clear hx4
     try clear p46
     try clear q46
     try clear hx46
     try clear p47
     try clear q47
     try clear hx47
     try clear hx466_0
     try clear hx467_0
     try clear hx468_0
     try clear hx469_0
     try clear hx470_0
     try clear hx471_0
     try clear p2
     try clear p4
     try clear p46
     try clear p466
     try clear p467
     try clear p468
     try clear p469
     try clear p47
     try clear p470
     try clear p471
     try clear q4
     try clear q46
     try clear q466
     try clear q467
     try clear q468
     try clear q469
     try clear q47
     try clear q470
     try clear q471
     obtain ⟨x28_5, x210_5, rfl, rfl, HA, HK5, HO_6, HO_12, HO_208, HO_427000, HO_427001, HO_456000, HO_456001, BK426, BK455, HB⟩ := hrel
     cases gk with
     | zero => exact absurd HA.out (by simp [laws_FnComponentsWalked.l1])
     | succ k5 =>
      have H := HA.out
      clear HA
      simp only [laws_FnComponentsWalked.l1] at H
      by_cases c115 : x210_5 < (t427.length : Int)
      ·rw [if_pos c115] at H
       have c115b0 : decide (x210_5 < (t427.length : Int)) = true := decide_eq_true c115
       clear c115
       by_cases c116 : 0 ≤ x210_5
       ·rw [if_pos c116] at H
        have c116b0 : decide (0 ≤ x210_5) = true := decide_eq_true c116
        clear c116
        by_cases c117 : x210_5 < (t427.length : Int)
        ·rw [if_pos c117] at H
         have c117b0 : decide (x210_5 < (t427.length : Int)) = true := decide_eq_true c117
         clear c117
         have H' := Aside0.mk H
         clear H
         have p485 : 0 ≤ (x210_5 : Int) := of_decide_eq_true (by assumption)
         have q485 : x210_5 < (t427.length : Int) := of_decide_eq_true (by assumption)
         obtain ⟨ad485, A485_0, c485_0, e485, hx485_0, hl485_0, hi485_0⟩ := at_L2 (Kd.S_reads' HO_208.out).2.2 x210_5 p485 q485
         cases e485
         obtain ⟨ce485, hce485, hMe485, hcc485⟩ := Kd.S_get HO_208.out [] x210_5 p485 (by first | exact q485 | exact of_decide_eq_true (by assumption) | (have e_ := (Kd.S_reads' HO_208.out).1; omega))
         obtain ⟨ve485_0, rfl, ge485_0⟩ := hMe485
         have hv485_0 := hcc485 0 _ rfl
         rw [Nat.add_zero, show ((Kd.slice 3 (Kd.int .i64))).sz = 1 from rfl, Nat.mul_one] at hv485_0
         replace hv485_0 := Option.some.inj (hv485_0.symm.trans hx485_0)
         rw [hv485_0] at ge485_0
         have HL485_0 := Aside0.mk (show Kd.R (Kd.int .i64) 3 _ _ _ _ (rd_L2 t427 x210_5) from ge485_0)
         clear hv485_0 ge485_0 hcc485 hce485
         have HR485_0 := Aside0.mk hi485_0
         have HC485_0 := Aside0.mk hl485_0
         clear hi485_0 hl485_0
         replace p485 := eq_true p485
         replace q485 := eq_true q485
         go_wp2
         go_loopg [221] k5 (fun kq v221 w' => ∃ (x221_6 : Int), v221 = .int .i64 x221_6 ∧ Aside0 (laws_FnComponentsWalked.l2 kq t427 t435 t437 (wrap64 (x28_5 + ((rd_L2 t427 x210_5).length : Int))) x210_5 (rd_L2 t427 x210_5) t427 (t427.length : Int) x210_5 (rd_L2 t427 x210_5) ((rd_L2 t427 x210_5).length : Int) x221_6 t420 t423 = some r) ∧ Aside0 (kq ≤ k5) ∧ Aside0 (Kd.S (Kd.slice 3 (Kd.int .i64)) 24 w' w.heap.size (fun k_ => some k_ ≠ (v438 : Value).ownBlock ∧ some k_ ≠ ((.slice Ao14 t420.length co14) : Value).ownBlock ∧ some k_ ≠ ((.slice Ao16 t423.length co16) : Value).ownBlock ∧ some k_ ≠ ((.slice Ao62 t448.length co62) : Value).ownBlock ∧ some k_ ≠ ((.slice Ao65 t451.length co65) : Value).ownBlock) (.slice (some ad485) t427.length co114) t427) ∧ Aside0 (Kd.R (Kd.int .i64) 3 w' w.heap.size (fun k_ => some k_ ≠ ((.slice Ao14 t420.length co14) : Value).ownBlock ∧ some k_ ≠ ((.slice Ao16 t423.length co16) : Value).ownBlock ∧ some k_ ≠ ((.slice Ao62 t448.length co62) : Value).ownBlock ∧ some k_ ≠ ((.slice Ao65 t451.length co65) : Value).ownBlock) v438 t437) ∧ Aside0 (Kd.S (Kd.slice 3 (Kd.int .i64)) 24 w' w.heap.size (fun k_ => some k_ ≠ (v438 : Value).ownBlock ∧ some k_ ≠ ((.slice Ao14 t420.length co14) : Value).ownBlock ∧ some k_ ≠ ((.slice Ao16 t423.length co16) : Value).ownBlock ∧ some k_ ≠ ((.slice Ao62 t448.length co62) : Value).ownBlock ∧ some k_ ≠ ((.slice Ao65 t451.length co65) : Value).ownBlock) (.slice (some ad485) t427.length co114) t427) ∧ Aside0 (Kd.R (Kd.int .i64) 3 w' w.heap.size (fun k_ => some k_ ≠ (v438 : Value).ownBlock ∧ some k_ ≠ ((.slice Ao16 t423.length co16) : Value).ownBlock ∧ some k_ ≠ ((.slice Ao62 t448.length co62) : Value).ownBlock ∧ some k_ ≠ ((.slice Ao65 t451.length co65) : Value).ownBlock) (.slice Ao14 t420.length co14) t420) ∧ Aside0 (Kd.R (Kd.int .i64) 3 w' w.heap.size (fun k_ => some k_ ≠ (v438 : Value).ownBlock ∧ some k_ ≠ ((.slice Ao14 t420.length co14) : Value).ownBlock ∧ some k_ ≠ ((.slice Ao62 t448.length co62) : Value).ownBlock ∧ some k_ ≠ ((.slice Ao65 t451.length co65) : Value).ownBlock) (.slice Ao16 t423.length co16) t423) ∧ Aside0 (Kd.R (Kd.int .i64) 3 w' w.heap.size (fun k_ => some k_ ≠ (v438 : Value).ownBlock ∧ some k_ ≠ ((.slice Ao14 t420.length co14) : Value).ownBlock ∧ some k_ ≠ ((.slice Ao16 t423.length co16) : Value).ownBlock ∧ some k_ ≠ ((.slice Ao65 t451.length co65) : Value).ownBlock) (.slice Ao62 t448.length co62) t448) ∧ Aside0 (Kd.R (Kd.int .i64) 3 w' w.heap.size (fun k_ => some k_ ≠ (v438 : Value).ownBlock ∧ some k_ ≠ ((.slice Ao14 t420.length co14) : Value).ownBlock ∧ some k_ ≠ ((.slice Ao16 t423.length co16) : Value).ownBlock ∧ some k_ ≠ ((.slice Ao62 t448.length co62) : Value).ownBlock) (.slice Ao65 t451.length co65) t451) ∧ Aside0 (w'.heap[gb426]? = some (.cells #[(.slice Ao14 t420.length co14), (.slice Ao16 t423.length co16)] 26 (0, 0))) ∧ Aside0 (w'.heap[gb455]? = some (.cells #[(.slice Ao62 t448.length co62), (.slice Ao65 t451.length co65)] 26 (0, 0))) ∧ Aside0 (Kd.C (Kd.int .i64) w' A485_0 (rd_L2 t427 x210_5).length (rd_L2 t427 x210_5)) ∧ Aside0 (Below w.heap.size w w'))
         case atStart => exact ⟨(0), (by first | rfl | (simp; done) | (simp [*]; done)), H', ⟨Nat.le_refl _⟩, ⟨by (with_reducible repeat (first | apply Kd.S_alloc | apply Kd.S_drewN | apply Kd.S_drew)); exact HO_6.out⟩, ⟨by (with_reducible repeat (first | apply rA | apply rN | apply rD)); exact HO_12.out⟩, ⟨by (with_reducible repeat (first | apply Kd.S_alloc | apply Kd.S_drewN | apply Kd.S_drew)); exact HO_208.out⟩, ⟨by (with_reducible repeat (first | apply rA | apply rN | apply rD)); exact HO_427000.out⟩, ⟨by (with_reducible repeat (first | apply rA | apply rN | apply rD)); exact HO_427001.out⟩, ⟨by (with_reducible repeat (first | apply rA | apply rN | apply rD)); exact HO_456000.out⟩, ⟨by (with_reducible repeat (first | apply rA | apply rN | apply rD)); exact HO_456001.out⟩, ⟨by (with_reducible repeat (first | refine blk_drewN ?_ _ | refine blk_drew ?_ | refine blk_alloc ?_ _)); exact BK426.out⟩, ⟨by (with_reducible repeat (first | refine blk_drewN ?_ _ | refine blk_drew ?_ | refine blk_alloc ?_ _)); exact BK455.out⟩, ⟨by repeat (first | (with_reducible exact HR485_0.out) | (with_reducible refine Kd.C_alloc ?_ _) | (with_reducible refine Kd.C_drewN ?_ _) | (with_reducible refine Kd.C_drew ?_) | exact HR485_0.out)⟩, ⟨by repeat (first | exact HB.out | apply bA | apply bN | apply bD | refine below_set ?_ GE426.out | refine below_set ?_ GE455.out)⟩⟩
         case round =>
          clear H'
          try clear p2
          try clear p4
          try clear q4
          try clear hx4
          try clear p6
          try clear p46
          try clear q46
          try clear hx46
          try clear p47
          try clear q47
          try clear hx47
          try clear p48
          try clear q48
          try clear hx48
          try clear p64
          try clear hx466_0
          try clear hx467_0
          try clear hx468_0
          try clear hx469_0
          try clear hx470_0
          try clear hx471_0
          try clear hx485_0
          try clear p2
          try clear p4
          try clear p46
          try clear p466
          try clear p467
          try clear p468
          try clear p469
          try clear p47
          try clear p470
          try clear p471
          try clear p485
          try clear q4
          try clear q46
          try clear q466
          try clear q467
          try clear q468
          try clear q469
          try clear q47
          try clear q470
          try clear q471
          try clear q485
          obtain ⟨x221_6, rfl, HA, HK6, HO_6, HO_12, HO_208, HO_427000, HO_427001, HO_456000, HO_456001, BK426, BK455, HR485_0, HB⟩ := hrel
          cases gk with
          | zero => exact absurd HA.out (by simp [laws_FnComponentsWalked.l2])
          | succ k6 =>
           have H := HA.out
           clear HA
           simp only [laws_FnComponentsWalked.l2] at H
           by_cases c118 : x221_6 < ((rd_L2 t427 x210_5).length : Int)
           ·rw [if_pos c118] at H
            have c118b0 : decide (x221_6 < ((rd_L2 t427 x210_5).length : Int)) = true := decide_eq_true c118
            clear c118
            by_cases c119 : 0 ≤ x221_6
            ·rw [if_pos c119] at H
             have c119b0 : decide (0 ≤ x221_6) = true := decide_eq_true c119
             clear c119
             by_cases c120 : x221_6 < ((rd_L2 t427 x210_5).length : Int)
             ·rw [if_pos c120] at H
              have c120b0 : decide (x221_6 < ((rd_L2 t427 x210_5).length : Int)) = true := decide_eq_true c120
              clear c120
              by_cases c121 : 0 ≤ (rd (rd_L2 t427 x210_5) x221_6)
              ·rw [if_pos c121] at H
               have c121b0 : decide (0 ≤ (rd (rd_L2 t427 x210_5) x221_6)) = true := decide_eq_true c121
               clear c121
               by_cases c122 : (rd (rd_L2 t427 x210_5) x221_6) < (t437.length : Int)
               ·rw [if_pos c122] at H
                have c122b0 : decide ((rd (rd_L2 t427 x210_5) x221_6) < (t437.length : Int)) = true := decide_eq_true c122
                clear c122
                by_cases c123 : (rd t437 (rd (rd_L2 t427 x210_5) x221_6)) = x210_5
                ·rw [if_pos c123] at H
                 have c123b0 : ((rd t437 (rd (rd_L2 t427 x210_5) x221_6)) == x210_5) = true := beq_iff_eq.mpr c123
                 have c123b1 : ((rd t437 (rd (rd_L2 t427 x210_5) x221_6)) != x210_5) = false := bne_eq_false_iff_eq.mpr c123
                 clear c123
                 by_cases c124 : (rd (rd_L2 t427 x210_5) x221_6) < (t420.length : Int)
                 ·rw [if_pos c124] at H
                  have c124b0 : decide ((rd (rd_L2 t427 x210_5) x221_6) < (t420.length : Int)) = true := decide_eq_true c124
                  clear c124
                  by_cases c125 : 0 ≤ (rd t420 (rd (rd_L2 t427 x210_5) x221_6))
                  ·rw [if_pos c125] at H
                   have c125b0 : decide (0 ≤ (rd t420 (rd (rd_L2 t427 x210_5) x221_6))) = true := decide_eq_true c125
                   clear c125
                   by_cases c126 : (rd t420 (rd (rd_L2 t427 x210_5) x221_6)) < (t437.length : Int)
                   ·rw [if_pos c126] at H
                    have c126b0 : decide ((rd t420 (rd (rd_L2 t427 x210_5) x221_6)) < (t437.length : Int)) = true := decide_eq_true c126
                    clear c126
                    by_cases c127 : (rd t437 (rd t420 (rd (rd_L2 t427 x210_5) x221_6))) = x210_5
                    ·rw [if_pos c127] at H
                     have c127b0 : ((rd t437 (rd t420 (rd (rd_L2 t427 x210_5) x221_6))) == x210_5) = true := beq_iff_eq.mpr c127
                     have c127b1 : ((rd t437 (rd t420 (rd (rd_L2 t427 x210_5) x221_6))) != x210_5) = false := bne_eq_false_iff_eq.mpr c127
                     clear c127
                     by_cases c128 : (rd (rd_L2 t427 x210_5) x221_6) < (t423.length : Int)
                     ·rw [if_pos c128] at H
                      have c128b0 : decide ((rd (rd_L2 t427 x210_5) x221_6) < (t423.length : Int)) = true := decide_eq_true c128
                      clear c128
                      by_cases c129 : 0 ≤ (rd t423 (rd (rd_L2 t427 x210_5) x221_6))
                      ·rw [if_pos c129] at H
                       have c129b0 : decide (0 ≤ (rd t423 (rd (rd_L2 t427 x210_5) x221_6))) = true := decide_eq_true c129
                       clear c129
                       by_cases c130 : (rd t423 (rd (rd_L2 t427 x210_5) x221_6)) < (t437.length : Int)
                       ·rw [if_pos c130] at H
                        have c130b0 : decide ((rd t423 (rd (rd_L2 t427 x210_5) x221_6)) < (t437.length : Int)) = true := decide_eq_true c130
                        clear c130
                        by_cases c131 : (rd t437 (rd t423 (rd (rd_L2 t427 x210_5) x221_6))) = x210_5
                        ·rw [if_pos c131] at H
                         have c131b0 : ((rd t437 (rd t423 (rd (rd_L2 t427 x210_5) x221_6))) == x210_5) = true := beq_iff_eq.mpr c131
                         have c131b1 : ((rd t437 (rd t423 (rd (rd_L2 t427 x210_5) x221_6))) != x210_5) = false := bne_eq_false_iff_eq.mpr c131
                         clear c131
                         have H' := Aside0.mk H
                         clear H
                         have p486 : 0 ≤ (x221_6 : Int) := of_decide_eq_true (by assumption)
                         have q486 : x221_6 < ((rd_L2 t427 x210_5).length : Int) := of_decide_eq_true (by assumption)
                         obtain ⟨ad486, e486, hx486_0⟩ := Kd.at_int HR485_0.out x221_6 p486 q486
                         cases e486
                         try replace hx486_0 := (HB.out.cell (World.block_lt_of_cell? w _ hx486_0)).trans hx486_0
                         replace p486 := eq_true p486
                         replace q486 := eq_true q486
                         obtain ⟨Ao132, co132, eo132⟩ := Kd.R_slice HO_12.out
                         subst eo132
                         have p487 : 0 ≤ ((rd (rd_L2 t427 x210_5) x221_6) : Int) := of_decide_eq_true (by assumption)
                         have q487 : (rd (rd_L2 t427 x210_5) x221_6) < (t437.length : Int) := of_decide_eq_true (by assumption)
                         obtain ⟨ad487, e487, hx487_0⟩ := Kd.at_int (Kd.R_reads' HO_12.out).2.2 (rd (rd_L2 t427 x210_5) x221_6) p487 q487
                         cases e487
                         replace p487 := eq_true p487
                         replace q487 := eq_true q487
                         have hnb133 := NB426_455.out
                         have hnc133 := NB455_426.out
                         have hcz134_0 : wr.cell? ⟨gb426, 0, none⟩ = some (.slice Ao14 t420.length co14) := (blk_cell BK426.out 0).trans rfl
                         have hcz134_1 : wr.cell? ⟨gb426, 1, none⟩ = some (.slice Ao16 t423.length co16) := (blk_cell BK426.out 1).trans rfl
                         have hfz134_0 := blk_frozen BK426.out 0
                         have hfz134_1 := blk_frozen BK426.out 1
                         have p488 : 0 ≤ ((rd (rd_L2 t427 x210_5) x221_6) : Int) := of_decide_eq_true (by assumption)
                         have q488 : (rd (rd_L2 t427 x210_5) x221_6) < (t420.length : Int) := of_decide_eq_true (by assumption)
                         obtain ⟨ad488, e488, hx488_0⟩ := Kd.at_int (Kd.R_reads' HO_427000.out).2.2 (rd (rd_L2 t427 x210_5) x221_6) p488 q488
                         cases e488
                         replace p488 := eq_true p488
                         replace q488 := eq_true q488
                         have p489 : 0 ≤ ((rd t420 (rd (rd_L2 t427 x210_5) x221_6)) : Int) := of_decide_eq_true (by assumption)
                         have q489 : (rd t420 (rd (rd_L2 t427 x210_5) x221_6)) < (t437.length : Int) := of_decide_eq_true (by assumption)
                         obtain ⟨ad489, e489, hx489_0⟩ := Kd.at_int (Kd.R_reads' HO_12.out).2.2 (rd t420 (rd (rd_L2 t427 x210_5) x221_6)) p489 q489
                         obtain rfl : ad487 = ad489 := (by injection e489)
                         replace p489 := eq_true p489
                         replace q489 := eq_true q489
                         have p490 : 0 ≤ ((rd (rd_L2 t427 x210_5) x221_6) : Int) := of_decide_eq_true (by assumption)
                         have q490 : (rd (rd_L2 t427 x210_5) x221_6) < (t423.length : Int) := of_decide_eq_true (by assumption)
                         obtain ⟨ad490, e490, hx490_0⟩ := Kd.at_int (Kd.R_reads' HO_427001.out).2.2 (rd (rd_L2 t427 x210_5) x221_6) p490 q490
                         cases e490
                         replace p490 := eq_true p490
                         replace q490 := eq_true q490
                         have p491 : 0 ≤ ((rd t423 (rd (rd_L2 t427 x210_5) x221_6)) : Int) := of_decide_eq_true (by assumption)
                         have q491 : (rd t423 (rd (rd_L2 t427 x210_5) x221_6)) < (t437.length : Int) := of_decide_eq_true (by assumption)
                         obtain ⟨ad491, e491, hx491_0⟩ := Kd.at_int (Kd.R_reads' HO_12.out).2.2 (rd t423 (rd (rd_L2 t427 x210_5) x221_6)) p491 q491
                         obtain rfl : ad487 = ad491 := (by injection e491)
                         replace p491 := eq_true p491
                         replace q491 := eq_true q491
                         go_wp2
                         go_roundg k6
                         case measure => have := HJ10.out; have := HJ58.out; have := HJ73.out; have := HJ106.out; have := HK5.out; have := HK6.out; omega
                         case rel => exact ⟨(wrap64 (x221_6 + 1)), (by first | rfl | (simp; done) | (simp [*]; done)), H', ⟨by have := HJ10.out; have := HJ58.out; have := HJ73.out; have := HJ106.out; have := HK5.out; have := HK6.out; omega⟩, ⟨by (with_reducible repeat (first | apply Kd.S_alloc | apply Kd.S_drewN | apply Kd.S_drew)); exact HO_6.out⟩, ⟨by (with_reducible repeat (first | apply rA | apply rN | apply rD)); exact HO_12.out⟩, ⟨by (with_reducible repeat (first | apply Kd.S_alloc | apply Kd.S_drewN | apply Kd.S_drew)); exact HO_208.out⟩, ⟨by (with_reducible repeat (first | apply rA | apply rN | apply rD)); exact HO_427000.out⟩, ⟨by (with_reducible repeat (first | apply rA | apply rN | apply rD)); exact HO_427001.out⟩, ⟨by (with_reducible repeat (first | apply rA | apply rN | apply rD)); exact HO_456000.out⟩, ⟨by (with_reducible repeat (first | apply rA | apply rN | apply rD)); exact HO_456001.out⟩, ⟨by (with_reducible repeat (first | refine blk_drewN ?_ _ | refine blk_drew ?_ | refine blk_alloc ?_ _)); exact BK426.out⟩, ⟨by (with_reducible repeat (first | refine blk_drewN ?_ _ | refine blk_drew ?_ | refine blk_alloc ?_ _)); exact BK455.out⟩, ⟨by repeat (first | (with_reducible exact HR485_0.out) | (with_reducible refine Kd.C_alloc ?_ _) | (with_reducible refine Kd.C_drewN ?_ _) | (with_reducible refine Kd.C_drew ?_) | exact HR485_0.out)⟩, ⟨by repeat (first | exact HB.out | apply bA | apply bN | apply bD | refine below_set ?_ GE426.out | refine below_set ?_ GE455.out)⟩⟩
                        ·rw [if_neg c131] at H
                         have c131b0 : ((rd t437 (rd t423 (rd (rd_L2 t427 x210_5) x221_6))) == x210_5) = false := beq_eq_false_iff_ne.mpr c131
                         have c131b1 : ((rd t437 (rd t423 (rd (rd_L2 t427 x210_5) x221_6))) != x210_5) = true := bne_iff_ne.mpr c131
                         have hrr_ := Option.some.inj H
                         rw [hr_] at hrr_
                         first
                          | exact absurd hrr_ (by decide)
                          |(clear hrr_
                            obtain rfl := Option.some.inj H
                            have p486 : 0 ≤ (x221_6 : Int) := of_decide_eq_true (by assumption)
                            have q486 : x221_6 < ((rd_L2 t427 x210_5).length : Int) := of_decide_eq_true (by assumption)
                            obtain ⟨ad486, e486, hx486_0⟩ := Kd.at_int HR485_0.out x221_6 p486 q486
                            cases e486
                            try replace hx486_0 := (HB.out.cell (World.block_lt_of_cell? w _ hx486_0)).trans hx486_0
                            replace p486 := eq_true p486
                            replace q486 := eq_true q486
                            obtain ⟨Ao135, co135, eo135⟩ := Kd.R_slice HO_12.out
                            subst eo135
                            have p487 : 0 ≤ ((rd (rd_L2 t427 x210_5) x221_6) : Int) := of_decide_eq_true (by assumption)
                            have q487 : (rd (rd_L2 t427 x210_5) x221_6) < (t437.length : Int) := of_decide_eq_true (by assumption)
                            obtain ⟨ad487, e487, hx487_0⟩ := Kd.at_int (Kd.R_reads' HO_12.out).2.2 (rd (rd_L2 t427 x210_5) x221_6) p487 q487
                            cases e487
                            replace p487 := eq_true p487
                            replace q487 := eq_true q487
                            have hnb136 := NB426_455.out
                            have hnc136 := NB455_426.out
                            have hcz137_0 : wr.cell? ⟨gb426, 0, none⟩ = some (.slice Ao14 t420.length co14) := (blk_cell BK426.out 0).trans rfl
                            have hcz137_1 : wr.cell? ⟨gb426, 1, none⟩ = some (.slice Ao16 t423.length co16) := (blk_cell BK426.out 1).trans rfl
                            have hfz137_0 := blk_frozen BK426.out 0
                            have hfz137_1 := blk_frozen BK426.out 1
                            have p488 : 0 ≤ ((rd (rd_L2 t427 x210_5) x221_6) : Int) := of_decide_eq_true (by assumption)
                            have q488 : (rd (rd_L2 t427 x210_5) x221_6) < (t420.length : Int) := of_decide_eq_true (by assumption)
                            obtain ⟨ad488, e488, hx488_0⟩ := Kd.at_int (Kd.R_reads' HO_427000.out).2.2 (rd (rd_L2 t427 x210_5) x221_6) p488 q488
                            cases e488
                            replace p488 := eq_true p488
                            replace q488 := eq_true q488
                            have p489 : 0 ≤ ((rd t420 (rd (rd_L2 t427 x210_5) x221_6)) : Int) := of_decide_eq_true (by assumption)
                            have q489 : (rd t420 (rd (rd_L2 t427 x210_5) x221_6)) < (t437.length : Int) := of_decide_eq_true (by assumption)
                            obtain ⟨ad489, e489, hx489_0⟩ := Kd.at_int (Kd.R_reads' HO_12.out).2.2 (rd t420 (rd (rd_L2 t427 x210_5) x221_6)) p489 q489
                            obtain rfl : ad487 = ad489 := (by injection e489)
                            replace p489 := eq_true p489
                            replace q489 := eq_true q489
                            have p490 : 0 ≤ ((rd (rd_L2 t427 x210_5) x221_6) : Int) := of_decide_eq_true (by assumption)
                            have q490 : (rd (rd_L2 t427 x210_5) x221_6) < (t423.length : Int) := of_decide_eq_true (by assumption)
                            obtain ⟨ad490, e490, hx490_0⟩ := Kd.at_int (Kd.R_reads' HO_427001.out).2.2 (rd (rd_L2 t427 x210_5) x221_6) p490 q490
                            cases e490
                            replace p490 := eq_true p490
                            replace q490 := eq_true q490
                            have p491 : 0 ≤ ((rd t423 (rd (rd_L2 t427 x210_5) x221_6)) : Int) := of_decide_eq_true (by assumption)
                            have q491 : (rd t423 (rd (rd_L2 t427 x210_5) x221_6)) < (t437.length : Int) := of_decide_eq_true (by assumption)
                            obtain ⟨ad491, e491, hx491_0⟩ := Kd.at_int (Kd.R_reads' HO_12.out).2.2 (rd t423 (rd (rd_L2 t427 x210_5) x221_6)) p491 q491
                            obtain rfl : ad487 = ad491 := (by injection e491)
                            replace p491 := eq_true p491
                            replace q491 := eq_true q491
                            go_wp2
                            go_ret
                            exact ⟨by first | rfl | (simp [*, errW_none, errW_some] <;> rfl), by repeat (first | exact HB.out | apply bA | apply bN | apply bD | refine below_set ?_ GE426.out | refine below_set ?_ GE455.out)⟩)
                       ·rw [if_neg c130] at H
                        exact absurd H (by simp)
                      ·rw [if_neg c129] at H
                       exact absurd H (by simp)
                     ·rw [if_neg c128] at H
                      exact absurd H (by simp)
                    ·rw [if_neg c127] at H
                     have c127b0 : ((rd t437 (rd t420 (rd (rd_L2 t427 x210_5) x221_6))) == x210_5) = false := beq_eq_false_iff_ne.mpr c127
                     have c127b1 : ((rd t437 (rd t420 (rd (rd_L2 t427 x210_5) x221_6))) != x210_5) = true := bne_iff_ne.mpr c127
                     have hrr_ := Option.some.inj H
                     rw [hr_] at hrr_
                     first
                      | exact absurd hrr_ (by decide)
                      |(clear hrr_
                        obtain rfl := Option.some.inj H
                        have p486 : 0 ≤ (x221_6 : Int) := of_decide_eq_true (by assumption)
                        have q486 : x221_6 < ((rd_L2 t427 x210_5).length : Int) := of_decide_eq_true (by assumption)
                        obtain ⟨ad486, e486, hx486_0⟩ := Kd.at_int HR485_0.out x221_6 p486 q486
                        cases e486
                        try replace hx486_0 := (HB.out.cell (World.block_lt_of_cell? w _ hx486_0)).trans hx486_0
                        replace p486 := eq_true p486
                        replace q486 := eq_true q486
                        obtain ⟨Ao138, co138, eo138⟩ := Kd.R_slice HO_12.out
                        subst eo138
                        have p487 : 0 ≤ ((rd (rd_L2 t427 x210_5) x221_6) : Int) := of_decide_eq_true (by assumption)
                        have q487 : (rd (rd_L2 t427 x210_5) x221_6) < (t437.length : Int) := of_decide_eq_true (by assumption)
                        obtain ⟨ad487, e487, hx487_0⟩ := Kd.at_int (Kd.R_reads' HO_12.out).2.2 (rd (rd_L2 t427 x210_5) x221_6) p487 q487
                        cases e487
                        replace p487 := eq_true p487
                        replace q487 := eq_true q487
                        have hnb139 := NB426_455.out
                        have hnc139 := NB455_426.out
                        have hcz140_0 : wr.cell? ⟨gb426, 0, none⟩ = some (.slice Ao14 t420.length co14) := (blk_cell BK426.out 0).trans rfl
                        have hcz140_1 : wr.cell? ⟨gb426, 1, none⟩ = some (.slice Ao16 t423.length co16) := (blk_cell BK426.out 1).trans rfl
                        have hfz140_0 := blk_frozen BK426.out 0
                        have hfz140_1 := blk_frozen BK426.out 1
                        have p488 : 0 ≤ ((rd (rd_L2 t427 x210_5) x221_6) : Int) := of_decide_eq_true (by assumption)
                        have q488 : (rd (rd_L2 t427 x210_5) x221_6) < (t420.length : Int) := of_decide_eq_true (by assumption)
                        obtain ⟨ad488, e488, hx488_0⟩ := Kd.at_int (Kd.R_reads' HO_427000.out).2.2 (rd (rd_L2 t427 x210_5) x221_6) p488 q488
                        cases e488
                        replace p488 := eq_true p488
                        replace q488 := eq_true q488
                        have p489 : 0 ≤ ((rd t420 (rd (rd_L2 t427 x210_5) x221_6)) : Int) := of_decide_eq_true (by assumption)
                        have q489 : (rd t420 (rd (rd_L2 t427 x210_5) x221_6)) < (t437.length : Int) := of_decide_eq_true (by assumption)
                        obtain ⟨ad489, e489, hx489_0⟩ := Kd.at_int (Kd.R_reads' HO_12.out).2.2 (rd t420 (rd (rd_L2 t427 x210_5) x221_6)) p489 q489
                        obtain rfl : ad487 = ad489 := (by injection e489)
                        replace p489 := eq_true p489
                        replace q489 := eq_true q489
                        go_wp2
                        go_ret
                        exact ⟨by first | rfl | (simp [*, errW_none, errW_some] <;> rfl), by repeat (first | exact HB.out | apply bA | apply bN | apply bD | refine below_set ?_ GE426.out | refine below_set ?_ GE455.out)⟩)
                   ·rw [if_neg c126] at H
                    exact absurd H (by simp)
                  ·rw [if_neg c125] at H
                   exact absurd H (by simp)
                 ·rw [if_neg c124] at H
                  exact absurd H (by simp)
                ·rw [if_neg c123] at H
                 have c123b0 : ((rd t437 (rd (rd_L2 t427 x210_5) x221_6)) == x210_5) = false := beq_eq_false_iff_ne.mpr c123
                 have c123b1 : ((rd t437 (rd (rd_L2 t427 x210_5) x221_6)) != x210_5) = true := bne_iff_ne.mpr c123
                 have hrr_ := Option.some.inj H
                 rw [hr_] at hrr_
                 first
                  | exact absurd hrr_ (by decide)
                  |(clear hrr_
                    obtain rfl := Option.some.inj H
                    have p486 : 0 ≤ (x221_6 : Int) := of_decide_eq_true (by assumption)
                    have q486 : x221_6 < ((rd_L2 t427 x210_5).length : Int) := of_decide_eq_true (by assumption)
                    obtain ⟨ad486, e486, hx486_0⟩ := Kd.at_int HR485_0.out x221_6 p486 q486
                    cases e486
                    try replace hx486_0 := (HB.out.cell (World.block_lt_of_cell? w _ hx486_0)).trans hx486_0
                    replace p486 := eq_true p486
                    replace q486 := eq_true q486
                    obtain ⟨Ao141, co141, eo141⟩ := Kd.R_slice HO_12.out
                    subst eo141
                    have p487 : 0 ≤ ((rd (rd_L2 t427 x210_5) x221_6) : Int) := of_decide_eq_true (by assumption)
                    have q487 : (rd (rd_L2 t427 x210_5) x221_6) < (t437.length : Int) := of_decide_eq_true (by assumption)
                    obtain ⟨ad487, e487, hx487_0⟩ := Kd.at_int (Kd.R_reads' HO_12.out).2.2 (rd (rd_L2 t427 x210_5) x221_6) p487 q487
                    cases e487
                    replace p487 := eq_true p487
                    replace q487 := eq_true q487
                    go_wp2
                    go_ret
                    exact ⟨by first | rfl | (simp [*, errW_none, errW_some] <;> rfl), by repeat (first | exact HB.out | apply bA | apply bN | apply bD | refine below_set ?_ GE426.out | refine below_set ?_ GE455.out)⟩)
               ·rw [if_neg c122] at H
                exact absurd H (by simp)
              ·rw [if_neg c121] at H
               exact absurd H (by simp)
             ·rw [if_neg c120] at H
              exact absurd H (by simp)
            ·rw [if_neg c119] at H
             exact absurd H (by simp)
           ·rw [if_neg c118] at H
            have c118b0 : decide (x221_6 < ((rd_L2 t427 x210_5).length : Int)) = false := decide_eq_false c118
            clear c118
            by_cases c142 : 0 < ((rd_L2 t427 x210_5).length : Int)
            ·rw [if_pos c142] at H
             have c142b0 : decide (0 < ((rd_L2 t427 x210_5).length : Int)) = true := decide_eq_true c142
             have c142b1 : decide (0 < (rd_L2 t427 x210_5).length) = true := decide_eq_true (by omega)
             clear c142
             replace H := Option.bind_eq_some_iff.mp H
             obtain ⟨⟨t493, t496⟩, A1430, H⟩ := H
             replace H : (if t496 = true then (if (t493.length : Int) = ((rd_L2 t427 x210_5).length : Int) then (if x210_5 > 0 then (if 0 ≤ (wrap64 (x210_5 - 1)) then (if (wrap64 (x210_5 - 1)) < (t427.length : Int) then (if 0 < ((rd_L2 t427 (wrap64 (x210_5 - 1))).length : Int) then (if (rd (rd_L2 t427 (wrap64 (x210_5 - 1))) 0) ≥ (rd (rd_L2 t427 x210_5) 0) then (some false) else (laws_FnComponentsWalked.l1 k6 t427 t435 t437 (wrap64 (x28_5 + ((rd_L2 t427 x210_5).length : Int))) t427 (t427.length : Int) (wrap64 (x210_5 + 1)) t420 t423)) else (none)) else (none)) else (none)) else (laws_FnComponentsWalked.l1 k6 t427 t435 t437 (wrap64 (x28_5 + ((rd_L2 t427 x210_5).length : Int))) t427 (t427.length : Int) (wrap64 (x210_5 + 1)) t420 t423)) else (some false)) else (some false)) = some r := H
             have A143 := Aside0.mk A1430
             clear A1430
             by_cases c144 : t496 = true
             ·subst c144
              have H1 : (if (t493.length : Int) = ((rd_L2 t427 x210_5).length : Int) then (if x210_5 > 0 then (if 0 ≤ (wrap64 (x210_5 - 1)) then (if (wrap64 (x210_5 - 1)) < (t427.length : Int) then (if 0 < ((rd_L2 t427 (wrap64 (x210_5 - 1))).length : Int) then (if (rd (rd_L2 t427 (wrap64 (x210_5 - 1))) 0) ≥ (rd (rd_L2 t427 x210_5) 0) then (some false) else (laws_FnComponentsWalked.l1 k6 t427 t435 t437 (wrap64 (x28_5 + ((rd_L2 t427 x210_5).length : Int))) t427 (t427.length : Int) (wrap64 (x210_5 + 1)) t420 t423)) else (none)) else (none)) else (none)) else (laws_FnComponentsWalked.l1 k6 t427 t435 t437 (wrap64 (x28_5 + ((rd_L2 t427 x210_5).length : Int))) t427 (t427.length : Int) (wrap64 (x210_5 + 1)) t420 t423)) else (some false)) = some r := by rw [if_pos rfl] at H; exact H
              clear H
              have H := H1
              clear H1
              by_cases c145 : (t493.length : Int) = ((rd_L2 t427 x210_5).length : Int)
              ·rw [if_pos c145] at H
               have c145b0 : ((t493.length : Int) == ((rd_L2 t427 x210_5).length : Int)) = true := beq_iff_eq.mpr c145
               have c145b1 : ((t493.length : Int) != ((rd_L2 t427 x210_5).length : Int)) = false := bne_eq_false_iff_eq.mpr c145
               have c145b2 : (t493.length == (rd_L2 t427 x210_5).length) = true := by first | simpa using c145 | (simp at c145 ⊢; omega)
               clear c145
               by_cases c146 : x210_5 > 0
               ·rw [if_pos c146] at H
                have c146b0 : decide (0 < x210_5) = true := decide_eq_true c146
                clear c146
                obtain ⟨ji147, hji147⟩ : ∃ j_ : Int, (wrap64 (x210_5 - 1)) = j_ := ⟨_, rfl⟩
                replace H : (if 0 ≤ (ji147) then (if (ji147) < (t427.length : Int) then (if 0 < ((rd_L2 t427 (ji147)).length : Int) then (if (rd (rd_L2 t427 (ji147)) 0) ≥ (rd (rd_L2 t427 x210_5) 0) then (some false) else (laws_FnComponentsWalked.l1 k6 t427 t435 t437 (wrap64 (x28_5 + ((rd_L2 t427 x210_5).length : Int))) t427 (t427.length : Int) (wrap64 (x210_5 + 1)) t420 t423)) else (none)) else (none)) else (none)) = some r := by first | (rw [hji147] at H; exact H) | (simp only [hji147] at H ⊢; exact H)
                (try rw [hji147] at A143)
                have hji147w : (IntKind.i64.wrap (x210_5 - 1)) = ji147 := (i64_w _).trans hji147
                by_cases c148 : 0 ≤ (ji147)
                ·rw [if_pos c148] at H
                 have c148b0 : decide (0 ≤ (ji147)) = true := decide_eq_true c148
                 clear c148
                 by_cases c149 : (ji147) < (t427.length : Int)
                 ·rw [if_pos c149] at H
                  have c149b0 : decide ((ji147) < (t427.length : Int)) = true := decide_eq_true c149
                  clear c149
                  by_cases c150 : 0 < ((rd_L2 t427 (ji147)).length : Int)
                  ·rw [if_pos c150] at H
                   have c150b0 : decide (0 < ((rd_L2 t427 (ji147)).length : Int)) = true := decide_eq_true c150
                   have c150b1 : decide (0 < (rd_L2 t427 (ji147)).length) = true := decide_eq_true (by omega)
                   clear c150
                   by_cases c151 : (rd (rd_L2 t427 (ji147)) 0) ≥ (rd (rd_L2 t427 x210_5) 0)
                   ·rw [if_pos c151] at H
                    have c151b0 : decide ((rd (rd_L2 t427 x210_5) 0) ≤ (rd (rd_L2 t427 (ji147)) 0)) = true := decide_eq_true c151
                    clear c151
                    have hrr_ := Option.some.inj H
                    rw [hr_] at hrr_
                    exact absurd hrr_ (by decide)
                   ·rw [if_neg c151] at H
                    have c151b0 : decide ((rd (rd_L2 t427 x210_5) 0) ≤ (rd (rd_L2 t427 (ji147)) 0)) = false := decide_eq_false c151
                    clear c151
                    have H' := Aside0.mk H
                    clear H
                    try go_wp2
                    replace HO_6 := Aside0.mk (Kd.S_drew HO_6.out)
                    replace HO_12 := Aside0.mk (Kd.R_drew HO_12.out)
                    replace HO_208 := Aside0.mk (Kd.S_drew HO_208.out)
                    replace HO_427000 := Aside0.mk (Kd.R_drew HO_427000.out)
                    replace HO_427001 := Aside0.mk (Kd.R_drew HO_427001.out)
                    replace HO_456000 := Aside0.mk (Kd.R_drew HO_456000.out)
                    replace HO_456001 := Aside0.mk (Kd.R_drew HO_456001.out)
                    replace BK426 := Aside0.mk (blk_drew BK426.out)
                    replace BK455 := Aside0.mk (blk_drew BK455.out)
                    replace HR485_0 := Aside0.mk (Kd.C_drew HR485_0.out)
                    replace HB := Aside0.mk (below_drew1 HB.out)
                    have p492 : 0 ≤ (0 : Int) := (by omega)
                    have q492 : 0 < ((rd_L2 t427 x210_5).length : Int) := of_decide_eq_true (by assumption)
                    obtain ⟨ad492, e492, hx492_0⟩ := Kd.at_int HR485_0.out 0 p492 q492
                    have hw492_0 := hx492_0
                    (try rw [show ((0 : Int)).toNat = 0 from rfl] at hw492_0)
                    (try rw [show 0 * 1 = 0 from rfl] at hw492_0)
                    (try rw [Addr.add_zero'] at hw492_0)
                    cases e492
                    have qi492 : (0 < (rd_L2 t427 x210_5).length) = True := eq_true (by omega)
                    (try rw [show ((0 : Int)).toNat = 0 from rfl] at hx492_0)
                    (try rw [Addr.add_zero'] at hx492_0)
                    try replace hx492_0 := (HB.out.cell (World.block_lt_of_cell? w _ hx492_0)).trans hx492_0
                    replace p492 := eq_true p492
                    replace q492 := eq_true q492
                    refine start_ (n := 10) (S := fun w' => w'.cell? ⟨gb426, 0, none⟩ = some (.slice Ao14 t420.length co14) ∧ w'.cell? ⟨gb426, 1, none⟩ = some (.slice Ao16 t423.length co16) ∧ w'.cell? ad492 = some (.int .i64 (rd (rd_L2 t427 x210_5) 0))) (ds := []) #[false, false, false, false, false, false, false, false, false, false] (by kernel_rfl) rfl rfl ⟨(blk_cell BK426.out 0).trans rfl, (blk_cell BK426.out 1).trans rfl, (by first | exact hx492_0 | exact (HB.out.cell (World.block_lt_of_cell? w _ hw492_0)).trans hw492_0 | exact hw492_0 | simpa using hx492_0 | simpa using hw492_0)⟩ (fun hHeld => ?_); refine with_tabW laws_FnComponentsWalked.tab42 laws_FnComponentsWalked.bits42 (fun HT_ HW_ => ?_)
                    generalize wr.drew = w156 at HO_6 HO_12 HO_208 HO_427000 HO_427001 HO_456000 HO_456001 BK426 BK455 HR485_0 HB hx492_0 hHeld ⊢
                    refine pure_ (i := 1) (N := some 258) (v := ?_) (a' := ?_) #[false, true, false, false, false, false, false, false, false, false] rfl rfl (any_of HT_.out (by kernel_rfl)) (fun _ _ _ h => h) (Or.inl ⟨by rfl, ?_⟩) ?_ ?_
                    rotate_left
                    ·intro w'
                     go_simp
                     with_reducible rfl
                    rotate_left
                    ·simp only [Act.put, List.setIfInBounds_toArray, List.set_cons_zero, List.set_cons_succ, i64_w, i32_w]
                     rfl
                    refine pure_ (i := 2) (N := some 259) (v := ?_) (a' := ?_) #[false, true, true, false, false, false, false, false, false, false] rfl rfl (any_of HT_.out (by kernel_rfl)) (fun _ _ _ h => h) (Or.inl ⟨by rfl, ?_⟩) ?_ ?_
                    rotate_left
                    ·intro w'
                     go_simp
                     with_reducible rfl
                    rotate_left
                    ·simp only [Act.put, List.setIfInBounds_toArray, List.set_cons_zero, List.set_cons_succ, i64_w, i32_w]
                     rfl
                    refine take_ (i := 0) (N := some 257) (v := ?_) (a' := ?_) #[true, true, true, false, false, false, false, false, false, false] rfl rfl (take_ofW HT_.out HW_.out (by kernel_rfl)) (fun _ _ _ h => h) (Or.inl ⟨by rfl, ?_⟩) hHeld ?_ ?_
                    rotate_left
                    ·rintro w' ⟨s0, s1, s2⟩
                     go_simp
                     with_reducible rfl
                    rotate_left
                    ·simp only [Act.put, List.setIfInBounds_toArray, List.set_cons_zero, List.set_cons_succ, i64_w, i32_w]
                     rfl
                    refine take_ (i := 3) (N := some 260) (v := ?_) (a' := ?_) #[true, true, true, true, false, false, false, false, false, false] rfl rfl (take_ofW HT_.out HW_.out (by kernel_rfl)) (fun _ _ _ h => h) (Or.inl ⟨by rfl, ?_⟩) hHeld ?_ ?_
                    rotate_left
                    ·rintro w' ⟨s0, s1, s2⟩
                     go_simp
                     with_reducible rfl
                    rotate_left
                    ·simp only [Act.put, List.setIfInBounds_toArray, List.set_cons_zero, List.set_cons_succ, i64_w, i32_w]
                     rfl
                    refine one_ (i := 4) (N := some 261) #[true, true, true, true, true, false, false, false, false, false] rfl rfl (one_of HT_.out (by kernel_rfl)) (by decide) (fun K hK => ?_)
                    refine goes_ Try.func16 (by kernel_rfl) rfl #[.agg #[.slice Ao14 t420.length co14, .slice Ao16 t423.length co16], .int .i64 (rd (rd_L2 t427 x210_5) 0)] (by rfl) rfl rfl (by (try simp only [List.map_toArray, List.map_cons, List.map_nil]); first | done | rfl) ?_
                    with_reducible refine (impl_WayFrom.calls k6 _ _ t420 _ _ t423 (rd (rd_L2 t427 x210_5) 0) t493 true _ ?side1 ?side2 ?side3 ?side4 A143.out).mono ?_
                    (case side1 => exact (Kd.R_reads' HO_427000.out).2.2)
                    (case side2 => exact (Kd.R_reads' HO_427000.out).2.1)
                    (case side3 => exact (Kd.R_reads' HO_427001.out).2.2)
                    (case side4 => exact (Kd.R_reads' HO_427001.out).2.1)
                    rintro e w157 ⟨v494, rfl, ho0, hb⟩
                    refine ⟨_, rfl, ?_⟩
                    have n0_ := Aside0.mk (Kd.S_elder' HO_6.out (Kd.R_base ho0) hb)
                    have n1_ := Aside0.mk (Kd.R_elder' (by (with_reducible repeat (first | apply rA | apply rN | apply rD)); exact HO_12.out) (Kd.R_base ho0) hb)
                    have n2_ := Aside0.mk (Kd.S_elder' HO_208.out (Kd.R_base ho0) hb)
                    have n3_ := Aside0.mk (Kd.R_elder' (by (with_reducible repeat (first | apply rA | apply rN | apply rD)); exact HO_427000.out) (Kd.R_base ho0) hb)
                    have n4_ := Aside0.mk (Kd.R_elder' (by (with_reducible repeat (first | apply rA | apply rN | apply rD)); exact HO_427001.out) (Kd.R_base ho0) hb)
                    have n5_ := Aside0.mk (Kd.R_elder' (by (with_reducible repeat (first | apply rA | apply rN | apply rD)); exact HO_456000.out) (Kd.R_base ho0) hb)
                    have n6_ := Aside0.mk (Kd.R_elder' (by (with_reducible repeat (first | apply rA | apply rN | apply rD)); exact HO_456001.out) (Kd.R_base ho0) hb)
                    have n7_ := Aside0.mk (Kd.R_lower (Kd.R_new' (Kd.R_new' (Kd.R_new' (Kd.R_new' (Kd.R_new' ho0 (Kd.R_lt (by (with_reducible repeat (first | apply rA | apply rN | apply rD)); exact HO_12.out))) (Kd.R_lt (by (with_reducible repeat (first | apply rA | apply rN | apply rD)); exact HO_427000.out))) (Kd.R_lt (by (with_reducible repeat (first | apply rA | apply rN | apply rD)); exact HO_427001.out))) (Kd.R_lt (by (with_reducible repeat (first | apply rA | apply rN | apply rD)); exact HO_456000.out))) (Kd.R_lt (by (with_reducible repeat (first | apply rA | apply rN | apply rD)); exact HO_456001.out))) (below_size (by repeat (first | exact HB.out | apply bA | apply bN | apply bD | refine below_set ?_ GE426.out | refine below_set ?_ GE455.out))))
                    have n8_ := Aside0.mk (blk_below BK426.out hb)
                    have n9_ := Aside0.mk (blk_below BK455.out hb)
                    have n10_ := Aside0.mk (Kd.C_below (by repeat (first | (with_reducible exact HR485_0.out) | (with_reducible refine Kd.C_alloc ?_ _) | (with_reducible refine Kd.C_drewN ?_ _) | (with_reducible refine Kd.C_drew ?_) | exact HR485_0.out)) hb)
                    (try (replace hx487_0 := (hb.cell (p := ad487) (World.block_lt_of_cell? _ _ (by first | exact hx487_0 | simpa using hx487_0))).trans (by first | exact hx487_0 | simpa using hx487_0)))
                    (try (replace hx492_0 := (hb.cell (p := ad492) (World.block_lt_of_cell? _ _ (by first | exact hx492_0 | simpa using hx492_0))).trans (by first | exact hx492_0 | simpa using hx492_0)))
                    have n11_ := Aside0.mk (below_step (by repeat (first | exact HB.out | apply bA | apply bN | apply bD | refine below_set ?_ GE426.out | refine below_set ?_ GE455.out)) hb)
                    clear HO_6 HO_12 HO_208 HO_427000 HO_427001 HO_456000 HO_456001 BK426 BK455 HR485_0 HB
                    have HO_6 := n0_
                    have HO_12 := n1_
                    have HO_208 := n2_
                    have HO_427000 := n3_
                    have HO_427001 := n4_
                    have HO_456000 := n5_
                    have HO_456001 := n6_
                    have HO495 := n7_
                    have BK426 := n8_
                    have BK455 := n9_
                    have HR485_0 := n10_
                    have HB := n11_
                    clear n0_ n1_ n2_ n3_ n4_ n5_ n6_ n7_ n8_ n9_ n10_ n11_
                    (try clear hb)
                    (try clear hb2)
                    (try clear hk)
                    (try clear hi)
                    (try clear ho0)
                    refine hK.out _ _ ⟨(blk_cell BK426.out 0).trans rfl, (blk_cell BK426.out 1).trans rfl, (by first | exact hx492_0 | exact (HB.out.cell (World.block_lt_of_cell? w _ hw492_0)).trans hw492_0 | exact hw492_0 | simpa using hx492_0 | simpa using hw492_0)⟩ (fun hHeld => ?_)
                    clear hK K
                    refine norm_ (a' := ?_) ?_ ?_
                    rotate_left
                    ·show Act.put _ (some 261) _ = _
                     simp only [Act.put, List.setIfInBounds_toArray, List.set_cons_zero, List.set_cons_succ, i64_w, i32_w]
                     rfl
                    refine pure_ (i := 5) (N := some 256) (v := ?_) (a' := ?_) #[true, true, true, true, true, true, false, false, false, false] rfl rfl (any_of HT_.out (by kernel_rfl)) (fun _ _ _ h => h) (Or.inl ⟨by rfl, ?_⟩) ?_ ?_
                    rotate_left
                    ·intro w'
                     go_simp
                     with_reducible rfl
                    rotate_left
                    ·simp only [Act.put, List.setIfInBounds_toArray, List.set_cons_zero, List.set_cons_succ, i64_w, i32_w]
                     rfl
                    refine pure_ (i := 6) (N := some 262) (v := ?_) (a' := ?_) #[true, true, true, true, true, true, true, false, false, false] rfl rfl (any_of HT_.out (by kernel_rfl)) (fun _ _ _ h => h) (Or.inl ⟨by rfl, ?_⟩) ?_ ?_
                    rotate_left
                    ·intro w'
                     go_simp
                     with_reducible rfl
                    rotate_left
                    ·simp only [Act.put, List.setIfInBounds_toArray, List.set_cons_zero, List.set_cons_succ, i64_w, i32_w]
                     rfl
                    refine pure_ (i := 7) (N := some 263) (v := ?_) (a' := ?_) #[true, true, true, true, true, true, true, true, false, false] rfl rfl (any_of HT_.out (by kernel_rfl)) (fun _ _ _ h => h) (Or.inl ⟨by rfl, ?_⟩) ?_ ?_
                    rotate_left
                    ·intro w'
                     go_simp
                     with_reducible rfl
                    rotate_left
                    ·simp only [Act.put, List.setIfInBounds_toArray, List.set_cons_zero, List.set_cons_succ, i64_w, i32_w]
                     rfl
                    refine pure_ (i := 8) (N := some 33) (v := ?_) (a' := ?_) #[true, true, true, true, true, true, true, true, true, false] rfl rfl (any_of HT_.out (by kernel_rfl)) (fun _ _ _ h => h) (Or.inl ⟨by rfl, ?_⟩) ?_ ?_
                    rotate_left
                    ·intro w'
                     go_simp
                     with_reducible rfl
                    rotate_left
                    ·simp only [Act.put, List.setIfInBounds_toArray, List.set_cons_zero, List.set_cons_succ, i64_w, i32_w]
                     rfl
                    refine pure_ (i := 9) (N := some 34) (v := ?_) (a' := ?_) #[true, true, true, true, true, true, true, true, true, true] rfl rfl (any_of HT_.out (by kernel_rfl)) (fun _ _ _ h => h) (Or.inl ⟨by rfl, ?_⟩) ?_ ?_
                    rotate_left
                    ·intro w'
                     go_simp
                     with_reducible rfl
                    rotate_left
                    ·simp only [Act.put, List.setIfInBounds_toArray, List.set_cons_zero, List.set_cons_succ, i64_w, i32_w]
                     rfl
                    refine done_ (done_of HT_.out (by kernel_rfl)) ?_
                    try go_wp2
                    replace HO_6 := Aside0.mk (Kd.S_drew HO_6.out)
                    replace HO_12 := Aside0.mk (Kd.R_drew HO_12.out)
                    replace HO_208 := Aside0.mk (Kd.S_drew HO_208.out)
                    replace HO_427000 := Aside0.mk (Kd.R_drew HO_427000.out)
                    replace HO_427001 := Aside0.mk (Kd.R_drew HO_427001.out)
                    replace HO_456000 := Aside0.mk (Kd.R_drew HO_456000.out)
                    replace HO_456001 := Aside0.mk (Kd.R_drew HO_456001.out)
                    replace HO495 := Aside0.mk (Kd.R_drew HO495.out)
                    replace BK426 := Aside0.mk (blk_drew BK426.out)
                    replace BK455 := Aside0.mk (blk_drew BK455.out)
                    replace HR485_0 := Aside0.mk (Kd.C_drew HR485_0.out)
                    replace HB := Aside0.mk (below_drew1 HB.out)
                    obtain ⟨Ao159, co159, eo159⟩ := Kd.R_slice HO495.out
                    (first | subst eo159 | (injection eo159 with f1_ f2_ f3_; have f4_ := f1_.symm; have f5_ := f3_.symm; clear f1_ f2_ f3_; subst f4_; subst f5_))
                    have p497 : 0 ≤ ((ji147) : Int) := of_decide_eq_true (by assumption)
                    have q497 : (ji147) < (t427.length : Int) := of_decide_eq_true (by assumption)
                    obtain ⟨ad497, A497_0, c497_0, e497, hx497_0, hl497_0, hi497_0⟩ := at_L2 (Kd.S_reads' HO_6.out).2.2 (ji147) p497 q497
                    obtain rfl : ad485 = ad497 := (by injection e497)
                    obtain ⟨ce497, hce497, hMe497, hcc497⟩ := Kd.S_get HO_6.out [] (ji147) p497 (by first | exact q497 | exact of_decide_eq_true (by assumption) | (have e_ := (Kd.S_reads' HO_6.out).1; omega))
                    obtain ⟨ve497_0, rfl, ge497_0⟩ := hMe497
                    have hv497_0 := hcc497 0 _ rfl
                    rw [Nat.add_zero, show ((Kd.slice 3 (Kd.int .i64))).sz = 1 from rfl, Nat.mul_one] at hv497_0
                    replace hv497_0 := Option.some.inj (hv497_0.symm.trans hx497_0)
                    rw [hv497_0] at ge497_0
                    have HL497_0 := Aside0.mk (show Kd.R (Kd.int .i64) 3 _ _ _ _ (rd_L2 t427 (ji147)) from ge497_0)
                    clear hv497_0 ge497_0 hcc497 hce497
                    have HR497_0 := Aside0.mk hi497_0
                    have HC497_0 := Aside0.mk hl497_0
                    clear hi497_0 hl497_0
                    replace p497 := eq_true p497
                    replace q497 := eq_true q497
                    have p498 : 0 ≤ (0 : Int) := (by omega)
                    have q498 : 0 < ((rd_L2 t427 (ji147)).length : Int) := of_decide_eq_true (by assumption)
                    obtain ⟨ad498, e498, hx498_0⟩ := Kd.at_int (by repeat (first | (with_reducible exact HR497_0.out) | (with_reducible refine Kd.C_alloc ?_ _) | (with_reducible refine Kd.C_drewN ?_ _) | (with_reducible refine Kd.C_drew ?_) | exact HR497_0.out)) 0 p498 q498
                    cases e498
                    have qi498 : (0 < (rd_L2 t427 (ji147)).length) = True := eq_true (by omega)
                    (try rw [show ((0 : Int)).toNat = 0 from rfl] at hx498_0)
                    (try rw [Addr.add_zero'] at hx498_0)
                    replace p498 := eq_true p498
                    replace q498 := eq_true q498
                    have p499 : 0 ≤ (0 : Int) := (by omega)
                    have q499 : 0 < ((rd_L2 t427 x210_5).length : Int) := of_decide_eq_true (by assumption)
                    obtain ⟨ad499, e499, hx499_0⟩ := Kd.at_int HR485_0.out 0 p499 q499
                    have hw499_0 := hx499_0
                    (try rw [show ((0 : Int)).toNat = 0 from rfl] at hw499_0)
                    (try rw [show 0 * 1 = 0 from rfl] at hw499_0)
                    (try rw [Addr.add_zero'] at hw499_0)
                    obtain rfl : ad492 = ad499 := (by injection e499)
                    have qi499 : (0 < (rd_L2 t427 x210_5).length) = True := eq_true (by omega)
                    (try rw [show ((0 : Int)).toNat = 0 from rfl] at hx499_0)
                    (try rw [Addr.add_zero'] at hx499_0)
                    try replace hx499_0 := (HB.out.cell (World.block_lt_of_cell? w _ hx499_0)).trans hx499_0
                    replace p499 := eq_true p499
                    replace q499 := eq_true q499
                    refine start_ (n := 26) (S := fun w' => w'.cell? (ad485.add ((ji147)).toNat) = some (.slice (some ad498) (rd_L2 t427 (ji147)).length c497_0) ∧ w'.cell? ad498 = some (.int .i64 (rd (rd_L2 t427 (ji147)) 0)) ∧ w'.cell? ad492 = some (.int .i64 (rd (rd_L2 t427 x210_5) 0))) (ds := []) #[false, false, false, false, false, false, false, false, false, false, false, false, false, false, false, false, false, false, false, false, false, false, false, false, false, false] (by kernel_rfl) rfl rfl ⟨hx497_0, hx498_0, (by first | exact hx499_0 | exact (HB.out.cell (World.block_lt_of_cell? w _ hw499_0)).trans hw499_0 | exact hw499_0 | simpa using hx499_0 | simpa using hw499_0)⟩ (fun hHeld => ?_); refine with_tabW laws_FnComponentsWalked.tab43 laws_FnComponentsWalked.bits43 (fun HT_ HW_ => ?_)
                    generalize w157.drew = w158 at HO_6 HO_12 HO_208 HO_427000 HO_427001 HO_456000 HO_456001 HO495 BK426 BK455 HR485_0 HB HL497_0 HR497_0 hx497_0 hx498_0 hx499_0 hHeld ⊢
                    refine pure_ (i := 0) (N := some 264) (v := ?_) (a' := ?_) #[true, false, false, false, false, false, false, false, false, false, false, false, false, false, false, false, false, false, false, false, false, false, false, false, false, false] rfl rfl (any_of HT_.out (by kernel_rfl)) (fun _ _ _ h => h) (Or.inl ⟨by rfl, ?_⟩) ?_ ?_
                    rotate_left
                    ·intro w'
                     go_simp
                     with_reducible rfl
                    rotate_left
                    ·simp only [Act.put, List.setIfInBounds_toArray, List.set_cons_zero, List.set_cons_succ, i64_w, i32_w]
                     rfl
                    refine pure_ (i := 1) (N := some 265) (v := ?_) (a' := ?_) #[true, true, false, false, false, false, false, false, false, false, false, false, false, false, false, false, false, false, false, false, false, false, false, false, false, false] rfl rfl (any_of HT_.out (by kernel_rfl)) (fun _ _ _ h => h) (Or.inl ⟨by rfl, ?_⟩) ?_ ?_
                    rotate_left
                    ·intro w'
                     go_simp
                     with_reducible rfl
                    rotate_left
                    ·simp only [Act.put, List.setIfInBounds_toArray, List.set_cons_zero, List.set_cons_succ, i64_w, i32_w]
                     rfl
                    refine pure_ (i := 2) (N := some 266) (v := ?_) (a' := ?_) #[true, true, true, false, false, false, false, false, false, false, false, false, false, false, false, false, false, false, false, false, false, false, false, false, false, false] rfl rfl (any_of HT_.out (by kernel_rfl)) (fun _ _ _ h => h) (Or.inl ⟨by rfl, ?_⟩) ?_ ?_
                    rotate_left
                    ·intro w'
                     go_simp
                     with_reducible rfl
                    rotate_left
                    ·simp only [Act.put, List.setIfInBounds_toArray, List.set_cons_zero, List.set_cons_succ, i64_w, i32_w]
                     rfl
                    refine pure_ (i := 3) (N := some 267) (v := ?_) (a' := ?_) #[true, true, true, true, false, false, false, false, false, false, false, false, false, false, false, false, false, false, false, false, false, false, false, false, false, false] rfl rfl (any_of HT_.out (by kernel_rfl)) (fun _ _ _ h => h) (Or.inl ⟨by rfl, ?_⟩) ?_ ?_
                    rotate_left
                    ·intro w'
                     go_simp
                     with_reducible rfl
                    rotate_left
                    ·simp only [Act.put, List.setIfInBounds_toArray, List.set_cons_zero, List.set_cons_succ, i64_w, i32_w]
                     rfl
                    refine pure_ (i := 4) (N := some 268) (v := ?_) (a' := ?_) #[true, true, true, true, true, false, false, false, false, false, false, false, false, false, false, false, false, false, false, false, false, false, false, false, false, false] rfl rfl (any_of HT_.out (by kernel_rfl)) (fun _ _ _ h => h) (Or.inl ⟨by rfl, ?_⟩) ?_ ?_
                    rotate_left
                    ·intro w'
                     go_simp
                     with_reducible rfl
                    rotate_left
                    ·simp only [Act.put, List.setIfInBounds_toArray, List.set_cons_zero, List.set_cons_succ, i64_w, i32_w]
                     rfl
                    refine pure_ (i := 5) (N := some 269) (v := ?_) (a' := ?_) #[true, true, true, true, true, true, false, false, false, false, false, false, false, false, false, false, false, false, false, false, false, false, false, false, false, false] rfl rfl (any_of HT_.out (by kernel_rfl)) (fun _ _ _ h => h) (Or.inl ⟨by rfl, ?_⟩) ?_ ?_
                    rotate_left
                    ·intro w'
                     go_simp
                     with_reducible rfl
                    rotate_left
                    ·simp only [Act.put, List.setIfInBounds_toArray, List.set_cons_zero, List.set_cons_succ, i64_w, i32_w]
                     rfl
                    refine pure_ (i := 6) (N := some 270) (v := ?_) (a' := ?_) #[true, true, true, true, true, true, true, false, false, false, false, false, false, false, false, false, false, false, false, false, false, false, false, false, false, false] rfl rfl (any_of HT_.out (by kernel_rfl)) (fun _ _ _ h => h) (Or.inl ⟨by rfl, ?_⟩) ?_ ?_
                    rotate_left
                    ·intro w'
                     go_simp
                     with_reducible rfl
                    rotate_left
                    ·simp only [Act.put, List.setIfInBounds_toArray, List.set_cons_zero, List.set_cons_succ, i64_w, i32_w]
                     rfl
                    refine pure_ (i := 7) (N := some 271) (v := ?_) (a' := ?_) #[true, true, true, true, true, true, true, true, false, false, false, false, false, false, false, false, false, false, false, false, false, false, false, false, false, false] rfl rfl (any_of HT_.out (by kernel_rfl)) (fun _ _ _ h => h) (Or.inl ⟨by rfl, ?_⟩) ?_ ?_
                    rotate_left
                    ·intro w'
                     go_simp
                     with_reducible rfl
                    rotate_left
                    ·simp only [Act.put, List.setIfInBounds_toArray, List.set_cons_zero, List.set_cons_succ, i64_w, i32_w]
                     rfl
                    refine pure_ (i := 8) (N := some 272) (v := ?_) (a' := ?_) #[true, true, true, true, true, true, true, true, true, false, false, false, false, false, false, false, false, false, false, false, false, false, false, false, false, false] rfl rfl (any_of HT_.out (by kernel_rfl)) (fun _ _ _ h => h) (Or.inl ⟨by rfl, ?_⟩) ?_ ?_
                    rotate_left
                    ·intro w'
                     go_simp
                     with_reducible rfl
                    rotate_left
                    ·simp only [Act.put, List.setIfInBounds_toArray, List.set_cons_zero, List.set_cons_succ, i64_w, i32_w]
                     rfl
                    refine pure_ (i := 9) (N := some 273) (v := ?_) (a' := ?_) #[true, true, true, true, true, true, true, true, true, true, false, false, false, false, false, false, false, false, false, false, false, false, false, false, false, false] rfl rfl (any_of HT_.out (by kernel_rfl)) (fun _ _ _ h => h) (Or.inl ⟨by rfl, ?_⟩) ?_ ?_
                    rotate_left
                    ·intro w'
                     go_simp
                     with_reducible rfl
                    rotate_left
                    ·simp only [Act.put, List.setIfInBounds_toArray, List.set_cons_zero, List.set_cons_succ, i64_w, i32_w]
                     rfl
                    refine pure_ (i := 10) (N := some 274) (v := ?_) (a' := ?_) #[true, true, true, true, true, true, true, true, true, true, true, false, false, false, false, false, false, false, false, false, false, false, false, false, false, false] rfl rfl (any_of HT_.out (by kernel_rfl)) (fun _ _ _ h => h) (Or.inl ⟨by rfl, ?_⟩) ?_ ?_
                    rotate_left
                    ·intro w'
                     go_simp
                     with_reducible rfl
                    rotate_left
                    ·simp only [Act.put, List.setIfInBounds_toArray, List.set_cons_zero, List.set_cons_succ, i64_w, i32_w]
                     rfl
                    refine pure_ (i := 11) (N := some 275) (v := ?_) (a' := ?_) #[true, true, true, true, true, true, true, true, true, true, true, true, false, false, false, false, false, false, false, false, false, false, false, false, false, false] rfl rfl (any_of HT_.out (by kernel_rfl)) (fun _ _ _ h => h) (Or.inl ⟨by rfl, ?_⟩) ?_ ?_
                    rotate_left
                    ·intro w'
                     go_simp
                     with_reducible rfl
                    rotate_left
                    ·simp only [Act.put, List.setIfInBounds_toArray, List.set_cons_zero, List.set_cons_succ, i64_w, i32_w]
                     rfl
                    refine pure_ (i := 12) (N := some 276) (v := ?_) (a' := ?_) #[true, true, true, true, true, true, true, true, true, true, true, true, true, false, false, false, false, false, false, false, false, false, false, false, false, false] rfl rfl (any_of HT_.out (by kernel_rfl)) (fun _ _ _ h => h) (Or.inl ⟨by rfl, ?_⟩) ?_ ?_
                    rotate_left
                    ·intro w'
                     go_simp
                     with_reducible rfl
                    rotate_left
                    ·simp only [Act.put, List.setIfInBounds_toArray, List.set_cons_zero, List.set_cons_succ, i64_w, i32_w]
                     rfl
                    refine pure_ (i := 13) (N := some 277) (v := ?_) (a' := ?_) #[true, true, true, true, true, true, true, true, true, true, true, true, true, true, false, false, false, false, false, false, false, false, false, false, false, false] rfl rfl (any_of HT_.out (by kernel_rfl)) (fun _ _ _ h => h) (Or.inl ⟨by rfl, ?_⟩) ?_ ?_
                    rotate_left
                    ·intro w'
                     go_simp
                     with_reducible rfl
                    rotate_left
                    ·simp only [Act.put, List.setIfInBounds_toArray, List.set_cons_zero, List.set_cons_succ, i64_w, i32_w]
                     rfl
                    refine pure_ (i := 14) (N := some 278) (v := ?_) (a' := ?_) #[true, true, true, true, true, true, true, true, true, true, true, true, true, true, true, false, false, false, false, false, false, false, false, false, false, false] rfl rfl (any_of HT_.out (by kernel_rfl)) (fun _ _ _ h => h) (Or.inl ⟨by rfl, ?_⟩) ?_ ?_
                    rotate_left
                    ·intro w'
                     go_simp
                     with_reducible rfl
                    rotate_left
                    ·simp only [Act.put, List.setIfInBounds_toArray, List.set_cons_zero, List.set_cons_succ, i64_w, i32_w]
                     rfl
                    refine pure_ (i := 15) (N := some 279) (v := ?_) (a' := ?_) #[true, true, true, true, true, true, true, true, true, true, true, true, true, true, true, true, false, false, false, false, false, false, false, false, false, false] rfl rfl (any_of HT_.out (by kernel_rfl)) (fun _ _ _ h => h) (Or.inl ⟨by rfl, ?_⟩) ?_ ?_
                    rotate_left
                    ·intro w'
                     go_simp
                     with_reducible rfl
                    rotate_left
                    ·simp only [Act.put, List.setIfInBounds_toArray, List.set_cons_zero, List.set_cons_succ, i64_w, i32_w]
                     rfl
                    refine pure_ (i := 16) (N := some 280) (v := ?_) (a' := ?_) #[true, true, true, true, true, true, true, true, true, true, true, true, true, true, true, true, true, false, false, false, false, false, false, false, false, false] rfl rfl (any_of HT_.out (by kernel_rfl)) (fun _ _ _ h => h) (Or.inl ⟨by rfl, ?_⟩) ?_ ?_
                    rotate_left
                    ·intro w'
                     go_simp
                     with_reducible rfl
                    rotate_left
                    ·simp only [Act.put, List.setIfInBounds_toArray, List.set_cons_zero, List.set_cons_succ, i64_w, i32_w]
                     rfl
                    refine pure_ (i := 20) (N := some 284) (v := ?_) (a' := ?_) #[true, true, true, true, true, true, true, true, true, true, true, true, true, true, true, true, true, false, false, false, true, false, false, false, false, false] rfl rfl (any_of HT_.out (by kernel_rfl)) (fun _ _ _ h => h) (Or.inl ⟨by rfl, ?_⟩) ?_ ?_
                    rotate_left
                    ·intro w'
                     go_simp
                     with_reducible rfl
                    rotate_left
                    ·simp only [Act.put, List.setIfInBounds_toArray, List.set_cons_zero, List.set_cons_succ, i64_w, i32_w]
                     rfl
                    refine pure_ (i := 21) (N := some 285) (v := ?_) (a' := ?_) #[true, true, true, true, true, true, true, true, true, true, true, true, true, true, true, true, true, false, false, false, true, true, false, false, false, false] rfl rfl (any_of HT_.out (by kernel_rfl)) (fun _ _ _ h => h) (Or.inl ⟨by rfl, ?_⟩) ?_ ?_
                    rotate_left
                    ·intro w'
                     go_simp
                     with_reducible rfl
                    rotate_left
                    ·simp only [Act.put, List.setIfInBounds_toArray, List.set_cons_zero, List.set_cons_succ, i64_w, i32_w]
                     rfl
                    refine take_ (i := 17) (N := some 281) (v := ?_) (a' := ?_) #[true, true, true, true, true, true, true, true, true, true, true, true, true, true, true, true, true, true, false, false, true, true, false, false, false, false] rfl rfl (take_ofW HT_.out HW_.out (by kernel_rfl)) (fun _ _ _ h => h) (Or.inl ⟨by rfl, ?_⟩) hHeld ?_ ?_
                    rotate_left
                    ·rintro w' ⟨s0, s1, s2⟩
                     go_simp
                     with_reducible rfl
                    rotate_left
                    ·simp only [Act.put, List.setIfInBounds_toArray, List.set_cons_zero, List.set_cons_succ, i64_w, i32_w]
                     rfl
                    refine pure_ (i := 18) (N := some 282) (v := ?_) (a' := ?_) #[true, true, true, true, true, true, true, true, true, true, true, true, true, true, true, true, true, true, true, false, true, true, false, false, false, false] rfl rfl (any_of HT_.out (by kernel_rfl)) (fun _ _ _ h => h) (Or.inl ⟨by rfl, ?_⟩) ?_ ?_
                    rotate_left
                    ·intro w'
                     go_simp
                     with_reducible rfl
                    rotate_left
                    ·simp only [Act.put, List.setIfInBounds_toArray, List.set_cons_zero, List.set_cons_succ, i64_w, i32_w]
                     rfl
                    refine take_ (i := 19) (N := some 283) (v := ?_) (a' := ?_) #[true, true, true, true, true, true, true, true, true, true, true, true, true, true, true, true, true, true, true, true, true, true, false, false, false, false] rfl rfl (take_ofW HT_.out HW_.out (by kernel_rfl)) (fun _ _ _ h => h) (Or.inl ⟨by rfl, ?_⟩) hHeld ?_ ?_
                    rotate_left
                    ·rintro w' ⟨s0, s1, s2⟩
                     go_simp
                     with_reducible rfl
                    rotate_left
                    ·simp only [Act.put, List.setIfInBounds_toArray, List.set_cons_zero, List.set_cons_succ, i64_w, i32_w]
                     rfl
                    refine take_ (i := 22) (N := some 286) (v := ?_) (a' := ?_) #[true, true, true, true, true, true, true, true, true, true, true, true, true, true, true, true, true, true, true, true, true, true, true, false, false, false] rfl rfl (take_ofW HT_.out HW_.out (by kernel_rfl)) (fun _ _ _ h => h) (Or.inl ⟨by rfl, ?_⟩) hHeld ?_ ?_
                    rotate_left
                    ·rintro w' ⟨s0, s1, s2⟩
                     go_simp
                     with_reducible rfl
                    rotate_left
                    ·simp only [Act.put, List.setIfInBounds_toArray, List.set_cons_zero, List.set_cons_succ, i64_w, i32_w]
                     rfl
                    refine pure_ (i := 23) (N := some 287) (v := ?_) (a' := ?_) #[true, true, true, true, true, true, true, true, true, true, true, true, true, true, true, true, true, true, true, true, true, true, true, true, false, false] rfl rfl (any_of HT_.out (by kernel_rfl)) (fun _ _ _ h => h) (Or.inl ⟨by rfl, ?_⟩) ?_ ?_
                    rotate_left
                    ·intro w'
                     go_simp
                     with_reducible rfl
                    rotate_left
                    ·simp only [Act.put, List.setIfInBounds_toArray, List.set_cons_zero, List.set_cons_succ, i64_w, i32_w]
                     rfl
                    refine pure_ (i := 24) (N := some 288) (v := ?_) (a' := ?_) #[true, true, true, true, true, true, true, true, true, true, true, true, true, true, true, true, true, true, true, true, true, true, true, true, true, false] rfl rfl (any_of HT_.out (by kernel_rfl)) (fun _ _ _ h => h) (Or.inl ⟨by rfl, ?_⟩) ?_ ?_
                    rotate_left
                    ·intro w'
                     go_simp
                     with_reducible rfl
                    rotate_left
                    ·simp only [Act.put, List.setIfInBounds_toArray, List.set_cons_zero, List.set_cons_succ, i64_w, i32_w]
                     rfl
                    refine pure_ (i := 25) (N := some 289) (v := ?_) (a' := ?_) #[true, true, true, true, true, true, true, true, true, true, true, true, true, true, true, true, true, true, true, true, true, true, true, true, true, true] rfl rfl (any_of HT_.out (by kernel_rfl)) (fun _ _ _ h => h) (Or.inl ⟨by rfl, ?_⟩) ?_ ?_
                    rotate_left
                    ·intro w'
                     go_simp
                     with_reducible rfl
                    rotate_left
                    ·simp only [Act.put, List.setIfInBounds_toArray, List.set_cons_zero, List.set_cons_succ, i64_w, i32_w]
                     rfl
                    refine done_ (done_of HT_.out (by kernel_rfl)) ?_
                    try go_wp2
                    go_roundg k6
                    case measure => have := HJ10.out; have := HJ58.out; have := HJ73.out; have := HJ106.out; have := HK5.out; have := HK6.out; omega
                    case rel => exact ⟨((wrap64 (x28_5 + ((rd_L2 t427 x210_5).length : Int)))), (wrap64 (x210_5 + 1)), (by first | rfl | (simp; done) | (simp [*]; done)), (by first | rfl | (simp; done) | (simp [*]; done)), H', ⟨by have := HJ10.out; have := HJ58.out; have := HJ73.out; have := HJ106.out; have := HK5.out; have := HK6.out; omega⟩, ⟨by (with_reducible repeat (first | apply Kd.S_alloc | apply Kd.S_drewN | apply Kd.S_drew)); exact Kd.S_mono HO_6.out (fun _ hk => ⟨hk.1.1, ⟨hk.1.2.1, ⟨hk.1.2.2.1, ⟨hk.1.2.2.2.1, hk.1.2.2.2.2⟩⟩⟩⟩)⟩, ⟨by (with_reducible repeat (first | apply rA | apply rN | apply rD)); exact Kd.R_mono HO_12.out (fun _ hk => ⟨hk.1.1, ⟨hk.1.2.1, ⟨hk.1.2.2.1, hk.1.2.2.2⟩⟩⟩)⟩, ⟨by (with_reducible repeat (first | apply Kd.S_alloc | apply Kd.S_drewN | apply Kd.S_drew)); exact Kd.S_mono HO_208.out (fun _ hk => ⟨hk.1.1, ⟨hk.1.2.1, ⟨hk.1.2.2.1, ⟨hk.1.2.2.2.1, hk.1.2.2.2.2⟩⟩⟩⟩)⟩, ⟨by (with_reducible repeat (first | apply rA | apply rN | apply rD)); exact Kd.R_mono HO_427000.out (fun _ hk => ⟨hk.1.1, ⟨hk.1.2.1, ⟨hk.1.2.2.1, hk.1.2.2.2⟩⟩⟩)⟩, ⟨by (with_reducible repeat (first | apply rA | apply rN | apply rD)); exact Kd.R_mono HO_427001.out (fun _ hk => ⟨hk.1.1, ⟨hk.1.2.1, ⟨hk.1.2.2.1, hk.1.2.2.2⟩⟩⟩)⟩, ⟨by (with_reducible repeat (first | apply rA | apply rN | apply rD)); exact Kd.R_mono HO_456000.out (fun _ hk => ⟨hk.1.1, ⟨hk.1.2.1, ⟨hk.1.2.2.1, hk.1.2.2.2⟩⟩⟩)⟩, ⟨by (with_reducible repeat (first | apply rA | apply rN | apply rD)); exact Kd.R_mono HO_456001.out (fun _ hk => ⟨hk.1.1, ⟨hk.1.2.1, ⟨hk.1.2.2.1, hk.1.2.2.2⟩⟩⟩)⟩, ⟨by (with_reducible repeat (first | refine blk_drewN ?_ _ | refine blk_drew ?_ | refine blk_alloc ?_ _)); exact BK426.out⟩, ⟨by (with_reducible repeat (first | refine blk_drewN ?_ _ | refine blk_drew ?_ | refine blk_alloc ?_ _)); exact BK455.out⟩, ⟨by repeat (first | exact HB.out | apply bA | apply bN | apply bD | refine below_set ?_ GE426.out | refine below_set ?_ GE455.out)⟩⟩
                  ·rw [if_neg c150] at H
                   exact absurd H (by simp)
                 ·rw [if_neg c149] at H
                  exact absurd H (by simp)
                ·rw [if_neg c148] at H
                 exact absurd H (by simp)
               ·rw [if_neg c146] at H
                have c146b0 : decide (0 < x210_5) = false := decide_eq_false c146
                clear c146
                have H' := Aside0.mk H
                clear H
                try go_wp2
                replace HO_6 := Aside0.mk (Kd.S_drew HO_6.out)
                replace HO_12 := Aside0.mk (Kd.R_drew HO_12.out)
                replace HO_208 := Aside0.mk (Kd.S_drew HO_208.out)
                replace HO_427000 := Aside0.mk (Kd.R_drew HO_427000.out)
                replace HO_427001 := Aside0.mk (Kd.R_drew HO_427001.out)
                replace HO_456000 := Aside0.mk (Kd.R_drew HO_456000.out)
                replace HO_456001 := Aside0.mk (Kd.R_drew HO_456001.out)
                replace BK426 := Aside0.mk (blk_drew BK426.out)
                replace BK455 := Aside0.mk (blk_drew BK455.out)
                replace HR485_0 := Aside0.mk (Kd.C_drew HR485_0.out)
                replace HB := Aside0.mk (below_drew1 HB.out)
                have p492 : 0 ≤ (0 : Int) := (by omega)
                have q492 : 0 < ((rd_L2 t427 x210_5).length : Int) := of_decide_eq_true (by assumption)
                obtain ⟨ad492, e492, hx492_0⟩ := Kd.at_int HR485_0.out 0 p492 q492
                have hw492_0 := hx492_0
                (try rw [show ((0 : Int)).toNat = 0 from rfl] at hw492_0)
                (try rw [show 0 * 1 = 0 from rfl] at hw492_0)
                (try rw [Addr.add_zero'] at hw492_0)
                cases e492
                have qi492 : (0 < (rd_L2 t427 x210_5).length) = True := eq_true (by omega)
                (try rw [show ((0 : Int)).toNat = 0 from rfl] at hx492_0)
                (try rw [Addr.add_zero'] at hx492_0)
                try replace hx492_0 := (HB.out.cell (World.block_lt_of_cell? w _ hx492_0)).trans hx492_0
                replace p492 := eq_true p492
                replace q492 := eq_true q492
                refine start_ (n := 10) (S := fun w' => w'.cell? ⟨gb426, 0, none⟩ = some (.slice Ao14 t420.length co14) ∧ w'.cell? ⟨gb426, 1, none⟩ = some (.slice Ao16 t423.length co16) ∧ w'.cell? ad492 = some (.int .i64 (rd (rd_L2 t427 x210_5) 0))) (ds := []) #[false, false, false, false, false, false, false, false, false, false] (by kernel_rfl) rfl rfl ⟨(blk_cell BK426.out 0).trans rfl, (blk_cell BK426.out 1).trans rfl, (by first | exact hx492_0 | exact (HB.out.cell (World.block_lt_of_cell? w _ hw492_0)).trans hw492_0 | exact hw492_0 | simpa using hx492_0 | simpa using hw492_0)⟩ (fun hHeld => ?_); refine with_tabW laws_FnComponentsWalked.tab42 laws_FnComponentsWalked.bits42 (fun HT_ HW_ => ?_)
                generalize wr.drew = w160 at HO_6 HO_12 HO_208 HO_427000 HO_427001 HO_456000 HO_456001 BK426 BK455 HR485_0 HB hx492_0 hHeld ⊢
                refine pure_ (i := 1) (N := some 258) (v := ?_) (a' := ?_) #[false, true, false, false, false, false, false, false, false, false] rfl rfl (any_of HT_.out (by kernel_rfl)) (fun _ _ _ h => h) (Or.inl ⟨by rfl, ?_⟩) ?_ ?_
                rotate_left
                ·intro w'
                 go_simp
                 with_reducible rfl
                rotate_left
                ·simp only [Act.put, List.setIfInBounds_toArray, List.set_cons_zero, List.set_cons_succ, i64_w, i32_w]
                 rfl
                refine pure_ (i := 2) (N := some 259) (v := ?_) (a' := ?_) #[false, true, true, false, false, false, false, false, false, false] rfl rfl (any_of HT_.out (by kernel_rfl)) (fun _ _ _ h => h) (Or.inl ⟨by rfl, ?_⟩) ?_ ?_
                rotate_left
                ·intro w'
                 go_simp
                 with_reducible rfl
                rotate_left
                ·simp only [Act.put, List.setIfInBounds_toArray, List.set_cons_zero, List.set_cons_succ, i64_w, i32_w]
                 rfl
                refine take_ (i := 0) (N := some 257) (v := ?_) (a' := ?_) #[true, true, true, false, false, false, false, false, false, false] rfl rfl (take_ofW HT_.out HW_.out (by kernel_rfl)) (fun _ _ _ h => h) (Or.inl ⟨by rfl, ?_⟩) hHeld ?_ ?_
                rotate_left
                ·rintro w' ⟨s0, s1, s2⟩
                 go_simp
                 with_reducible rfl
                rotate_left
                ·simp only [Act.put, List.setIfInBounds_toArray, List.set_cons_zero, List.set_cons_succ, i64_w, i32_w]
                 rfl
                refine take_ (i := 3) (N := some 260) (v := ?_) (a' := ?_) #[true, true, true, true, false, false, false, false, false, false] rfl rfl (take_ofW HT_.out HW_.out (by kernel_rfl)) (fun _ _ _ h => h) (Or.inl ⟨by rfl, ?_⟩) hHeld ?_ ?_
                rotate_left
                ·rintro w' ⟨s0, s1, s2⟩
                 go_simp
                 with_reducible rfl
                rotate_left
                ·simp only [Act.put, List.setIfInBounds_toArray, List.set_cons_zero, List.set_cons_succ, i64_w, i32_w]
                 rfl
                refine one_ (i := 4) (N := some 261) #[true, true, true, true, true, false, false, false, false, false] rfl rfl (one_of HT_.out (by kernel_rfl)) (by decide) (fun K hK => ?_)
                refine goes_ Try.func16 (by kernel_rfl) rfl #[.agg #[.slice Ao14 t420.length co14, .slice Ao16 t423.length co16], .int .i64 (rd (rd_L2 t427 x210_5) 0)] (by rfl) rfl rfl (by (try simp only [List.map_toArray, List.map_cons, List.map_nil]); first | done | rfl) ?_
                with_reducible refine (impl_WayFrom.calls k6 _ _ t420 _ _ t423 (rd (rd_L2 t427 x210_5) 0) t493 true _ ?side1 ?side2 ?side3 ?side4 A143.out).mono ?_
                (case side1 => exact (Kd.R_reads' HO_427000.out).2.2)
                (case side2 => exact (Kd.R_reads' HO_427000.out).2.1)
                (case side3 => exact (Kd.R_reads' HO_427001.out).2.2)
                (case side4 => exact (Kd.R_reads' HO_427001.out).2.1)
                rintro e w161 ⟨v494, rfl, ho0, hb⟩
                refine ⟨_, rfl, ?_⟩
                have n0_ := Aside0.mk (Kd.S_elder' HO_6.out (Kd.R_base ho0) hb)
                have n1_ := Aside0.mk (Kd.R_elder' (by (with_reducible repeat (first | apply rA | apply rN | apply rD)); exact HO_12.out) (Kd.R_base ho0) hb)
                have n2_ := Aside0.mk (Kd.S_elder' HO_208.out (Kd.R_base ho0) hb)
                have n3_ := Aside0.mk (Kd.R_elder' (by (with_reducible repeat (first | apply rA | apply rN | apply rD)); exact HO_427000.out) (Kd.R_base ho0) hb)
                have n4_ := Aside0.mk (Kd.R_elder' (by (with_reducible repeat (first | apply rA | apply rN | apply rD)); exact HO_427001.out) (Kd.R_base ho0) hb)
                have n5_ := Aside0.mk (Kd.R_elder' (by (with_reducible repeat (first | apply rA | apply rN | apply rD)); exact HO_456000.out) (Kd.R_base ho0) hb)
                have n6_ := Aside0.mk (Kd.R_elder' (by (with_reducible repeat (first | apply rA | apply rN | apply rD)); exact HO_456001.out) (Kd.R_base ho0) hb)
                have n7_ := Aside0.mk (Kd.R_lower (Kd.R_new' (Kd.R_new' (Kd.R_new' (Kd.R_new' (Kd.R_new' ho0 (Kd.R_lt (by (with_reducible repeat (first | apply rA | apply rN | apply rD)); exact HO_12.out))) (Kd.R_lt (by (with_reducible repeat (first | apply rA | apply rN | apply rD)); exact HO_427000.out))) (Kd.R_lt (by (with_reducible repeat (first | apply rA | apply rN | apply rD)); exact HO_427001.out))) (Kd.R_lt (by (with_reducible repeat (first | apply rA | apply rN | apply rD)); exact HO_456000.out))) (Kd.R_lt (by (with_reducible repeat (first | apply rA | apply rN | apply rD)); exact HO_456001.out))) (below_size (by repeat (first | exact HB.out | apply bA | apply bN | apply bD | refine below_set ?_ GE426.out | refine below_set ?_ GE455.out))))
                have n8_ := Aside0.mk (blk_below BK426.out hb)
                have n9_ := Aside0.mk (blk_below BK455.out hb)
                have n10_ := Aside0.mk (Kd.C_below (by repeat (first | (with_reducible exact HR485_0.out) | (with_reducible refine Kd.C_alloc ?_ _) | (with_reducible refine Kd.C_drewN ?_ _) | (with_reducible refine Kd.C_drew ?_) | exact HR485_0.out)) hb)
                (try (replace hx492_0 := (hb.cell (p := ad492) (World.block_lt_of_cell? _ _ (by first | exact hx492_0 | simpa using hx492_0))).trans (by first | exact hx492_0 | simpa using hx492_0)))
                (try (replace hx499_0 := (hb.cell (p := ad499) (World.block_lt_of_cell? _ _ (by first | exact hx499_0 | simpa using hx499_0))).trans (by first | exact hx499_0 | simpa using hx499_0)))
                have n11_ := Aside0.mk (below_step (by repeat (first | exact HB.out | apply bA | apply bN | apply bD | refine below_set ?_ GE426.out | refine below_set ?_ GE455.out)) hb)
                clear HO_6 HO_12 HO_208 HO_427000 HO_427001 HO_456000 HO_456001 BK426 BK455 HR485_0 HB
                have HO_6 := n0_
                have HO_12 := n1_
                have HO_208 := n2_
                have HO_427000 := n3_
                have HO_427001 := n4_
                have HO_456000 := n5_
                have HO_456001 := n6_
                have HO495 := n7_
                have BK426 := n8_
                have BK455 := n9_
                have HR485_0 := n10_
                have HB := n11_
                clear n0_ n1_ n2_ n3_ n4_ n5_ n6_ n7_ n8_ n9_ n10_ n11_
                (try clear hb)
                (try clear hb2)
                (try clear hk)
                (try clear hi)
                (try clear ho0)
                refine hK.out _ _ ⟨(blk_cell BK426.out 0).trans rfl, (blk_cell BK426.out 1).trans rfl, (by first | exact hx492_0 | exact (HB.out.cell (World.block_lt_of_cell? w _ hw492_0)).trans hw492_0 | exact hw492_0 | simpa using hx492_0 | simpa using hw492_0)⟩ (fun hHeld => ?_)
                clear hK K
                refine norm_ (a' := ?_) ?_ ?_
                rotate_left
                ·show Act.put _ (some 261) _ = _
                 simp only [Act.put, List.setIfInBounds_toArray, List.set_cons_zero, List.set_cons_succ, i64_w, i32_w]
                 rfl
                refine pure_ (i := 5) (N := some 256) (v := ?_) (a' := ?_) #[true, true, true, true, true, true, false, false, false, false] rfl rfl (any_of HT_.out (by kernel_rfl)) (fun _ _ _ h => h) (Or.inl ⟨by rfl, ?_⟩) ?_ ?_
                rotate_left
                ·intro w'
                 go_simp
                 with_reducible rfl
                rotate_left
                ·simp only [Act.put, List.setIfInBounds_toArray, List.set_cons_zero, List.set_cons_succ, i64_w, i32_w]
                 rfl
                refine pure_ (i := 6) (N := some 262) (v := ?_) (a' := ?_) #[true, true, true, true, true, true, true, false, false, false] rfl rfl (any_of HT_.out (by kernel_rfl)) (fun _ _ _ h => h) (Or.inl ⟨by rfl, ?_⟩) ?_ ?_
                rotate_left
                ·intro w'
                 go_simp
                 with_reducible rfl
                rotate_left
                ·simp only [Act.put, List.setIfInBounds_toArray, List.set_cons_zero, List.set_cons_succ, i64_w, i32_w]
                 rfl
                refine pure_ (i := 7) (N := some 263) (v := ?_) (a' := ?_) #[true, true, true, true, true, true, true, true, false, false] rfl rfl (any_of HT_.out (by kernel_rfl)) (fun _ _ _ h => h) (Or.inl ⟨by rfl, ?_⟩) ?_ ?_
                rotate_left
                ·intro w'
                 go_simp
                 with_reducible rfl
                rotate_left
                ·simp only [Act.put, List.setIfInBounds_toArray, List.set_cons_zero, List.set_cons_succ, i64_w, i32_w]
                 rfl
                refine pure_ (i := 8) (N := some 33) (v := ?_) (a' := ?_) #[true, true, true, true, true, true, true, true, true, false] rfl rfl (any_of HT_.out (by kernel_rfl)) (fun _ _ _ h => h) (Or.inl ⟨by rfl, ?_⟩) ?_ ?_
                rotate_left
                ·intro w'
                 go_simp
                 with_reducible rfl
                rotate_left
                ·simp only [Act.put, List.setIfInBounds_toArray, List.set_cons_zero, List.set_cons_succ, i64_w, i32_w]
                 rfl
                refine pure_ (i := 9) (N := some 34) (v := ?_) (a' := ?_) #[true, true, true, true, true, true, true, true, true, true] rfl rfl (any_of HT_.out (by kernel_rfl)) (fun _ _ _ h => h) (Or.inl ⟨by rfl, ?_⟩) ?_ ?_
                rotate_left
                ·intro w'
                 go_simp
                 with_reducible rfl
                rotate_left
                ·simp only [Act.put, List.setIfInBounds_toArray, List.set_cons_zero, List.set_cons_succ, i64_w, i32_w]
                 rfl
                refine done_ (done_of HT_.out (by kernel_rfl)) ?_
                try go_wp2
                replace HO_6 := Aside0.mk (Kd.S_drew HO_6.out)
                replace HO_12 := Aside0.mk (Kd.R_drew HO_12.out)
                replace HO_208 := Aside0.mk (Kd.S_drew HO_208.out)
                replace HO_427000 := Aside0.mk (Kd.R_drew HO_427000.out)
                replace HO_427001 := Aside0.mk (Kd.R_drew HO_427001.out)
                replace HO_456000 := Aside0.mk (Kd.R_drew HO_456000.out)
                replace HO_456001 := Aside0.mk (Kd.R_drew HO_456001.out)
                replace HO495 := Aside0.mk (Kd.R_drew HO495.out)
                replace BK426 := Aside0.mk (blk_drew BK426.out)
                replace BK455 := Aside0.mk (blk_drew BK455.out)
                replace HR485_0 := Aside0.mk (Kd.C_drew HR485_0.out)
                replace HB := Aside0.mk (below_drew1 HB.out)
                obtain ⟨Ao163, co163, eo163⟩ := Kd.R_slice HO495.out
                (first | subst eo163 | (injection eo163 with f1_ f2_ f3_; have f4_ := f1_.symm; have f5_ := f3_.symm; clear f1_ f2_ f3_; subst f4_; subst f5_))
                refine start_ (n := 26) (S := fun w' => True) (ds := []) #[false, false, false, false, false, false, false, false, false, false, false, false, false, false, false, false, false, false, false, false, false, false, false, false, false, false] (by kernel_rfl) rfl rfl trivial (fun hHeld => ?_); refine with_tabW laws_FnComponentsWalked.tab43 laws_FnComponentsWalked.bits43 (fun HT_ HW_ => ?_)
                generalize w161.drew = w162 at HO_6 HO_12 HO_208 HO_427000 HO_427001 HO_456000 HO_456001 HO495 BK426 BK455 HR485_0 HB hHeld ⊢
                refine pure_ (i := 0) (N := some 264) (v := ?_) (a' := ?_) #[true, false, false, false, false, false, false, false, false, false, false, false, false, false, false, false, false, false, false, false, false, false, false, false, false, false] rfl rfl (any_of HT_.out (by kernel_rfl)) (fun _ _ _ h => h) (Or.inl ⟨by rfl, ?_⟩) ?_ ?_
                rotate_left
                ·intro w'
                 go_simp
                 with_reducible rfl
                rotate_left
                ·simp only [Act.put, List.setIfInBounds_toArray, List.set_cons_zero, List.set_cons_succ, i64_w, i32_w]
                 rfl
                refine pure_ (i := 1) (N := some 265) (v := ?_) (a' := ?_) #[true, true, false, false, false, false, false, false, false, false, false, false, false, false, false, false, false, false, false, false, false, false, false, false, false, false] rfl rfl (any_of HT_.out (by kernel_rfl)) (fun _ _ _ h => h) (Or.inl ⟨by rfl, ?_⟩) ?_ ?_
                rotate_left
                ·intro w'
                 go_simp
                 with_reducible rfl
                rotate_left
                ·simp only [Act.put, List.setIfInBounds_toArray, List.set_cons_zero, List.set_cons_succ, i64_w, i32_w]
                 rfl
                refine pure_ (i := 2) (N := some 266) (v := ?_) (a' := ?_) #[true, true, true, false, false, false, false, false, false, false, false, false, false, false, false, false, false, false, false, false, false, false, false, false, false, false] rfl rfl (any_of HT_.out (by kernel_rfl)) (fun _ _ _ h => h) (Or.inl ⟨by rfl, ?_⟩) ?_ ?_
                rotate_left
                ·intro w'
                 go_simp
                 with_reducible rfl
                rotate_left
                ·simp only [Act.put, List.setIfInBounds_toArray, List.set_cons_zero, List.set_cons_succ, i64_w, i32_w]
                 rfl
                refine pure_ (i := 3) (N := some 267) (v := ?_) (a' := ?_) #[true, true, true, true, false, false, false, false, false, false, false, false, false, false, false, false, false, false, false, false, false, false, false, false, false, false] rfl rfl (any_of HT_.out (by kernel_rfl)) (fun _ _ _ h => h) (Or.inl ⟨by rfl, ?_⟩) ?_ ?_
                rotate_left
                ·intro w'
                 go_simp
                 with_reducible rfl
                rotate_left
                ·simp only [Act.put, List.setIfInBounds_toArray, List.set_cons_zero, List.set_cons_succ, i64_w, i32_w]
                 rfl
                refine pure_ (i := 4) (N := some 268) (v := ?_) (a' := ?_) #[true, true, true, true, true, false, false, false, false, false, false, false, false, false, false, false, false, false, false, false, false, false, false, false, false, false] rfl rfl (any_of HT_.out (by kernel_rfl)) (fun _ _ _ h => h) (Or.inl ⟨by rfl, ?_⟩) ?_ ?_
                rotate_left
                ·intro w'
                 go_simp
                 with_reducible rfl
                rotate_left
                ·simp only [Act.put, List.setIfInBounds_toArray, List.set_cons_zero, List.set_cons_succ, i64_w, i32_w]
                 rfl
                refine pure_ (i := 5) (N := some 269) (v := ?_) (a' := ?_) #[true, true, true, true, true, true, false, false, false, false, false, false, false, false, false, false, false, false, false, false, false, false, false, false, false, false] rfl rfl (any_of HT_.out (by kernel_rfl)) (fun _ _ _ h => h) (Or.inl ⟨by rfl, ?_⟩) ?_ ?_
                rotate_left
                ·intro w'
                 go_simp
                 with_reducible rfl
                rotate_left
                ·simp only [Act.put, List.setIfInBounds_toArray, List.set_cons_zero, List.set_cons_succ, i64_w, i32_w]
                 rfl
                refine pure_ (i := 6) (N := some 270) (v := ?_) (a' := ?_) #[true, true, true, true, true, true, true, false, false, false, false, false, false, false, false, false, false, false, false, false, false, false, false, false, false, false] rfl rfl (any_of HT_.out (by kernel_rfl)) (fun _ _ _ h => h) (Or.inl ⟨by rfl, ?_⟩) ?_ ?_
                rotate_left
                ·intro w'
                 go_simp
                 with_reducible rfl
                rotate_left
                ·simp only [Act.put, List.setIfInBounds_toArray, List.set_cons_zero, List.set_cons_succ, i64_w, i32_w]
                 rfl
                refine pure_ (i := 7) (N := some 271) (v := ?_) (a' := ?_) #[true, true, true, true, true, true, true, true, false, false, false, false, false, false, false, false, false, false, false, false, false, false, false, false, false, false] rfl rfl (any_of HT_.out (by kernel_rfl)) (fun _ _ _ h => h) (Or.inl ⟨by rfl, ?_⟩) ?_ ?_
                rotate_left
                ·intro w'
                 go_simp
                 with_reducible rfl
                rotate_left
                ·simp only [Act.put, List.setIfInBounds_toArray, List.set_cons_zero, List.set_cons_succ, i64_w, i32_w]
                 rfl
                refine pure_ (i := 8) (N := some 272) (v := ?_) (a' := ?_) #[true, true, true, true, true, true, true, true, true, false, false, false, false, false, false, false, false, false, false, false, false, false, false, false, false, false] rfl rfl (any_of HT_.out (by kernel_rfl)) (fun _ _ _ h => h) (Or.inl ⟨by rfl, ?_⟩) ?_ ?_
                rotate_left
                ·intro w'
                 go_simp
                 with_reducible rfl
                rotate_left
                ·simp only [Act.put, List.setIfInBounds_toArray, List.set_cons_zero, List.set_cons_succ, i64_w, i32_w]
                 rfl
                refine pure_ (i := 9) (N := some 273) (v := ?_) (a' := ?_) #[true, true, true, true, true, true, true, true, true, true, false, false, false, false, false, false, false, false, false, false, false, false, false, false, false, false] rfl rfl (any_of HT_.out (by kernel_rfl)) (fun _ _ _ h => h) (Or.inl ⟨by rfl, ?_⟩) ?_ ?_
                rotate_left
                ·intro w'
                 go_simp
                 with_reducible rfl
                rotate_left
                ·simp only [Act.put, List.setIfInBounds_toArray, List.set_cons_zero, List.set_cons_succ, i64_w, i32_w]
                 rfl
                refine pure_ (i := 10) (N := some 274) (v := ?_) (a' := ?_) #[true, true, true, true, true, true, true, true, true, true, true, false, false, false, false, false, false, false, false, false, false, false, false, false, false, false] rfl rfl (any_of HT_.out (by kernel_rfl)) (fun _ _ _ h => h) (Or.inl ⟨by rfl, ?_⟩) ?_ ?_
                rotate_left
                ·intro w'
                 go_simp
                 with_reducible rfl
                rotate_left
                ·simp only [Act.put, List.setIfInBounds_toArray, List.set_cons_zero, List.set_cons_succ, i64_w, i32_w]
                 rfl
                refine pure_ (i := 11) (N := some 275) (v := ?_) (a' := ?_) #[true, true, true, true, true, true, true, true, true, true, true, true, false, false, false, false, false, false, false, false, false, false, false, false, false, false] rfl rfl (any_of HT_.out (by kernel_rfl)) (fun _ _ _ h => h) (Or.inl ⟨by rfl, ?_⟩) ?_ ?_
                rotate_left
                ·intro w'
                 go_simp
                 with_reducible rfl
                rotate_left
                ·simp only [Act.put, List.setIfInBounds_toArray, List.set_cons_zero, List.set_cons_succ, i64_w, i32_w]
                 rfl
                refine pure_ (i := 12) (N := some 276) (v := ?_) (a' := ?_) #[true, true, true, true, true, true, true, true, true, true, true, true, true, false, false, false, false, false, false, false, false, false, false, false, false, false] rfl rfl (any_of HT_.out (by kernel_rfl)) (fun _ _ _ h => h) (Or.inl ⟨by rfl, ?_⟩) ?_ ?_
                rotate_left
                ·intro w'
                 go_simp
                 with_reducible rfl
                rotate_left
                ·simp only [Act.put, List.setIfInBounds_toArray, List.set_cons_zero, List.set_cons_succ, i64_w, i32_w]
                 rfl
                refine pure_ (i := 13) (N := some 277) (v := undef) (a' := ?_) #[true, true, true, true, true, true, true, true, true, true, true, true, true, true, false, false, false, false, false, false, false, false, false, false, false, false] rfl rfl (any_of HT_.out (by kernel_rfl)) (fun _ _ _ h => h) (Or.inr ⟨by rfl, rfl⟩) ?_ ?_
                rotate_left
                ·simp only [Act.put, List.setIfInBounds_toArray, List.set_cons_zero, List.set_cons_succ, i64_w, i32_w]
                 rfl
                refine pure_ (i := 14) (N := some 278) (v := undef) (a' := ?_) #[true, true, true, true, true, true, true, true, true, true, true, true, true, true, true, false, false, false, false, false, false, false, false, false, false, false] rfl rfl (any_of HT_.out (by kernel_rfl)) (fun _ _ _ h => h) (Or.inr ⟨by rfl, rfl⟩) ?_ ?_
                rotate_left
                ·simp only [Act.put, List.setIfInBounds_toArray, List.set_cons_zero, List.set_cons_succ, i64_w, i32_w]
                 rfl
                refine pure_ (i := 15) (N := some 279) (v := undef) (a' := ?_) #[true, true, true, true, true, true, true, true, true, true, true, true, true, true, true, true, false, false, false, false, false, false, false, false, false, false] rfl rfl (any_of HT_.out (by kernel_rfl)) (fun _ _ _ h => h) (Or.inr ⟨by rfl, rfl⟩) ?_ ?_
                rotate_left
                ·simp only [Act.put, List.setIfInBounds_toArray, List.set_cons_zero, List.set_cons_succ, i64_w, i32_w]
                 rfl
                refine pure_ (i := 16) (N := some 280) (v := undef) (a' := ?_) #[true, true, true, true, true, true, true, true, true, true, true, true, true, true, true, true, true, false, false, false, false, false, false, false, false, false] rfl rfl (any_of HT_.out (by kernel_rfl)) (fun _ _ _ h => h) (Or.inr ⟨by rfl, rfl⟩) ?_ ?_
                rotate_left
                ·simp only [Act.put, List.setIfInBounds_toArray, List.set_cons_zero, List.set_cons_succ, i64_w, i32_w]
                 rfl
                refine pure_ (i := 17) (N := some 281) (v := undef) (a' := ?_) #[true, true, true, true, true, true, true, true, true, true, true, true, true, true, true, true, true, true, false, false, false, false, false, false, false, false] rfl rfl (any_of HT_.out (by kernel_rfl)) (fun _ _ _ h => h) (Or.inr ⟨by rfl, rfl⟩) ?_ ?_
                rotate_left
                ·simp only [Act.put, List.setIfInBounds_toArray, List.set_cons_zero, List.set_cons_succ, i64_w, i32_w]
                 rfl
                refine pure_ (i := 18) (N := some 282) (v := undef) (a' := ?_) #[true, true, true, true, true, true, true, true, true, true, true, true, true, true, true, true, true, true, true, false, false, false, false, false, false, false] rfl rfl (any_of HT_.out (by kernel_rfl)) (fun _ _ _ h => h) (Or.inr ⟨by rfl, rfl⟩) ?_ ?_
                rotate_left
                ·simp only [Act.put, List.setIfInBounds_toArray, List.set_cons_zero, List.set_cons_succ, i64_w, i32_w]
                 rfl
                refine pure_ (i := 19) (N := some 283) (v := undef) (a' := ?_) #[true, true, true, true, true, true, true, true, true, true, true, true, true, true, true, true, true, true, true, true, false, false, false, false, false, false] rfl rfl (any_of HT_.out (by kernel_rfl)) (fun _ _ _ h => h) (Or.inr ⟨by rfl, rfl⟩) ?_ ?_
                rotate_left
                ·simp only [Act.put, List.setIfInBounds_toArray, List.set_cons_zero, List.set_cons_succ, i64_w, i32_w]
                 rfl
                refine pure_ (i := 20) (N := some 284) (v := undef) (a' := ?_) #[true, true, true, true, true, true, true, true, true, true, true, true, true, true, true, true, true, true, true, true, true, false, false, false, false, false] rfl rfl (any_of HT_.out (by kernel_rfl)) (fun _ _ _ h => h) (Or.inr ⟨by rfl, rfl⟩) ?_ ?_
                rotate_left
                ·simp only [Act.put, List.setIfInBounds_toArray, List.set_cons_zero, List.set_cons_succ, i64_w, i32_w]
                 rfl
                refine pure_ (i := 21) (N := some 285) (v := undef) (a' := ?_) #[true, true, true, true, true, true, true, true, true, true, true, true, true, true, true, true, true, true, true, true, true, true, false, false, false, false] rfl rfl (any_of HT_.out (by kernel_rfl)) (fun _ _ _ h => h) (Or.inr ⟨by rfl, rfl⟩) ?_ ?_
                rotate_left
                ·simp only [Act.put, List.setIfInBounds_toArray, List.set_cons_zero, List.set_cons_succ, i64_w, i32_w]
                 rfl
                refine pure_ (i := 22) (N := some 286) (v := undef) (a' := ?_) #[true, true, true, true, true, true, true, true, true, true, true, true, true, true, true, true, true, true, true, true, true, true, true, false, false, false] rfl rfl (any_of HT_.out (by kernel_rfl)) (fun _ _ _ h => h) (Or.inr ⟨by rfl, rfl⟩) ?_ ?_
                rotate_left
                ·simp only [Act.put, List.setIfInBounds_toArray, List.set_cons_zero, List.set_cons_succ, i64_w, i32_w]
                 rfl
                refine pure_ (i := 23) (N := some 287) (v := undef) (a' := ?_) #[true, true, true, true, true, true, true, true, true, true, true, true, true, true, true, true, true, true, true, true, true, true, true, true, false, false] rfl rfl (any_of HT_.out (by kernel_rfl)) (fun _ _ _ h => h) (Or.inr ⟨by rfl, rfl⟩) ?_ ?_
                rotate_left
                ·simp only [Act.put, List.setIfInBounds_toArray, List.set_cons_zero, List.set_cons_succ, i64_w, i32_w]
                 rfl
                refine pure_ (i := 24) (N := some 288) (v := ?_) (a' := ?_) #[true, true, true, true, true, true, true, true, true, true, true, true, true, true, true, true, true, true, true, true, true, true, true, true, true, false] rfl rfl (any_of HT_.out (by kernel_rfl)) (fun _ _ _ h => h) (Or.inl ⟨by rfl, ?_⟩) ?_ ?_
                rotate_left
                ·intro w'
                 go_simp
                 with_reducible rfl
                rotate_left
                ·simp only [Act.put, List.setIfInBounds_toArray, List.set_cons_zero, List.set_cons_succ, i64_w, i32_w]
                 rfl
                refine pure_ (i := 25) (N := some 289) (v := ?_) (a' := ?_) #[true, true, true, true, true, true, true, true, true, true, true, true, true, true, true, true, true, true, true, true, true, true, true, true, true, true] rfl rfl (any_of HT_.out (by kernel_rfl)) (fun _ _ _ h => h) (Or.inl ⟨by rfl, ?_⟩) ?_ ?_
                rotate_left
                ·intro w'
                 go_simp
                 with_reducible rfl
                rotate_left
                ·simp only [Act.put, List.setIfInBounds_toArray, List.set_cons_zero, List.set_cons_succ, i64_w, i32_w]
                 rfl
                refine done_ (done_of HT_.out (by kernel_rfl)) ?_
                try go_wp2
                go_roundg k6
                case measure => have := HJ10.out; have := HJ58.out; have := HJ73.out; have := HJ106.out; have := HK5.out; have := HK6.out; omega
                case rel => exact ⟨((wrap64 (x28_5 + ((rd_L2 t427 x210_5).length : Int)))), (wrap64 (x210_5 + 1)), (by first | rfl | (simp; done) | (simp [*]; done)), (by first | rfl | (simp; done) | (simp [*]; done)), H', ⟨by have := HJ10.out; have := HJ58.out; have := HJ73.out; have := HJ106.out; have := HK5.out; have := HK6.out; omega⟩, ⟨by (with_reducible repeat (first | apply Kd.S_alloc | apply Kd.S_drewN | apply Kd.S_drew)); exact Kd.S_mono HO_6.out (fun _ hk => ⟨hk.1.1, ⟨hk.1.2.1, ⟨hk.1.2.2.1, ⟨hk.1.2.2.2.1, hk.1.2.2.2.2⟩⟩⟩⟩)⟩, ⟨by (with_reducible repeat (first | apply rA | apply rN | apply rD)); exact Kd.R_mono HO_12.out (fun _ hk => ⟨hk.1.1, ⟨hk.1.2.1, ⟨hk.1.2.2.1, hk.1.2.2.2⟩⟩⟩)⟩, ⟨by (with_reducible repeat (first | apply Kd.S_alloc | apply Kd.S_drewN | apply Kd.S_drew)); exact Kd.S_mono HO_208.out (fun _ hk => ⟨hk.1.1, ⟨hk.1.2.1, ⟨hk.1.2.2.1, ⟨hk.1.2.2.2.1, hk.1.2.2.2.2⟩⟩⟩⟩)⟩, ⟨by (with_reducible repeat (first | apply rA | apply rN | apply rD)); exact Kd.R_mono HO_427000.out (fun _ hk => ⟨hk.1.1, ⟨hk.1.2.1, ⟨hk.1.2.2.1, hk.1.2.2.2⟩⟩⟩)⟩, ⟨by (with_reducible repeat (first | apply rA | apply rN | apply rD)); exact Kd.R_mono HO_427001.out (fun _ hk => ⟨hk.1.1, ⟨hk.1.2.1, ⟨hk.1.2.2.1, hk.1.2.2.2⟩⟩⟩)⟩, ⟨by (with_reducible repeat (first | apply rA | apply rN | apply rD)); exact Kd.R_mono HO_456000.out (fun _ hk => ⟨hk.1.1, ⟨hk.1.2.1, ⟨hk.1.2.2.1, hk.1.2.2.2⟩⟩⟩)⟩, ⟨by (with_reducible repeat (first | apply rA | apply rN | apply rD)); exact Kd.R_mono HO_456001.out (fun _ hk => ⟨hk.1.1, ⟨hk.1.2.1, ⟨hk.1.2.2.1, hk.1.2.2.2⟩⟩⟩)⟩, ⟨by (with_reducible repeat (first | refine blk_drewN ?_ _ | refine blk_drew ?_ | refine blk_alloc ?_ _)); exact BK426.out⟩, ⟨by (with_reducible repeat (first | refine blk_drewN ?_ _ | refine blk_drew ?_ | refine blk_alloc ?_ _)); exact BK455.out⟩, ⟨by repeat (first | exact HB.out | apply bA | apply bN | apply bD | refine below_set ?_ GE426.out | refine below_set ?_ GE455.out)⟩⟩
              ·rw [if_neg c145] at H
               have c145b0 : ((t493.length : Int) == ((rd_L2 t427 x210_5).length : Int)) = false := beq_eq_false_iff_ne.mpr c145
               have c145b1 : ((t493.length : Int) != ((rd_L2 t427 x210_5).length : Int)) = true := bne_iff_ne.mpr c145
               have c145b2 : (t493.length == (rd_L2 t427 x210_5).length) = false := by first | simpa using c145 | (simp at c145 ⊢; omega)
               have hrr_ := Option.some.inj H
               rw [hr_] at hrr_
               exact absurd hrr_ (by decide)
             ·replace c144 := Bool.eq_false_iff.mpr c144
              subst c144
              have H1 : (some false) = some r := by rw [if_neg (show ¬ (false = true) by decide)] at H; exact H
              rw [hr_] at H1; exact absurd H1 (by decide)
            ·rw [if_neg c142] at H
             exact absurd H (by simp)
        ·rw [if_neg c117] at H
         exact absurd H (by simp)
       ·rw [if_neg c116] at H
        exact absurd H (by simp)
      ·rw [if_neg c115] at H
       have c115b0 : decide (x210_5 < (t427.length : Int)) = false := decide_eq_false c115
       clear c115
       replace H := Option.bind_eq_some_iff.mp H
       obtain ⟨⟨t479, t480⟩, A1710, H⟩ := H
       replace H : ((impl_SignOf.f k5 t423).bind fun bt481 => ((impl_IsMeander.f k5 t420 t423).bind fun bt483 => (if t480 = true then (if bt481.2 = true then (if bt483.2 = true then (if x28_5 = (t420.length : Int) then (if (t427.length : Int) = t435 then (if (((Int.tmod (wrap64 ((wrap64 ((t420.length : Int) / 2)) - t435)) 2) == 0) == (t479 == bt481.1)) = true then (some (bt483.1 == (t435 == 1))) else (some false)) else (some false)) else (some false)) else (some false)) else (some false)) else (some false)))) = some r := H
       have A171 := Aside0.mk A1710
       clear A1710
       replace H := Option.bind_eq_some_iff.mp H
       obtain ⟨⟨t481, t482⟩, A1720, H⟩ := H
       replace H : ((impl_IsMeander.f k5 t420 t423).bind fun bt483 => (if t480 = true then (if t482 = true then (if bt483.2 = true then (if x28_5 = (t420.length : Int) then (if (t427.length : Int) = t435 then (if (((Int.tmod (wrap64 ((wrap64 ((t420.length : Int) / 2)) - t435)) 2) == 0) == (t479 == t481)) = true then (some (bt483.1 == (t435 == 1))) else (some false)) else (some false)) else (some false)) else (some false)) else (some false)) else (some false))) = some r := H
       have A172 := Aside0.mk A1720
       clear A1720
       replace H := Option.bind_eq_some_iff.mp H
       obtain ⟨⟨t483, t484⟩, A1730, H⟩ := H
       replace H : (if t480 = true then (if t482 = true then (if t484 = true then (if x28_5 = (t420.length : Int) then (if (t427.length : Int) = t435 then (if (((Int.tmod (wrap64 ((wrap64 ((t420.length : Int) / 2)) - t435)) 2) == 0) == (t479 == t481)) = true then (some (t483 == (t435 == 1))) else (some false)) else (some false)) else (some false)) else (some false)) else (some false)) else (some false)) = some r := H
       have A173 := Aside0.mk A1730
       clear A1730
       by_cases c174 : t480 = true
       ·subst c174
        have H1 : (if t482 = true then (if t484 = true then (if x28_5 = (t420.length : Int) then (if (t427.length : Int) = t435 then (if (((Int.tmod (wrap64 ((wrap64 ((t420.length : Int) / 2)) - t435)) 2) == 0) == (t479 == t481)) = true then (some (t483 == (t435 == 1))) else (some false)) else (some false)) else (some false)) else (some false)) else (some false)) = some r := by rw [if_pos rfl] at H; exact H
        clear H
        have H := H1
        clear H1
        by_cases c175 : t482 = true
        ·subst c175
         have H1 : (if t484 = true then (if x28_5 = (t420.length : Int) then (if (t427.length : Int) = t435 then (if (((Int.tmod (wrap64 ((wrap64 ((t420.length : Int) / 2)) - t435)) 2) == 0) == (t479 == t481)) = true then (some (t483 == (t435 == 1))) else (some false)) else (some false)) else (some false)) else (some false)) = some r := by rw [if_pos rfl] at H; exact H
         clear H
         have H := H1
         clear H1
         by_cases c176 : t484 = true
         ·subst c176
          have H1 : (if x28_5 = (t420.length : Int) then (if (t427.length : Int) = t435 then (if (((Int.tmod (wrap64 ((wrap64 ((t420.length : Int) / 2)) - t435)) 2) == 0) == (t479 == t481)) = true then (some (t483 == (t435 == 1))) else (some false)) else (some false)) else (some false)) = some r := by rw [if_pos rfl] at H; exact H
          clear H
          have H := H1
          clear H1
          by_cases c177 : x28_5 = (t420.length : Int)
          ·rw [if_pos c177] at H
           have c177b0 : (x28_5 == (t420.length : Int)) = true := beq_iff_eq.mpr c177
           have c177b1 : (x28_5 != (t420.length : Int)) = false := bne_eq_false_iff_eq.mpr c177
           clear c177
           by_cases c178 : (t427.length : Int) = t435
           ·rw [if_pos c178] at H
            have c178b0 : ((t427.length : Int) == t435) = true := beq_iff_eq.mpr c178
            have c178b1 : ((t427.length : Int) != t435) = false := bne_eq_false_iff_eq.mpr c178
            clear c178
            by_cases c179 : (((Int.tmod (wrap64 ((wrap64 ((t420.length : Int) / 2)) - t435)) 2) == 0) == (t479 == t481)) = true
            ·rw [if_pos c179] at H
             have c179b0 : (((Int.tmod (wrap64 ((wrap64 ((t420.length : Int) / 2)) - t435)) 2) == 0) == (t479 == t481)) = true := c179
             (try (have c179b1 : decide (((Int.tmod (wrap64 ((wrap64 ((t420.length : Int) / 2)) - t435)) 2) == 0) = (t479 == t481)) = true := by simpa using c179))
             (try (have c179b2 : (((Int.tmod (wrap64 ((wrap64 ((t420.length : Int) / 2)) - t435)) 2) == 0) == (t479 == t481)) = true := by simpa using c179))
             clear c179
             have hrr_ := Option.some.inj H
             rw [hr_] at hrr_
             first
              | exact absurd hrr_ (by decide)
              |(clear hrr_
                obtain rfl := Option.some.inj H
                have hnb180 := NB426_455.out
                have hnc180 := NB455_426.out
                have hcz181_0 : wr.cell? ⟨gb426, 0, none⟩ = some (.slice Ao14 t420.length co14) := (blk_cell BK426.out 0).trans rfl
                have hcz181_1 : wr.cell? ⟨gb426, 1, none⟩ = some (.slice Ao16 t423.length co16) := (blk_cell BK426.out 1).trans rfl
                have hfz181_0 := blk_frozen BK426.out 0
                have hfz181_1 := blk_frozen BK426.out 1
                go_wp2_with (first | ((with_reducible refine gate_callee (f := 19) rfl ?_); refine goesL_ (some 294) rfl rfl Try.func19 (by kernel_rfl) rfl #[.slice Ao14 t420.length co14] rfl (by (try simp only [List.map_toArray, List.map_cons, List.map_nil]); first | done | rfl) ?_; (with_reducible refine (impl_SignOf.calls k5 _ _ t420 t479 true _ ?side1 ?side2 A171.out).mono ?_); (case side1 => repeat (first | exact (Kd.R_reads' HO_427000.out).2.2 | (with_reducible refine Kd.C_alloc ?_ _) | (with_reducible refine Kd.C_drewN ?_ _) | (with_reducible refine Kd.C_drew ?_))); (case side2 => exact (Kd.R_reads' HO_427000.out).2.1); rintro e w' ⟨rfl, ⟨nd, rfl⟩⟩; refine ⟨_, rfl, ?_⟩) | ((with_reducible refine gate_callee (f := 19) rfl ?_); refine goesL_ (some 300) rfl rfl Try.func19 (by kernel_rfl) rfl #[.slice Ao16 t423.length co16] rfl (by (try simp only [List.map_toArray, List.map_cons, List.map_nil]); first | done | rfl) ?_; (with_reducible refine (impl_SignOf.calls k5 _ _ t423 t481 true _ ?side1 ?side2 A172.out).mono ?_); (case side1 => repeat (first | exact (Kd.R_reads' HO_427001.out).2.2 | (with_reducible refine Kd.C_alloc ?_ _) | (with_reducible refine Kd.C_drewN ?_ _) | (with_reducible refine Kd.C_drew ?_))); (case side2 => exact (Kd.R_reads' HO_427001.out).2.1); rintro e w' ⟨rfl, ⟨nd, rfl⟩⟩; refine ⟨_, rfl, ?_⟩) | ((with_reducible refine gate_callee (f := 21) rfl ?_); refine goesL_ (some 305) rfl rfl Try.func21 (by kernel_rfl) rfl #[.agg #[.slice Ao14 t420.length co14, .slice Ao16 t423.length co16]] rfl (by (try simp only [List.map_toArray, List.map_cons, List.map_nil]); first | done | rfl) ?_; (with_reducible refine (impl_IsMeander.calls k5 _ _ t420 _ _ t423 t483 true _ ?side1 ?side2 ?side3 ?side4 A173.out).mono ?_); (case side1 => repeat (first | exact (Kd.R_reads' HO_427000.out).2.2 | (with_reducible refine Kd.C_alloc ?_ _) | (with_reducible refine Kd.C_drewN ?_ _) | (with_reducible refine Kd.C_drew ?_))); (case side2 => exact (Kd.R_reads' HO_427000.out).2.1); (case side3 => repeat (first | exact (Kd.R_reads' HO_427001.out).2.2 | (with_reducible refine Kd.C_alloc ?_ _) | (with_reducible refine Kd.C_drewN ?_ _) | (with_reducible refine Kd.C_drew ?_))); (case side4 => exact (Kd.R_reads' HO_427001.out).2.1); rintro e w182 ⟨rfl, hb⟩; refine ⟨_, rfl, ?_⟩; replace HO_6 := Aside0.mk (Kd.S_below (by (with_reducible repeat (first | apply Kd.S_alloc | apply Kd.S_drewN | apply Kd.S_drew)); exact HO_6.out) hb); replace HO_12 := Aside0.mk (Kd.R_below (by (with_reducible repeat (first | apply rA | apply rN | apply rD)); exact HO_12.out) hb); replace HO_208 := Aside0.mk (Kd.S_below (by (with_reducible repeat (first | apply Kd.S_alloc | apply Kd.S_drewN | apply Kd.S_drew)); exact HO_208.out) hb); replace HO_427000 := Aside0.mk (Kd.R_below (by (with_reducible repeat (first | apply rA | apply rN | apply rD)); exact HO_427000.out) hb); replace HO_427001 := Aside0.mk (Kd.R_below (by (with_reducible repeat (first | apply rA | apply rN | apply rD)); exact HO_427001.out) hb); replace HO_456000 := Aside0.mk (Kd.R_below (by (with_reducible repeat (first | apply rA | apply rN | apply rD)); exact HO_456000.out) hb); replace HO_456001 := Aside0.mk (Kd.R_below (by (with_reducible repeat (first | apply rA | apply rN | apply rD)); exact HO_456001.out) hb); replace BK426 := Aside0.mk (blk_below (g := gb426) (o := .cells #[.slice Ao14 t420.length co14, .slice Ao16 t423.length co16] 26 (0, 0)) (by (with_reducible repeat (first | refine blk_drewN ?_ _ | refine blk_drew ?_ | refine blk_alloc ?_ _)); exact BK426.out) hb); replace BK455 := Aside0.mk (blk_below (g := gb455) (o := .cells #[.slice Ao62 t448.length co62, .slice Ao65 t451.length co65] 26 (0, 0)) (by (with_reducible repeat (first | refine blk_drewN ?_ _ | refine blk_drew ?_ | refine blk_alloc ?_ _)); exact BK455.out) hb); replace HB := Aside0.mk (below_step (by repeat (first | exact HB.out | apply bA | apply bN | apply bD | refine below_set ?_ GE426.out | refine below_set ?_ GE455.out)) hb); (try clear hb2); (try clear hb hk hi); have hcz183_0 : w182.cell? ⟨gb426, 0, none⟩ = some (.slice Ao14 t420.length co14) := (blk_cell BK426.out 0).trans rfl; have hcz183_1 : w182.cell? ⟨gb426, 1, none⟩ = some (.slice Ao16 t423.length co16) := (blk_cell BK426.out 1).trans rfl; have hfz183_0 := blk_frozen BK426.out 0; have hfz183_1 := blk_frozen BK426.out 1))
                go_ret
                exact ⟨by first | rfl | (simp [*, errW_none, errW_some] <;> rfl), by repeat (first | exact HB.out | apply bA | apply bN | apply bD | refine below_set ?_ GE426.out | refine below_set ?_ GE455.out)⟩)
            ·rw [if_neg c179] at H
             have c179b0 : (((Int.tmod (wrap64 ((wrap64 ((t420.length : Int) / 2)) - t435)) 2) == 0) == (t479 == t481)) = false := by simpa using c179
             (try (have c179b1 : decide (((Int.tmod (wrap64 ((wrap64 ((t420.length : Int) / 2)) - t435)) 2) == 0) = (t479 == t481)) = false := by simpa using c179))
             (try (have c179b2 : (((Int.tmod (wrap64 ((wrap64 ((t420.length : Int) / 2)) - t435)) 2) == 0) == (t479 == t481)) = false := by simpa using c179))
             (try (have c179b3 : ¬ (((Int.tmod (wrap64 ((wrap64 ((t420.length : Int) / 2)) - t435)) 2) == 0) = (t479 == t481)) := by simpa using c179))
             clear c179
             have hrr_ := Option.some.inj H
             rw [hr_] at hrr_
             exact absurd hrr_ (by decide)
           ·rw [if_neg c178] at H
            have c178b0 : ((t427.length : Int) == t435) = false := beq_eq_false_iff_ne.mpr c178
            have c178b1 : ((t427.length : Int) != t435) = true := bne_iff_ne.mpr c178
            have hrr_ := Option.some.inj H
            rw [hr_] at hrr_
            exact absurd hrr_ (by decide)
          ·rw [if_neg c177] at H
           have c177b0 : (x28_5 == (t420.length : Int)) = false := beq_eq_false_iff_ne.mpr c177
           have c177b1 : (x28_5 != (t420.length : Int)) = true := bne_iff_ne.mpr c177
           have hrr_ := Option.some.inj H
           rw [hr_] at hrr_
           exact absurd hrr_ (by decide)
         ·replace c176 := Bool.eq_false_iff.mpr c176
          subst c176
          have H1 : (some false) = some r := by rw [if_neg (show ¬ (false = true) by decide)] at H; exact H
          rw [hr_] at H1; exact absurd H1 (by decide)
        ·replace c175 := Bool.eq_false_iff.mpr c175
         subst c175
         have H1 : (some false) = some r := by rw [if_neg (show ¬ (false = true) by decide)] at H; exact H
         rw [hr_] at H1; exact absurd H1 (by decide)
       ·replace c174 := Bool.eq_false_iff.mpr c174
        subst c174
        have H1 : (some false) = some r := by rw [if_neg (show ¬ (false = true) by decide)] at H; exact H
        rw [hr_] at H1; exact absurd H1 (by decide)
   ·replace c113 := Bool.eq_false_iff.mpr c113
    subst c113
    have H1 : (some true) = some r := by rw [if_neg (show ¬ (false = true) by decide)] at H; exact H
    clear H
    have H := H1
    clear H1
    have hrr_ := Option.some.inj H
    rw [hr_] at hrr_
    first
     | exact absurd hrr_ (by decide)
     |(clear hrr_
       obtain rfl := Option.some.inj H
       go_wp2
       go_ret
       exact ⟨by first | rfl | (simp [*, errW_none, errW_some] <;> rfl), by repeat (first | exact HB.out | apply bA | apply bN | apply bD | refine below_set ?_ GE426.out | refine below_set ?_ GE455.out)⟩)

end Go.Proofs.Ytfencncopkeobaa.QFnComponentsWalked
