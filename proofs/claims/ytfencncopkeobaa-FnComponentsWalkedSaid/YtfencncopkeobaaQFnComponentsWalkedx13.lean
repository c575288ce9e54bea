-- Written by wip/myprint.py (a program of mine round the kit's printer). Lean checks it.
import Derived.Test.YtfencncopkeobaaQFnComponentsWalkedx9
import Derived.Test.YtfencncopkeobaaQFnComponentsWalkedx12
namespace Go.Proofs.Ytfencncopkeobaa.QFnComponentsWalked
open Go.RowKit Go.Proofs.YtfencncopkeobaaW.PrintWords Go.Proofs.YtfencncopkeobaaW.PrintLast Go.Proofs.YtfencncopkeobaaW.PrintMore
attribute [local go_sem] max2_int min2_int max_two min_two max_three min_three max_four min_four   -- for this text's walks alone
set_option linter.unusedVariables false
set_option linter.unusedSimpArgs false

noncomputable def laws_FnComponentsWalked.part1.rest : Code := ((Try.f3.body.bind (laws_FnComponentsWalked.findRest 16)).getD .skip)
noncomputable def laws_FnComponentsWalked.part1.joint : Code := ((Try.f3.body.bind (laws_FnComponentsWalked.findCond 133)).getD .skip)
set_option maxHeartbeats 8000000 in
set_option maxRecDepth 1000000 in
theorem laws_FnComponentsWalked.part1 (k : Nat) (A0 : Option Addr) (c0 : Nat) (l0 : List Int) (A1 : Option Addr) (c1 : Nat) (l1 : List Int) (r : Bool) (w : World) (hr_ : r = true) (hu26 : Try.prog.underlying 26 = some (TypeDesc.struct #[{ name := "Top", type := 24, offset := 0, embedded := false, tag := "", pkgPath := "", byteOffset := 0 }, { name := "Bottom", type := 24, offset := 1, embedded := false, tag := "", pkgPath := "", byteOffset := 24 }])) (HR1 : Aside0 ((Kd.int IntKind.u8).C w A1 l1.length l1)) (HC1 : Aside0 (l1.length ≤ c1)) (t420 t423 : List Int) (t427 : List (List Int)) (t430 t434 : Bool) (t435 : Int) (t436 : Bool) (t437 : List Int) (t440 t444 : Bool) (nd gb426 : Nat) (GE426 : Aside0 (w.heap.size ≤ gb426)) (Ao14 : Option Addr) (co14 : Nat) (Ao16 : Option Addr) (co16 : Nat) (v428 v432 : Value) (v438 v442 : Value) (kj10 : Nat) (HJ10 : Aside0 (kj10 + 1 ≤ k)) (t448 t451 : List Int) (t454 : Int) (t456 : List Int) (t459 : Bool) (t460 : List Int) (t463 : Bool) (HC59 : Aside0 ((if (t459 != t463) = true then j1 kj10 l1 t427 t434 t435 t437 t454 t456 t459 true t420 t423 t448 t451 else (laws_sSame.f kj10 t456 t460).bind fun t464 => j1 kj10 l1 t427 t434 t435 t437 t454 t456 t459 (!t464) t420 t423 t448 t451) = some r)) (gb455 : Nat) (GE455 : Aside0 (w.heap.size ≤ gb455)) (NB426_455 : Aside0 (gb426 ≠ gb455)) (NB455_426 : Aside0 (gb455 ≠ gb426)) (Ao62 : Option Addr) (co62 : Nat) (Ao65 : Option Addr) (co65 : Nat) (w66 : World) (v457 : Value) (w68 : World) (v461 : Value) (hb : Below w66.heap.size w66 w68) (HO_6 : Aside0 ((Kd.slice 3 (Kd.int IntKind.i64)).S 24 w68 w.heap.size (fun k => ((((some k ≠ v438.ownBlock ∧ some k ≠ (Value.slice Ao14 t420.length co14).ownBlock ∧ some k ≠ (Value.slice Ao16 t423.length co16).ownBlock) ∧ some k ≠ (Value.slice Ao62 t448.length co62).ownBlock) ∧ some k ≠ (Value.slice Ao65 t451.length co65).ownBlock) ∧ some k ≠ v457.ownBlock) ∧ some k ≠ v461.ownBlock) v428 t427)) (HO_12 : Aside0 ((Kd.int IntKind.i64).R 3 w68 w.heap.size (fun k => ((((some k ≠ (Value.slice Ao14 t420.length co14).ownBlock ∧ some k ≠ (Value.slice Ao16 t423.length co16).ownBlock) ∧ some k ≠ (Value.slice Ao62 t448.length co62).ownBlock) ∧ some k ≠ (Value.slice Ao65 t451.length co65).ownBlock) ∧ some k ≠ v457.ownBlock) ∧ some k ≠ v461.ownBlock) v438 t437)) (HO_427000 : Aside0 ((Kd.int IntKind.i64).R 3 w68 w.heap.size (fun k => ((((some k ≠ v438.ownBlock ∧ some k ≠ (Value.slice Ao16 t423.length co16).ownBlock) ∧ some k ≠ (Value.slice Ao62 t448.length co62).ownBlock) ∧ some k ≠ (Value.slice Ao65 t451.length co65).ownBlock) ∧ some k ≠ v457.ownBlock) ∧ some k ≠ v461.ownBlock) (Value.slice Ao14 t420.length co14) t420)) (HO_427001 : Aside0 ((Kd.int IntKind.i64).R 3 w68 w.heap.size (fun k => ((((some k ≠ v438.ownBlock ∧ some k ≠ (Value.slice Ao14 t420.length co14).ownBlock) ∧ some k ≠ (Value.slice Ao62 t448.length co62).ownBlock) ∧ some k ≠ (Value.slice Ao65 t451.length co65).ownBlock) ∧ some k ≠ v457.ownBlock) ∧ some k ≠ v461.ownBlock) (Value.slice Ao16 t423.length co16) t423)) (BK426 : Aside0 (w68.heap[gb426]? = some (Obj.cells #[Value.slice Ao14 t420.length co14, Value.slice Ao16 t423.length co16] 26))) (BK455 : Aside0 (w68.heap[gb455]? = some (Obj.cells #[Value.slice Ao62 t448.length co62, Value.slice Ao65 t451.length co65] 26))) (HB : Aside0 (Below w.heap.size w w68)) (wc : World) (u42 u43 : Value) (u44 u45 : Value) (u46 u47 : Value) (u48 u49 : Value) (u50 u51 : Value) (u52 u53 : Value) (u54 u55 : Value) (u56 u57 : Value) (u58 u59 : Value) (u60 u61 : Value) (u62 u63 : Value) (u64 u65 : Value) (u66 u67 : Value) (u68 u69 : Value) (u70 u71 : Value) (u72 u73 : Value) (u74 u75 : Value) (u76 u77 : Value) (u78 u79 : Value) (u80 u81 : Value) (u82 u83 : Value) (u84 u85 : Value) (u86 u87 : Value) (u88 u89 : Value) (u90 u91 : Value) (u92 u93 : Value) (u94 u95 : Value) (u96 u97 : Value) (u98 u99 : Value) (u100 u101 : Value) (u102 u103 : Value) (u104 u105 : Value) (u106 u107 : Value) (u108 u109 : Value) (u110 u111 : Value) (u112 u113 : Value) (u114 u115 : Value) (u116 u117 : Value) (u118 u119 : Value) (u120 u121 : Value) (u122 u123 : Value) (u124 u125 : Value) (u126 u127 : Value) (u128 u129 : Value) (u130 u131 : Value) (u132 u133 : Value) (u134 u135 : Value) (u136 u137 : Value) (u138 u139 : Value) (u140 u141 : Value) (u142 u143 : Value) (u144 u145 : Value) (u146 u147 : Value) (u148 u149 : Value) (u150 u151 : Value) (u152 u153 : Value) (u154 u155 : Value) (u156 u157 : Value) (u158 u159 : Value) (u160 u161 : Value) (u162 u163 : Value) (u164 u165 : Value) (u166 u167 : Value) (u168 u169 : Value) (u170 u171 : Value) (u172 u173 : Value) (u174 u175 : Value) (u176 u177 : Value) (u178 u179 : Value) (u180 u181 : Value) (u182 u183 : Value) (u184 u185 : Value) (u186 u187 : Value) (u188 u189 : Value) (u190 u191 : Value) (u192 u193 : Value) (u194 u195 : Value) (u196 u197 : Value) (u198 u199 : Value) (u200 u201 : Value) (u202 u203 : Value) (u204 u205 : Value) (u206 u207 : Value) (u211 u212 : Value) (u213 u214 : Value) (u215 u216 : Value) (u217 u218 : Value) (u222 u223 : Value) (u224 u225 : Value) (u226 u227 : Value) (u228 u229 : Value) (u230 u231 : Value) (u232 u233 : Value) (u234 u235 : Value) (u236 u237 : Value) (u238 u239 : Value) (u240 u241 : Value) (u242 u243 : Value) (u244 u245 : Value) (u246 u247 : Value) (u248 u249 : Value) (u250 u251 : Value) (u252 u253 : Value) (u254 u255 : Value) (u256 u257 : Value) (u258 u259 : Value) (u260 u261 : Value) (u262 u263 : Value) (u264 u265 : Value) (u266 u267 : Value) (u268 u269 : Value) (u270 u271 : Value) (u272 u273 : Value) (u274 u275 : Value) (u276 u277 : Value) (u278 u279 : Value) (u280 u281 : Value) (u282 u283 : Value) (u284 u285 : Value) (u286 u287 : Value) (u288 u289 : Value) (u290 u291 : Value) (u292 u293 : Value) (u294 u295 : Value) (u296 u297 : Value) (u298 u299 : Value) (u300 u301 : Value) (u302 u303 : Value) (u304 u305 : Value) (u306 u307 : Value) (u308 u309 : Value) (u310 u311 : Value) (u312 u313 : Value) (u314 u315 : Value) (u316 u317 : Value) (u318 u319 : Value) (u320 u321 : Value) (u322 u323 : Value) (u324 u325 : Value) (u326 u327 : Value) (u328 u329 : Value) (u330 u331 : Value) (u332 u333 : Value) (u334 u335 : Value) (u336 u337 : Value) (u338 u339 : Value) (u340 u341 : Value) (u342 u343 : Value) (u344 u345 : Value) (u346 u347 u348 : Value) (K1_ : Act → World → Prop) (a1_ : ∀ (a_ : Act) (w_ : World), Code.wp Try.prog laws_FnComponentsWalked.part1.rest (bodyPost Try.prog Try.f3 fun e w' => e = Ending.returned (Value.bool r) ∧ Below w.heap.size w w') a_ w_ → K1_ a_ w_) (K2_ : Act → World → Prop) (a2_ : ∀ (a_ : Act) (w_ : World), Code.wp Try.prog laws_FnComponentsWalked.part1.joint (Exit.then K1_ (bodyPost Try.prog Try.f3 fun e w' => e = Ending.returned (Value.bool r) ∧ Below w.heap.size w w')) a_ w_ → K2_ a_ w_) (hcut : ∃ kq x133_58, u133 = Value.bool x133_58 ∧ Aside0 (j1 kq l1 t427 t434 t435 t437 t454 t456 t459 x133_58 t420 t423 t448 t451 = some r) ∧ Aside0 (kq ≤ kj10) ∧ Aside0 ((Kd.slice 3 (Kd.int IntKind.i64)).S 24 wc w.heap.size (fun k_ => some k_ ≠ v438.ownBlock ∧ some k_ ≠ v457.ownBlock ∧ some k_ ≠ (Value.slice Ao14 t420.length co14).ownBlock ∧ some k_ ≠ (Value.slice Ao16 t423.length co16).ownBlock ∧ some k_ ≠ (Value.slice Ao62 t448.length co62).ownBlock ∧ some k_ ≠ (Value.slice Ao65 t451.length co65).ownBlock) v428 t427) ∧ Aside0 ((Kd.int IntKind.i64).R 3 wc w.heap.size (fun k_ => some k_ ≠ v457.ownBlock ∧ some k_ ≠ (Value.slice Ao14 t420.length co14).ownBlock ∧ some k_ ≠ (Value.slice Ao16 t423.length co16).ownBlock ∧ some k_ ≠ (Value.slice Ao62 t448.length co62).ownBlock ∧ some k_ ≠ (Value.slice Ao65 t451.length co65).ownBlock) v438 t437) ∧ Aside0 ((Kd.int IntKind.i64).R 3 wc w.heap.size (fun k_ => some k_ ≠ v438.ownBlock ∧ some k_ ≠ (Value.slice Ao14 t420.length co14).ownBlock ∧ some k_ ≠ (Value.slice Ao16 t423.length co16).ownBlock ∧ some k_ ≠ (Value.slice Ao62 t448.length co62).ownBlock ∧ some k_ ≠ (Value.slice Ao65 t451.length co65).ownBlock) v457 t456) ∧ Aside0 ((Kd.int IntKind.i64).R 3 wc w.heap.size (fun k_ => some k_ ≠ v438.ownBlock ∧ some k_ ≠ v457.ownBlock ∧ some k_ ≠ (Value.slice Ao16 t423.length co16).ownBlock ∧ some k_ ≠ (Value.slice Ao62 t448.length co62).ownBlock ∧ some k_ ≠ (Value.slice Ao65 t451.length co65).ownBlock) (Value.slice Ao14 t420.length co14) t420) ∧ Aside0 ((Kd.int IntKind.i64).R 3 wc w.heap.size (fun k_ => some k_ ≠ v438.ownBlock ∧ some k_ ≠ v457.ownBlock ∧ some k_ ≠ (Value.slice Ao14 t420.length co14).ownBlock ∧ some k_ ≠ (Value.slice Ao62 t448.length co62).ownBlock ∧ some k_ ≠ (Value.slice Ao65 t451.length co65).ownBlock) (Value.slice Ao16 t423.length co16) t423) ∧ Aside0 ((Kd.int IntKind.i64).R 3 wc w.heap.size (fun k_ => some k_ ≠ v438.ownBlock ∧ some k_ ≠ v457.ownBlock ∧ some k_ ≠ (Value.slice Ao14 t420.length co14).ownBlock ∧ some k_ ≠ (Value.slice Ao16 t423.length co16).ownBlock ∧ some k_ ≠ (Value.slice Ao65 t451.length co65).ownBlock) (Value.slice Ao62 t448.length co62) t448) ∧ Aside0 ((Kd.int IntKind.i64).R 3 wc w.heap.size (fun k_ => some k_ ≠ v438.ownBlock ∧ some k_ ≠ v457.ownBlock ∧ some k_ ≠ (Value.slice Ao14 t420.length co14).ownBlock ∧ some k_ ≠ (Value.slice Ao16 t423.length co16).ownBlock ∧ some k_ ≠ (Value.slice Ao62 t448.length co62).ownBlock) (Value.slice Ao65 t451.length co65) t451) ∧ Aside0 (wc.heap[gb426]? = some (Obj.cells #[Value.slice Ao14 t420.length co14, Value.slice Ao16 t423.length co16] 26)) ∧ Aside0 (wc.heap[gb455]? = some (Obj.cells #[Value.slice Ao62 t448.length co62, Value.slice Ao65 t451.length co65] 26)) ∧ Aside0 (Below w.heap.size w wc)) :
 K2_ { tmps := #[Value.slice A0 l0.length c0, Value.slice A1 l1.length c1, undef, undef, Value.bool false, Value.pointer (some { block := gb426, off := 0 }), v428, Value.bool t430, v432, Value.bool t434, Value.int IntKind.i64 t435, Value.bool t436, v438, Value.bool t440, v442, Value.bool t444, Value.pointer (some { block := gb455, off := 0 }), Value.int IntKind.i64 t454, v457, Value.bool t459, v461, Value.bool t463, undef, undef, undef, undef, undef, undef, undef, undef, undef, undef, undef, undef, undef, undef, undef, undef, undef, undef, undef, undef, u42, u43, u44, u45, u46, u47, u48, u49, u50, u51, u52, u53, u54, u55, u56, u57, u58, u59, u60, u61, u62, u63, u64, u65, u66, u67, u68, u69, u70, u71, u72, u73, u74, u75, u76, u77, u78, u79, u80, u81, u82, u83, u84, u85, u86, u87, u88, u89, u90, u91, u92, u93, u94, u95, u96, u97, u98, u99, u100, u101, u102, u103, u104, u105, u106, u107, u108, u109, u110, u111, u112, u113, u114, u115, u116, u117, u118, u119, u120, u121, u122, u123, u124, u125, u126, u127, u128, u129, u130, u131, u132, u133, u134, u135, u136, u137, u138, u139, u140, u141, u142, u143, u144, u145, u146, u147, u148, u149, u150, u151, u152, u153, u154, u155, u156, u157, u158, u159, u160, u161, u162, u163, u164, u165, u166, u167, u168, u169, u170, u171, u172, u173, u174, u175, u176, u177, u178, u179, u180, u181, u182, u183, u184, u185, u186, u187, u188, u189, u190, u191, u192, u193, u194, u195, u196, u197, u198, u199, u200, u201, u202, u203, u204, u205, u206, u207, undef, undef, undef, u211, u212, u213, u214, u215, u216, u217, u218, undef, undef, undef, u222, u223, u224, u225, u226, u227, u228, u229, u230, u231, u232, u233, u234, u235, u236, u237, u238, u239, u240, u241, u242, u243, u244, u245, u246, u247, u248, u249, u250, u251, u252, u253, u254, u255, u256, u257, u258, u259, u260, u261, u262, u263, u264, u265, u266, u267, u268, u269, u270, u271, u272, u273, u274, u275, u276, u277, u278, u279, u280, u281, u282, u283, u284, u285, u286, u287, u288, u289, u290, u291, u292, u293, u294, u295, u296, u297, u298, u299, u300, u301, u302, u303, u304, u305, u306, u307, u308, u309, u310, u311, u312, u313, u314, u315, u316, u317, u318, u319, u320, u321, u322, u323, u324, u325, u326, u327, u328, u329, u330, u331, u332, u333, u334, u335, u336, u337, u338, u339, u340, u341, u342, u343, u344, u345, u346, u347, u348], defers := [] } wc := by
 obtain ⟨c_, hc_⟩ : ∃ c_, c_ = laws_FnComponentsWalked.part1.rest := ⟨_, rfl⟩
 rw [← hc_] at a1_
 conv at hc_ =>
  rhs
  whnf
 subst hc_
 obtain ⟨c_, hc_⟩ : ∃ c_, c_ = laws_FnComponentsWalked.part1.joint := ⟨_, rfl⟩
 rw [← hc_] at a2_
 conv at hc_ =>
  rhs
  whnf
 subst hc_
 clear HC59
 try clear p2
 try clear hcz15_0
 try clear hcz15_1
 try clear hcz18_0
 try clear hcz18_1
 try clear hcz20_0
 try clear hcz20_1
 try clear hcz22_0
 try clear hcz22_1
 try clear hcz24_0
 try clear hcz24_1
 try clear hcz47_0
 try clear hcz47_1
 try clear hcz64_0
 try clear hcz64_1
 try clear hcz67_0
 try clear hcz67_1
 try clear hfz15_0
 try clear hfz15_1
 try clear hfz18_0
 try clear hfz18_1
 try clear hfz20_0
 try clear hfz20_1
 try clear hfz22_0
 try clear hfz22_1
 try clear hfz24_0
 try clear hfz24_1
 try clear hfz47_0
 try clear hfz47_1
 try clear hfz64_0
 try clear hfz64_1
 try clear hfz67_0
 try clear hfz67_1
 try clear p2
 obtain ⟨kq, x133_58, rfl, HA, HJ58, HO_6, HO_12, HO_18, HO_427000, HO_427001, HO_456000, HO_456001, BK426, BK455, HB⟩ := hcut
 cases kq with
 | zero => exact absurd HA.out (by simp [laws_FnComponentsWalked.j1])
 | succ kj58 =>
  have H := HA.out
  clear HA
  simp only [laws_FnComponentsWalked.j1] at H
  by_cases c73 : x133_58 = true
  ·subst c73
   have H1 : (some false) = some r := by rw [if_pos rfl] at H; exact H
   rw [hr_] at H1; exact absurd H1 (by decide)
  ·replace c73 := Bool.eq_false_iff.mpr c73
   subst c73
   have H1 : (if t459 = true then (if 0 < (t456.length : Int) then (if (rd t456 0) = t454 then (laws_FnComponentsWalked.j2 kj58 l1 t427 t434 t435 t437 t456 (((t456.length : Int) % 2) == 1) t420 t423 t448 t451) else (laws_FnComponentsWalked.j2 kj58 l1 t427 t434 t435 t437 t456 true t420 t423 t448 t451)) else (none)) else (laws_FnComponentsWalked.j4 kj58 l1 t427 t434 t435 t437 t420 t423)) = some r := by rw [if_neg (show ¬ (false = true) by decide)] at H; exact H
   clear H
   have H := H1
   clear H1
   have HC74 := Aside0.mk H
   clear H
   go_upto_if 134 with (fail)
   go_cut [] (fun wc => ∃ (kq : Nat), Aside0 (laws_FnComponentsWalked.j4 kq l1 t427 t434 t435 t437 t420 t423 = some r) ∧ Aside0 (kq ≤ kj58) ∧ Aside0 (Kd.S (Kd.slice 3 (Kd.int .i64)) 24 wc w.heap.size (fun k_ => some k_ ≠ (v438 : Value).ownBlock ∧ some k_ ≠ ((.slice Ao14 t420.length co14) : Value).ownBlock ∧ some k_ ≠ ((.slice Ao16 t423.length co16) : Value).ownBlock ∧ some k_ ≠ ((.slice Ao62 t448.length co62) : Value).ownBlock ∧ some k_ ≠ ((.slice Ao65 t451.length co65) : Value).ownBlock) v428 t427) ∧ Aside0 (Kd.R (Kd.int .i64) 3 wc w.heap.size (fun k_ => some k_ ≠ ((.slice Ao14 t420.length co14) : Value).ownBlock ∧ some k_ ≠ ((.slice Ao16 t423.length co16) : Value).ownBlock ∧ some k_ ≠ ((.slice Ao62 t448.length co62) : Value).ownBlock ∧ some k_ ≠ ((.slice Ao65 t451.length co65) : Value).ownBlock) v438 t437) ∧ Aside0 (Kd.R (Kd.int .i64) 3 wc w.heap.size (fun k_ => some k_ ≠ (v438 : Value).ownBlock ∧ some k_ ≠ ((.slice Ao16 t423.length co16) : Value).ownBlock ∧ some k_ ≠ ((.slice Ao62 t448.length co62) : Value).ownBlock ∧ some k_ ≠ ((.slice Ao65 t451.length co65) : Value).ownBlock) (.slice Ao14 t420.length co14) t420) ∧ Aside0 (Kd.R (Kd.int .i64) 3 wc w.heap.size (fun k_ => some k_ ≠ (v438 : Value).ownBlock ∧ some k_ ≠ ((.slice Ao14 t420.length co14) : Value).ownBlock ∧ some k_ ≠ ((.slice Ao62 t448.length co62) : Value).ownBlock ∧ some k_ ≠ ((.slice Ao65 t451.length co65) : Value).ownBlock) (.slice Ao16 t423.length co16) t423) ∧ Aside0 (Kd.R (Kd.int .i64) 3 wc w.heap.size (fun k_ => some k_ ≠ (v438 : Value).ownBlock ∧ some k_ ≠ ((.slice Ao14 t420.length co14) : Value).ownBlock ∧ some k_ ≠ ((.slice Ao16 t423.length co16) : Value).ownBlock ∧ some k_ ≠ ((.slice Ao65 t451.length co65) : Value).ownBlock) (.slice Ao62 t448.length co62) t448) ∧ Aside0 (Kd.R (Kd.int .i64) 3 wc w.heap.size (fun k_ => some k_ ≠ (v438 : Value).ownBlock ∧ some k_ ≠ ((.slice Ao14 t420.length co14) : Value).ownBlock ∧ some k_ ≠ ((.slice Ao16 t423.length co16) : Value).ownBlock ∧ some k_ ≠ ((.slice Ao62 t448.length co62) : Value).ownBlock) (.slice Ao65 t451.length co65) t451) ∧ Aside0 (wc.heap[gb426]? = some (.cells #[(.slice Ao14 t420.length co14), (.slice Ao16 t423.length co16)] 26 (0, 0))) ∧ Aside0 (wc.heap[gb455]? = some (.cells #[(.slice Ao62 t448.length co62), (.slice Ao65 t451.length co65)] 26 (0, 0))) ∧ Aside0 (Below w.heap.size w wc))
   case first =>
    have H := HC74.out
    clear HC74
    by_cases c75 : t459 = true
    ·subst c75
     have H1 : (if 0 < (t456.length : Int) then (if (rd t456 0) = t454 then (laws_FnComponentsWalked.j2 kj58 l1 t427 t434 t435 t437 t456 (((t456.length : Int) % 2) == 1) t420 t423 t448 t451) else (laws_FnComponentsWalked.j2 kj58 l1 t427 t434 t435 t437 t456 true t420 t423 t448 t451)) else (none)) = some r := by rw [if_pos rfl] at H; exact H
     clear H
     have H := H1
     clear H1
     have HC76 := Aside0.mk H
     clear H
     go_upto_region 17 with (fail)
     go_cut [145] (fun v145 wc => ∃ (kq : Nat) (x145_75 : Bool), v145 = .bool x145_75 ∧ Aside0 (laws_FnComponentsWalked.j2 kq l1 t427 t434 t435 t437 t456 x145_75 t420 t423 t448 t451 = some r) ∧ Aside0 (kq ≤ kj58) ∧ Aside0 (Kd.S (Kd.slice 3 (Kd.int .i64)) 24 wc w.heap.size (fun k_ => some k_ ≠ (v438 : Value).ownBlock ∧ some k_ ≠ (v457 : Value).ownBlock ∧ some k_ ≠ ((.slice Ao14 t420.length co14) : Value).ownBlock ∧ some k_ ≠ ((.slice Ao16 t423.length co16) : Value).ownBlock ∧ some k_ ≠ ((.slice Ao62 t448.length co62) : Value).ownBlock ∧ some k_ ≠ ((.slice Ao65 t451.length co65) : Value).ownBlock) v428 t427) ∧ Aside0 (Kd.R (Kd.int .i64) 3 wc w.heap.size (fun k_ => some k_ ≠ (v457 : Value).ownBlock ∧ some k_ ≠ ((.slice Ao14 t420.length co14) : Value).ownBlock ∧ some k_ ≠ ((.slice Ao16 t423.length co16) : Value).ownBlock ∧ some k_ ≠ ((.slice Ao62 t448.length co62) : Value).ownBlock ∧ some k_ ≠ ((.slice Ao65 t451.length co65) : Value).ownBlock) v438 t437) ∧ Aside0 (Kd.R (Kd.int .i64) 3 wc w.heap.size (fun k_ => some k_ ≠ (v438 : Value).ownBlock ∧ some k_ ≠ ((.slice Ao14 t420.length co14) : Value).ownBlock ∧ some k_ ≠ ((.slice Ao16 t423.length co16) : Value).ownBlock ∧ some k_ ≠ ((.slice Ao62 t448.length co62) : Value).ownBlock ∧ some k_ ≠ ((.slice Ao65 t451.length co65) : Value).ownBlock) v457 t456) ∧ Aside0 (Kd.R (Kd.int .i64) 3 wc w.heap.size (fun k_ => some k_ ≠ (v438 : Value).ownBlock ∧ some k_ ≠ (v457 : Value).ownBlock ∧ some k_ ≠ ((.slice Ao16 t423.length co16) : Value).ownBlock ∧ some k_ ≠ ((.slice Ao62 t448.length co62) : Value).ownBlock ∧ some k_ ≠ ((.slice Ao65 t451.length co65) : Value).ownBlock) (.slice Ao14 t420.length co14) t420) ∧ Aside0 (Kd.R (Kd.int .i64) 3 wc w.heap.size (fun k_ => some k_ ≠ (v438 : Value).ownBlock ∧ some k_ ≠ (v457 : Value).ownBlock ∧ some k_ ≠ ((.slice Ao14 t420.length co14) : Value).ownBlock ∧ some k_ ≠ ((.slice Ao62 t448.length co62) : Value).ownBlock ∧ some k_ ≠ ((.slice Ao65 t451.length co65) : Value).ownBlock) (.slice Ao16 t423.length co16) t423) ∧ Aside0 (Kd.R (Kd.int .i64) 3 wc w.heap.size (fun k_ => some k_ ≠ (v438 : Value).ownBlock ∧ some k_ ≠ (v457 : Value).ownBlock ∧ some k_ ≠ ((.slice Ao14 t420.length co14) : Value).ownBlock ∧ some k_ ≠ ((.slice Ao16 t423.length co16) : Value).ownBlock ∧ some k_ ≠ ((.slice Ao65 t451.length co65) : Value).ownBlock) (.slice Ao62 t448.length co62) t448) ∧ Aside0 (Kd.R (Kd.int .i64) 3 wc w.heap.size (fun k_ => some k_ ≠ (v438 : Value).ownBlock ∧ some k_ ≠ (v457 : Value).ownBlock ∧ some k_ ≠ ((.slice Ao14 t420.length co14) : Value).ownBlock ∧ some k_ ≠ ((.slice Ao16 t423.length co16) : Value).ownBlock ∧ some k_ ≠ ((.slice Ao62 t448.length co62) : Value).ownBlock) (.slice Ao65 t451.length co65) t451) ∧ Aside0 (wc.heap[gb426]? = some (.cells #[(.slice Ao14 t420.length co14), (.slice Ao16 t423.length co16)] 26 (0, 0))) ∧ Aside0 (wc.heap[gb455]? = some (.cells #[(.slice Ao62 t448.length co62), (.slice Ao65 t451.length co65)] 26 (0, 0))) ∧ Aside0 (Below w.heap.size w wc))
     case first =>
      have H := HC76.out
      clear HC76
      by_cases c77 : 0 < (t456.length : Int)
      ·rw [if_pos c77] at H
       have c77b0 : decide (0 < (t456.length : Int)) = true := decide_eq_true c77
       have c77b1 : decide (0 < t456.length) = true := decide_eq_true (by omega)
       clear c77
       (first | rw [c77b0] | (simp only [i64_w, i32_w]; rw [c77b0]) | skip)
       by_cases c78 : (rd t456 0) = t454
       ·rw [if_pos c78] at H
        have c78b0 : ((rd t456 0) == t454) = true := beq_iff_eq.mpr c78
        have c78b1 : ((rd t456 0) != t454) = false := bne_eq_false_iff_eq.mpr c78
        clear c78
        have H' := Aside0.mk H
        clear H
        obtain ⟨Ao79, co79, eo79⟩ := Kd.R_slice HO_18.out
        subst eo79
        have p465 : 0 ≤ (0 : Int) := (by omega)
        have q465 : 0 < (t456.length : Int) := of_decide_eq_true (by assumption)
        obtain ⟨ad465, e465, hx465_0⟩ := Kd.at_int (Kd.R_reads' HO_18.out).2.2 0 p465 q465
        cases e465
        have qi465 : (0 < t456.length) = True := eq_true (by omega)
        (try rw [show ((0 : Int)).toNat = 0 from rfl] at hx465_0)
        (try rw [Addr.add_zero'] at hx465_0)
        replace p465 := eq_true p465
        replace q465 := eq_true q465
        go_wp2
        go_meet
        case rel => exact ⟨_, ((((t456.length : Int) % 2) == 1)), (by first | rfl | (simp; done) | (simp [*]; done)), H', ⟨by have := HJ10.out; have := HJ58.out; first | omega | exact Nat.le_refl _⟩, ⟨by (with_reducible repeat (first | apply Kd.S_alloc | apply Kd.S_drewN | apply Kd.S_drew)); exact HO_6.out⟩, ⟨by (with_reducible repeat (first | apply rA | apply rN | apply rD)); exact HO_12.out⟩, ⟨by (with_reducible repeat (first | apply rA | apply rN | apply rD)); exact HO_18.out⟩, ⟨by (with_reducible repeat (first | apply rA | apply rN | apply rD)); exact HO_427000.out⟩, ⟨by (with_reducible repeat (first | apply rA | apply rN | apply rD)); exact HO_427001.out⟩, ⟨by (with_reducible repeat (first | apply rA | apply rN | apply rD)); exact HO_456000.out⟩, ⟨by (with_reducible repeat (first | apply rA | apply rN | apply rD)); exact HO_456001.out⟩, ⟨by (with_reducible repeat (first | refine blk_drewN ?_ _ | refine blk_drew ?_ | refine blk_alloc ?_ _)); exact BK426.out⟩, ⟨by (with_reducible repeat (first | refine blk_drewN ?_ _ | refine blk_drew ?_ | refine blk_alloc ?_ _)); exact BK455.out⟩, ⟨by repeat (first | exact HB.out | apply bA | apply bN | apply bD | refine below_set ?_ GE426.out | refine below_set ?_ GE455.out)⟩⟩
       ·rw [if_neg c78] at H
        have c78b0 : ((rd t456 0) == t454) = false := beq_eq_false_iff_ne.mpr c78
        have c78b1 : ((rd t456 0) != t454) = true := bne_iff_ne.mpr c78
        have H' := Aside0.mk H
        clear H
        obtain ⟨Ao80, co80, eo80⟩ := Kd.R_slice HO_18.out
        subst eo80
        have p465 : 0 ≤ (0 : Int) := (by omega)
        have q465 : 0 < (t456.length : Int) := of_decide_eq_true (by assumption)
        obtain ⟨ad465, e465, hx465_0⟩ := Kd.at_int (Kd.R_reads' HO_18.out).2.2 0 p465 q465
        cases e465
        have qi465 : (0 < t456.length) = True := eq_true (by omega)
        (try rw [show ((0 : Int)).toNat = 0 from rfl] at hx465_0)
        (try rw [Addr.add_zero'] at hx465_0)
        replace p465 := eq_true p465
        replace q465 := eq_true q465
        go_wp2
        go_meet
        case rel => exact ⟨_, (true), (by first | rfl | (simp; done) | (simp [*]; done)), H', ⟨by have := HJ10.out; have := HJ58.out; first | omega | exact Nat.le_refl _⟩, ⟨by (with_reducible repeat (first | apply Kd.S_alloc | apply Kd.S_drewN | apply Kd.S_drew)); exact HO_6.out⟩, ⟨by (with_reducible repeat (first | apply rA | apply rN | apply rD)); exact HO_12.out⟩, ⟨by (with_reducible repeat (first | apply rA | apply rN | apply rD)); exact HO_18.out⟩, ⟨by (with_reducible repeat (first | apply rA | apply rN | apply rD)); exact HO_427000.out⟩, ⟨by (with_reducible repeat (first | apply rA | apply rN | apply rD)); exact HO_427001.out⟩, ⟨by (with_reducible repeat (first | apply rA | apply rN | apply rD)); exact HO_456000.out⟩, ⟨by (with_reducible repeat (first | apply rA | apply rN | apply rD)); exact HO_456001.out⟩, ⟨by (with_reducible repeat (first | refine blk_drewN ?_ _ | refine blk_drew ?_ | refine blk_alloc ?_ _)); exact BK426.out⟩, ⟨by (with_reducible repeat (first | refine blk_drewN ?_ _ | refine blk_drew ?_ | refine blk_alloc ?_ _)); exact BK455.out⟩, ⟨by repeat (first | exact HB.out | apply bA | apply bN | apply bD | refine below_set ?_ GE426.out | refine below_set ?_ GE455.out)⟩⟩
      ·rw [if_neg c77] at H
       exact absurd H (by simp)
     case rest =>
      rename_i J_ K0_ am_ aj_ K1_ a1_ K2_ a2_
      exact laws_FnComponentsWalked.part2 k A0 c0 l0 A1 c1 l1 r w hr_ hu26 t420 t423 t427 t430 t434 t435 t436 t437 t440 t444 gb426 GE426 Ao14 co14 Ao16 co16 v428 v432 v438 v442 kj10 HJ10 t448 t451 t454 t456 t463 gb455 GE455 Ao62 co62 Ao65 co65 v457 v461 kj58 HJ58 HC76 wc u42 u43 u44 u45 u46 u47 u48 u49 u50 u51 u52 u53 u54 u55 u56 u57 u58 u59 u60 u61 u62 u63 u64 u65 u66 u67 u68 u69 u70 u71 u72 u73 u74 u75 u76 u77 u78 u79 u80 u81 u82 u83 u84 u85 u86 u87 u88 u89 u90 u91 u92 u93 u94 u95 u96 u97 u98 u99 u100 u101 u102 u103 u104 u105 u106 u107 u108 u109 u110 u111 u112 u113 u114 u115 u116 u117 u118 u119 u120 u121 u122 u123 u124 u125 u126 u127 u128 u129 u130 u131 u132 u133 u134 u135 u136 u137 u138 u139 u140 u141 u142 u143 u144 u145 u146 u147 u148 u149 u150 u151 u152 u153 u154 u155 u156 u157 u158 u159 u160 u161 u162 u163 u164 u165 u166 u167 u168 u169 u170 u171 u172 u173 u174 u175 u176 u177 u178 u179 u180 u181 u182 u183 u184 u185 u186 u187 u188 u189 u190 u191 u192 u193 u194 u195 u196 u197 u198 u199 u200 u201 u202 u203 u204 u205 u206 u207 u211 u212 u213 u214 u215 u216 u217 u218 u222 u223 u224 u225 u226 u227 u228 u229 u230 u231 u232 u233 u234 u235 u236 u237 u238 u239 u240 u241 u242 u243 u244 u245 u246 u247 u248 u249 u250 u251 u252 u253 u254 u255 u256 u257 u258 u259 u260 u261 u262 u263 u264 u265 u266 u267 u268 u269 u270 u271 u272 u273 u274 u275 u276 u277 u278 u279 u280 u281 u282 u283 u284 u285 u286 u287 u288 u289 u290 u291 u292 u293 u294 u295 u296 u297 u298 u299 u300 u301 u302 u303 u304 u305 u306 u307 u308 u309 u310 u311 u312 u313 u314 u315 u316 u317 u318 u319 u320 u321 u322 u323 u324 u325 u326 u327 u328 u329 u330 u331 u332 u333 u334 u335 u336 u337 u338 u339 u340 u341 u342 u343 u344 u345 u346 u347 u348 J_ K0_ am_ aj_ K1_ a1_ K2_ a2_ hcut
    ·replace c75 := Bool.eq_false_iff.mpr c75
     subst c75
     have H1 : (laws_FnComponentsWalked.j4 kj58 l1 t427 t434 t435 t437 t420 t423) = some r := by rw [if_neg (show ¬ (false = true) by decide)] at H; exact H
     clear H
     have H := H1
     clear H1
     have H' := Aside0.mk H
     clear H
     go_wp2
     go_meet
     case rel => exact ⟨_, H', ⟨by have := HJ10.out; have := HJ58.out; first | omega | exact Nat.le_refl _⟩, ⟨by (with_reducible repeat (first | apply Kd.S_alloc | apply Kd.S_drewN | apply Kd.S_drew)); exact Kd.S_mono HO_6.out (fun _ hk => ⟨hk.1, ⟨hk.2.2.1, ⟨hk.2.2.2.1, ⟨hk.2.2.2.2.1, hk.2.2.2.2.2⟩⟩⟩⟩)⟩, ⟨by (with_reducible repeat (first | apply rA | apply rN | apply rD)); exact Kd.R_mono HO_12.out (fun _ hk => ⟨hk.2.1, ⟨hk.2.2.1, ⟨hk.2.2.2.1, hk.2.2.2.2⟩⟩⟩)⟩, ⟨by (with_reducible repeat (first | apply rA | apply rN | apply rD)); exact Kd.R_mono HO_427000.out (fun _ hk => ⟨hk.1, ⟨hk.2.2.1, ⟨hk.2.2.2.1, hk.2.2.2.2⟩⟩⟩)⟩, ⟨by (with_reducible repeat (first | apply rA | apply rN | apply rD)); exact Kd.R_mono HO_427001.out (fun _ hk => ⟨hk.1, ⟨hk.2.2.1, ⟨hk.2.2.2.1, hk.2.2.2.2⟩⟩⟩)⟩, ⟨by (with_reducible repeat (first | apply rA | apply rN | apply rD)); exact Kd.R_mono HO_456000.out (fun _ hk => ⟨hk.1, ⟨hk.2.2.1, ⟨hk.2.2.2.1, hk.2.2.2.2⟩⟩⟩)⟩, ⟨by (with_reducible repeat (first | apply rA | apply rN | apply rD)); exact Kd.R_mono HO_456001.out (fun _ hk => ⟨hk.1, ⟨hk.2.2.1, ⟨hk.2.2.2.1, hk.2.2.2.2⟩⟩⟩)⟩, ⟨by (with_reducible repeat (first | refine blk_drewN ?_ _ | refine blk_drew ?_ | refine blk_alloc ?_ _)); exact BK426.out⟩, ⟨by (with_reducible repeat (first | refine blk_drewN ?_ _ | refine blk_drew ?_ | refine blk_alloc ?_ _)); exact BK455.out⟩, ⟨by repeat (first | exact HB.out | apply bA | apply bN | apply bD | refine below_set ?_ GE426.out | refine below_set ?_ GE455.out)⟩⟩
   case rest =>
    rename_i K1_ a1_
    exact laws_FnComponentsWalked.part3 k A0 c0 l0 A1 c1 l1 r w hr_ hu26 HR1 HC1 t420 t423 t427 t430 t434 t435 t436 t437 t440 t444 nd gb426 GE426 Ao14 co14 Ao16 co16 v428 v432 v438 v442 kj10 HJ10 t448 t451 t454 t456 t459 t463 gb455 GE455 NB426_455 NB455_426 Ao62 co62 Ao65 co65 w66 v457 w68 v461 hb kj58 HJ58 HC74 wc u4 u22 u42 u43 u44 u45 u46 u47 u48 u49 u50 u51 u52 u53 u54 u55 u56 u57 u58 u59 u60 u61 u62 u63 u64 u65 u66 u67 u68 u69 u70 u71 u72 u73 u74 u75 u76 u77 u78 u79 u80 u81 u82 u83 u84 u85 u86 u87 u88 u89 u90 u91 u92 u93 u94 u95 u96 u97 u98 u99 u100 u101 u102 u103 u104 u105 u106 u107 u108 u109 u110 u111 u112 u113 u114 u115 u116 u117 u118 u119 u120 u121 u122 u123 u124 u125 u126 u127 u128 u129 u130 u131 u132 u133 u134 u135 u136 u137 u138 u139 u140 u141 u142 u143 u144 u145 u146 u147 u148 u149 u150 u151 u152 u153 u154 u155 u156 u157 u158 u159 u160 u161 u162 u163 u164 u165 u166 u167 u168 u169 u170 u171 u172 u173 u174 u175 u176 u177 u178 u179 u180 u181 u182 u183 u184 u185 u186 u187 u188 u189 u190 u191 u192 u193 u194 u195 u196 u197 u198 u199 u200 u201 u202 u203 u204 u205 u206 u207 u211 u212 u213 u214 u215 u216 u217 u218 u222 u223 u224 u225 u226 u227 u228 u229 u230 u231 u232 u233 u234 u235 u236 u237 u238 u239 u240 u241 u242 u243 u244 u245 u246 u247 u248 u249 u250 u251 u252 u253 u254 u255 u256 u257 u258 u259 u260 u261 u262 u263 u264 u265 u266 u267 u268 u269 u270 u271 u272 u273 u274 u275 u276 u277 u278 u279 u280 u281 u282 u283 u284 u285 u286 u287 u288 u289 u290 u291 u292 u293 u294 u295 u296 u297 u298 u299 u300 u301 u302 u303 u304 u305 u306 u307 u308 u309 u310 u311 u312 u313 u314 u315 u316 u317 u318 u319 u320 u321 u322 u323 u324 u325 u326 u327 u328 u329 u330 u331 u332 u333 u334 u335 u336 u337 u338 u339 u340 u341 u342 u343 u344 u345 u346 u347 u348 K1_ a1_ hcut

end Go.Proofs.Ytfencncopkeobaa.QFnComponentsWalked
