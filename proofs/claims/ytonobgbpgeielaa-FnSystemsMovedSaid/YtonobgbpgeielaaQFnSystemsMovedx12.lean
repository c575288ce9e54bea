-- Written by wip/myprint.py (a program of mine round the kit's printer). Lean checks it.
import Derived.Test.YtonobgbpgeielaaQFnSystemsMovedx8
import Derived.Test.YtonobgbpgeielaaQFnSystemsMovedx11
namespace Go.Proofs.Ytonobgbpgeielaa.QFnSystemsMoved
open Go.RowKit Go.Proofs.YtonobgbpgeielaaW.PrintWords Go.Proofs.YtonobgbpgeielaaW.PrintLast Go.Proofs.YtonobgbpgeielaaW.PrintMore
attribute [local go_sem] max2_int min2_int max_two min_two max_three min_three max_four min_four   -- for this text's walks alone
set_option linter.unusedVariables false
set_option linter.unusedSimpArgs false

noncomputable def laws_FnSystemsMoved.part5.rest : Code := ((Try.f4.body.bind (laws_FnSystemsMoved.findRest 36)).getD .skip)
set_option maxHeartbeats 8000000 in
set_option maxRecDepth 1000000 in
theorem laws_FnSystemsMoved.part5 (k : Nat) (A0 : Option Addr) (c0 : Nat) (l0 : List Int) (A1 : Option Addr) (c1 : Nat) (l1 : List Int) (r : Bool) (w : World) (hr_ : r = true) (HR0 : Aside0 ((Kd.int IntKind.u8).C w A0 l0.length l0)) (HC0 : Aside0 (l0.length ≤ c0)) (t414 : List Int) (t415 : Int) (t418 : List Int) (t419 t423 : Bool) (nd : Nat) (Ao10 : Option Addr) (co10 : Nat) (v420 v424 : Value) (kj7 : Nat) (HJ7 : Aside0 (kj7 + 1 ≤ k)) (t427 t428 : List Int) (t434 t438 : Bool) (Ao23 : Option Addr) (co23 : Nat) (Ao24 : Option Addr) (co24 : Nat) (v435 v439 : Value) (kj20 : Nat) (HJ20 : Aside0 (kj20 + 1 ≤ kj7)) (u17 u18 : Value) (u19 u20 : Value) (u21 u22 : Value) (kj31 : Nat) (HJ31 : Aside0 (kj31 + 1 ≤ kj20)) (t448 t451 : List Int) (t452 t456 : Bool) (t460 t464 : Bool) (Ao69 : Option Addr) (co69 : Nat) (v453 v457 : Value) (v461 v465 : Value) (kj66 : Nat) (HJ66 : Aside0 (kj66 + 1 ≤ kj31)) (u32 u33 : Value) (kj87 : Nat) (HJ87 : Aside0 (kj87 + 1 ≤ kj66)) (HC102 : Aside0 ((if t452 = true then (impl_SystemText.f kj87 t448).bind fun bt474 => (impl_SystemText.f kj87 t451).bind fun bt476 => (impl_OuterArches.f kj87 t451).bind fun bt478 => if bt474.snd = true then if bt476.snd = true then if 1 + bt474.fst.size ≤ 9223372036854775807 then if ({ data := #[40] } ++ bt474.fst).size + 1 ≤ 9223372036854775807 then if bt476.fst.toList = ({ data := #[40] } ++ bt474.fst ++ { data := #[41] }).toList then if bt478.snd = true then if ((bt478.fst.length : Nat) : Int) = 1 then j5 kj87 l0 t414 t415 t418 t423 else some false else some false else some false else none else none else some false else some false else j5 kj87 l0 t414 t415 t418 t423) = some r)) (wc : World) (u4 u34 : Value) (u35 u36 : Value) (u37 u38 : Value) (u39 u61 : Value) (u62 u63 : Value) (u64 u65 : Value) (u66 u67 : Value) (u68 u69 : Value) (u70 u71 : Value) (u72 u73 : Value) (u74 u75 : Value) (u76 u77 : Value) (u78 u79 : Value) (u80 u81 : Value) (u82 u83 : Value) (u84 u85 : Value) (u86 u87 : Value) (u88 u89 : Value) (u90 u91 : Value) (u92 u93 : Value) (u94 u95 : Value) (u96 u97 : Value) (u98 u99 : Value) (u100 u101 : Value) (u102 u103 : Value) (u104 u105 : Value) (u106 u107 : Value) (u108 u109 : Value) (u110 u111 : Value) (u112 u113 : Value) (u114 u115 : Value) (u116 u117 : Value) (u118 u119 : Value) (u120 u121 : Value) (u122 u123 : Value) (u124 u125 : Value) (u126 u127 : Value) (u128 u129 : Value) (u130 u131 : Value) (u132 u133 : Value) (u134 u135 : Value) (u136 u137 : Value) (u138 u139 : Value) (u140 u141 : Value) (u142 u143 : Value) (u144 u145 : Value) (u146 u147 : Value) (u148 u149 : Value) (u150 u151 : Value) (u152 u153 : Value) (u154 u155 : Value) (u156 u157 : Value) (u158 u159 : Value) (u160 u161 : Value) (u162 u163 : Value) (u164 u165 : Value) (u166 u167 : Value) (u168 u169 : Value) (u170 u171 : Value) (u172 u173 : Value) (u174 u175 : Value) (u176 u177 : Value) (u178 u179 : Value) (u180 u181 : Value) (u182 u183 : Value) (u184 u185 : Value) (u186 u187 : Value) (u188 u189 : Value) (u190 u191 : Value) (u192 u193 : Value) (u194 u195 : Value) (u196 u197 : Value) (u198 u199 : Value) (u200 u201 : Value) (u202 u203 : Value) (u204 u205 : Value) (u206 u207 : Value) (u208 u209 : Value) (u210 u211 : Value) (u212 u213 : Value) (u214 u215 : Value) (u216 u217 : Value) (u218 u219 : Value) (u220 u221 : Value) (u222 u223 : Value) (u224 u225 : Value) (u226 u227 : Value) (u228 u229 : Value) (u230 u231 : Value) (u232 u233 : Value) (u234 u235 : Value) (u236 u237 : Value) (u238 u239 : Value) (u240 u241 : Value) (u242 u243 : Value) (u244 u245 : Value) (u246 u247 : Value) (u248 u249 : Value) (u250 u251 : Value) (u252 u253 : Value) (u254 u255 : Value) (u256 u257 : Value) (u258 u259 : Value) (u260 u261 : Value) (u262 u263 : Value) (u264 u265 : Value) (u266 u267 : Value) (u268 u269 : Value) (u270 u271 : Value) (u272 u273 : Value) (u274 u275 : Value) (u276 u277 : Value) (u278 u279 : Value) (u280 u281 : Value) (u282 u283 : Value) (u284 u285 : Value) (u286 u287 : Value) (u288 u289 : Value) (u290 u291 : Value) (u292 u293 : Value) (u294 u295 : Value) (u296 u297 : Value) (u298 u299 : Value) (u300 u301 : Value) (u302 u303 : Value) (u304 u305 : Value) (u306 u307 : Value) (u308 u309 : Value) (u310 u311 : Value) (u312 u313 : Value) (u314 u315 : Value) (u316 u317 : Value) (u318 u319 : Value) (u320 u321 : Value) (u322 u326 : Value) (u327 u328 : Value) (u329 u330 : Value) (u331 u332 : Value) (u333 u334 : Value) (u335 u336 : Value) (u337 u338 : Value) (u339 u340 : Value) (u341 u342 : Value) (u343 u344 : Value) (u345 u346 : Value) (u347 u348 : Value) (u349 u350 : Value) (u351 u352 : Value) (u353 u354 : Value) (u355 u356 : Value) (u357 u358 : Value) (u359 u360 : Value) (u361 u362 : Value) (u363 u364 : Value) (u365 u366 u367 : Value) (K1_ : Act → World → Prop) (a1_ : ∀ (a_ : Act) (w_ : World), Code.wp Try.prog laws_FnSystemsMoved.part5.rest (bodyPost Try.prog Try.f4 fun e w' => e = Ending.returned (Value.bool r) ∧ Below w.heap.size w w') a_ w_ → K1_ a_ w_) (hcut : ∃ kq, Aside0 (j5 kq l0 t414 t415 t418 t423 = some r) ∧ Aside0 (kq ≤ kj87) ∧ Aside0 ((Kd.int IntKind.i64).R 3 wc w.heap.size (fun k_ => some k_ ≠ v420.ownBlock) (Value.slice Ao10 t414.length co10) t414) ∧ Aside0 ((Kd.int IntKind.i64).R 3 wc w.heap.size (fun k_ => some k_ ≠ (Value.slice Ao10 t414.length co10).ownBlock) v420 t418) ∧ Aside0 (Below w.heap.size w wc)) :
    K1_ { tmps := #[Value.slice A0 l0.length c0, Value.slice A1 l1.length c1, undef, undef, u4, Value.slice Ao10 t414.length co10, Value.int IntKind.i64 t415, v420, Value.bool t419, v424, Value.bool t423, Value.slice Ao23 t427.length co23, Value.slice Ao24 t428.length co24, v435, Value.bool t434, v439, Value.bool t438, u17, u18, u19, u20, u21, u22, Value.slice Ao69 t448.length co69, v453, Value.bool t452, v457, Value.bool t456, v461, Value.bool t460, v465, Value.bool t464, u32, u33, u34, u35, u36, u37, u38, u39, undef, undef, undef, undef, undef, undef, undef, undef, undef, undef, undef, undef, undef, undef, undef, undef, undef, undef, undef, undef, undef, u61, u62, u63, u64, u65, u66, u67, u68, u69, u70, u71, u72, u73, u74, u75, u76, u77, u78, u79, u80, u81, u82, u83, u84, u85, u86, u87, u88, u89, u90, u91, u92, u93, u94, u95, u96, u97, u98, u99, u100, u101, u102, u103, u104, u105, u106, u107, u108, u109, u110, u111, u112, u113, u114, u115, u116, u117, u118, u119, u120, u121, u122, u123, u124, u125, u126, u127, u128, u129, u130, u131, u132, u133, u134, u135, u136, u137, u138, u139, u140, u141, u142, u143, u144, u145, u146, u147, u148, u149, u150, u151, u152, u153, u154, u155, u156, u157, u158, u159, u160, u161, u162, u163, u164, u165, u166, u167, u168, u169, u170, u171, u172, u173, u174, u175, u176, u177, u178, u179, u180, u181, u182, u183, u184, u185, u186, u187, u188, u189, u190, u191, u192, u193, u194, u195, u196, u197, u198, u199, u200, u201, u202, u203, u204, u205, u206, u207, u208, u209, u210, u211, u212, u213, u214, u215, u216, u217, u218, u219, u220, u221, u222, u223, u224, u225, u226, u227, u228, u229, u230, u231, u232, u233, u234, u235, u236, u237, u238, u239, u240, u241, u242, u243, u244, u245, u246, u247, u248, u249, u250, u251, u252, u253, u254, u255, u256, u257, u258, u259, u260, u261, u262, u263, u264, u265, u266, u267, u268, u269, u270, u271, u272, u273, u274, u275, u276, u277, u278, u279, u280, u281, u282, u283, u284, u285, u286, u287, u288, u289, u290, u291, u292, u293, u294, u295, u296, u297, u298, u299, u300, u301, u302, u303, u304, u305, u306, u307, u308, u309, u310, u311, u312, u313, u314, u315, u316, u317, u318, u319, u320, u321, u322, undef, undef, undef, u326, u327, u328, u329, u330, u331, u332, u333, u334, u335, u336, u337, u338, u339, u340, u341, u342, u343, u344, u345, u346, u347, u348, u349, u350, u351, u352, u353, u354, u355, u356, u357, u358, u359, u360, u361, u362, u363, u364, u365, u366, u367], defers := [] } wc := by
  obtain ⟨c_, hc_⟩ : ∃ c_, c_ = laws_FnSystemsMoved.part5.rest := ⟨_, rfl⟩
  rw [← hc_] at a1_
  conv at hc_ =>
    rhs
    whnf
  subst hc_
  clear HC102
  try clear c1
  try clear c2
  try clear p2
  try clear c3
  try clear c4
  try clear c6
  try clear c7
  try clear c8
  try clear c9
  try clear c10
  try clear c11
  try clear c13
  try clear c13b0
  try clear c13b1
  try clear c13b2
  try clear c17
  try clear c22
  try clear c23
  try clear c24
  try clear c25
  try clear c26
  try clear c27
  try clear c27b0
  try clear c27b1
  try clear c27b2
  try clear c28
  try clear c29
  try clear c30
  try clear c31
  try clear c32
  try clear c33
  try clear c37
  try clear c38
  try clear c39
  try clear c40
  try clear c40b0
  try clear c40b1
  try clear c40b2
  try clear c41
  try clear c41b0
  try clear c41b1
  try clear c74
  try clear c74b0
  try clear c74b1
  try clear c74b2
  try clear c76
  try clear c77
  try clear c77b0
  try clear c77b1
  try clear c77b2
  try clear c87
  try clear c89
  try clear c91
  try clear c93
  try clear c103
  try clear c107
  try clear c108
  try clear c109
  try clear c109b0
  try clear c109b1
  try clear c109b2
  try clear c110
  try clear c110b0
  try clear c110b1
  try clear c110b2
  try clear c111
  try clear c111b0
  try clear c111b1
  try clear c112
  try clear c113
  try clear c113b0
  try clear c113b1
  try clear p2
  obtain ⟨kq, HA, HJ101, HO_5, HO_7, HB⟩ := hcut
  cases kq with
  | zero => exact absurd HA.out (by simp [laws_FnSystemsMoved.j5])
  | succ kj101 =>
    have H := HA.out
    clear HA
    simp only [laws_FnSystemsMoved.j5] at H
    replace H := Option.bind_eq_some_iff.mp H
    obtain ⟨t482, A1400, H⟩ := H
    replace H : ((impl_RainbowOf.f kj101 t482).bind fun bt483 => ((impl_FlatOf.f kj101 t482).bind fun bt487 => ((spec_RainbowOf.f kj101 t482).bind fun bt491 => ((spec_FlatOf.f kj101 t482).bind fun bt495 => (if (bt483.2 != bt491.2) = true then (laws_FnSystemsMoved.j6 kj101 t414 t415 t418 t423 bt483.1 bt483.2 bt487.1 true) else (if (bt487.2 != bt495.2) = true then (laws_FnSystemsMoved.j6 kj101 t414 t415 t418 t423 bt483.1 bt483.2 bt487.1 true) else ((laws_sSame.f kj101 bt483.1 bt491.1).bind fun t499 => (if t499 = true then ((laws_sSame.f kj101 bt487.1 bt495.1).bind fun t500 => (laws_FnSystemsMoved.j6 kj101 t414 t415 t418 t423 bt483.1 bt483.2 bt487.1 (!t500))) else (laws_FnSystemsMoved.j6 kj101 t414 t415 t418 t423 bt483.1 bt483.2 bt487.1 true))))))))) = some r := H
    have A140 := Aside0.mk A1400
    clear A1400
    replace H := Option.bind_eq_some_iff.mp H
    obtain ⟨⟨t483, t484⟩, A1410, H⟩ := H
    replace H : ((impl_FlatOf.f kj101 t482).bind fun bt487 => ((spec_RainbowOf.f kj101 t482).bind fun bt491 => ((spec_FlatOf.f kj101 t482).bind fun bt495 => (if (t484 != bt491.2) = true then (laws_FnSystemsMoved.j6 kj101 t414 t415 t418 t423 t483 t484 bt487.1 true) else (if (bt487.2 != bt495.2) = true then (laws_FnSystemsMoved.j6 kj101 t414 t415 t418 t423 t483 t484 bt487.1 true) else ((laws_sSame.f kj101 t483 bt491.1).bind fun t499 => (if t499 = true then ((laws_sSame.f kj101 bt487.1 bt495.1).bind fun t500 => (laws_FnSystemsMoved.j6 kj101 t414 t415 t418 t423 t483 t484 bt487.1 (!t500))) else (laws_FnSystemsMoved.j6 kj101 t414 t415 t418 t423 t483 t484 bt487.1 true)))))))) = some r := H
    have A141 := Aside0.mk A1410
    clear A1410
    replace H := Option.bind_eq_some_iff.mp H
    obtain ⟨⟨t487, t488⟩, A1420, H⟩ := H
    replace H : ((spec_RainbowOf.f kj101 t482).bind fun bt491 => ((spec_FlatOf.f kj101 t482).bind fun bt495 => (if (t484 != bt491.2) = true then (laws_FnSystemsMoved.j6 kj101 t414 t415 t418 t423 t483 t484 t487 true) else (if (t488 != bt495.2) = true then (laws_FnSystemsMoved.j6 kj101 t414 t415 t418 t423 t483 t484 t487 true) else ((laws_sSame.f kj101 t483 bt491.1).bind fun t499 => (if t499 = true then ((laws_sSame.f kj101 t487 bt495.1).bind fun t500 => (laws_FnSystemsMoved.j6 kj101 t414 t415 t418 t423 t483 t484 t487 (!t500))) else (laws_FnSystemsMoved.j6 kj101 t414 t415 t418 t423 t483 t484 t487 true))))))) = some r := H
    have A142 := Aside0.mk A1420
    clear A1420
    replace H := Option.bind_eq_some_iff.mp H
    obtain ⟨⟨t491, t492⟩, A1430, H⟩ := H
    replace H : ((spec_FlatOf.f kj101 t482).bind fun bt495 => (if (t484 != t492) = true then (laws_FnSystemsMoved.j6 kj101 t414 t415 t418 t423 t483 t484 t487 true) else (if (t488 != bt495.2) = true then (laws_FnSystemsMoved.j6 kj101 t414 t415 t418 t423 t483 t484 t487 true) else ((laws_sSame.f kj101 t483 t491).bind fun t499 => (if t499 = true then ((laws_sSame.f kj101 t487 bt495.1).bind fun t500 => (laws_FnSystemsMoved.j6 kj101 t414 t415 t418 t423 t483 t484 t487 (!t500))) else (laws_FnSystemsMoved.j6 kj101 t414 t415 t418 t423 t483 t484 t487 true)))))) = some r := H
    have A143 := Aside0.mk A1430
    clear A1430
    replace H := Option.bind_eq_some_iff.mp H
    obtain ⟨⟨t495, t496⟩, A1440, H⟩ := H
    replace H : (if (t484 != t492) = true then (laws_FnSystemsMoved.j6 kj101 t414 t415 t418 t423 t483 t484 t487 true) else (if (t488 != t496) = true then (laws_FnSystemsMoved.j6 kj101 t414 t415 t418 t423 t483 t484 t487 true) else ((laws_sSame.f kj101 t483 t491).bind fun t499 => (if t499 = true then ((laws_sSame.f kj101 t487 t495).bind fun t500 => (laws_FnSystemsMoved.j6 kj101 t414 t415 t418 t423 t483 t484 t487 (!t500))) else (laws_FnSystemsMoved.j6 kj101 t414 t415 t418 t423 t483 t484 t487 true))))) = some r := H
    have A144 := Aside0.mk A1440
    clear A1440
    have HC145 := Aside0.mk H
    clear H
    go_upto_region 41 with (first | ((with_reducible refine gate_callee (f := 34) rfl ?_); refine goesL_ (some 244) rfl rfl Try.func34 (by kernel_rfl) rfl #[.slice A0 l0.length c0] rfl (by (try simp only [List.map_toArray, List.map_cons, List.map_nil]); first | done | rfl) ?_; (with_reducible refine (spec_DrawRainbowOf.calls _ _ l0 t482 _ ?side1 ?side2 A140.out).mono ?_); (case side1 => repeat (first | exact (Kd.C_below HR0.out HB.out) | (with_reducible refine Kd.C_alloc ?_ _) | (with_reducible refine Kd.C_drewN ?_ _) | (with_reducible refine Kd.C_drew ?_))); (case side2 => exact HC0.out); rintro e w146 ⟨rfl, hb⟩; refine ⟨_, rfl, ?_⟩; replace HO_5 := Aside0.mk (Kd.R_below (by (with_reducible repeat (first | apply Kd.R_alloc | apply Kd.R_drewN | apply Kd.R_drew)); exact HO_5.out) hb); replace HO_7 := Aside0.mk (Kd.R_below (by (with_reducible repeat (first | apply Kd.R_alloc | apply Kd.R_drewN | apply Kd.R_drew)); exact HO_7.out) hb); replace HB := Aside0.mk (below_step (by repeat (first | exact HB.out | apply below_alloc | apply pw_below_drewN | apply below_drew1)) hb); (try clear hb); (try clear hb2); (try clear hk); (try clear hi)) | ((with_reducible refine gate_callee (f := 35) rfl ?_); refine goesL_ (some 247) rfl rfl Try.func35 (by kernel_rfl) rfl #[.int .i64 t482] rfl (by (try simp only [List.map_toArray, List.map_cons, List.map_nil]); first | done | rfl) ?_; (with_reducible refine (impl_RainbowOf.calls kj101 t482 t483 t484 _ A141.out).mono ?_); rintro e w147 ⟨v485, rfl, ho0, hb⟩; refine ⟨_, rfl, ?_⟩; have HO486 := Aside0.mk (Kd.R_lower (Kd.R_new' (Kd.R_new' ho0 (Kd.R_lt (by (with_reducible repeat (first | apply Kd.R_alloc | apply Kd.R_drewN | apply Kd.R_drew)); exact HO_5.out))) (Kd.R_lt (by (with_reducible repeat (first | apply Kd.R_alloc | apply Kd.R_drewN | apply Kd.R_drew)); exact HO_7.out))) (below_size (by repeat (first | exact HB.out | apply below_alloc | apply pw_below_drewN | apply below_drew1)))); replace HO_5 := Aside0.mk (Kd.R_elder' (by (with_reducible repeat (first | apply Kd.R_alloc | apply Kd.R_drewN | apply Kd.R_drew)); exact HO_5.out) (Kd.R_base ho0) hb); replace HO_7 := Aside0.mk (Kd.R_elder' (by (with_reducible repeat (first | apply Kd.R_alloc | apply Kd.R_drewN | apply Kd.R_drew)); exact HO_7.out) (Kd.R_base ho0) hb); replace HB := Aside0.mk (below_step (by repeat (first | exact HB.out | apply below_alloc | apply pw_below_drewN | apply below_drew1)) hb); (try clear hb); (try clear hb2); (try clear hk); (try clear hi); (try clear ho0)) | ((with_reducible refine gate_callee (f := 36) rfl ?_); refine goesL_ (some 252) rfl rfl Try.func36 (by kernel_rfl) rfl #[.int .i64 t482] rfl (by (try simp only [List.map_toArray, List.map_cons, List.map_nil]); first | done | rfl) ?_; (with_reducible refine (impl_FlatOf.calls kj101 t482 t487 t488 _ A142.out).mono ?_); rintro e w148 ⟨v489, rfl, ho0, hb⟩; refine ⟨_, rfl, ?_⟩; have HO490 := Aside0.mk (Kd.R_lower (Kd.R_new' (Kd.R_new' (Kd.R_new' ho0 (Kd.R_lt (by (with_reducible repeat (first | apply Kd.R_alloc | apply Kd.R_drewN | apply Kd.R_drew)); exact HO_5.out))) (Kd.R_lt (by (with_reducible repeat (first | apply Kd.R_alloc | apply Kd.R_drewN | apply Kd.R_drew)); exact HO_7.out))) (Kd.R_lt (by (with_reducible repeat (first | apply Kd.R_alloc | apply Kd.R_drewN | apply Kd.R_drew)); exact HO486.out))) (below_size (by repeat (first | exact HB.out | apply below_alloc | apply pw_below_drewN | apply below_drew1)))); replace HO_5 := Aside0.mk (Kd.R_elder' (by (with_reducible repeat (first | apply Kd.R_alloc | apply Kd.R_drewN | apply Kd.R_drew)); exact HO_5.out) (Kd.R_base ho0) hb); replace HO_7 := Aside0.mk (Kd.R_elder' (by (with_reducible repeat (first | apply Kd.R_alloc | apply Kd.R_drewN | apply Kd.R_drew)); exact HO_7.out) (Kd.R_base ho0) hb); replace HO486 := Aside0.mk (Kd.R_elder' (by (with_reducible repeat (first | apply Kd.R_alloc | apply Kd.R_drewN | apply Kd.R_drew)); exact HO486.out) (Kd.R_base ho0) hb); replace HB := Aside0.mk (below_step (by repeat (first | exact HB.out | apply below_alloc | apply pw_below_drewN | apply below_drew1)) hb); (try clear hb); (try clear hb2); (try clear hk); (try clear hi); (try clear ho0)) | ((with_reducible refine gate_callee (f := 37) rfl ?_); refine goesL_ (some 257) rfl rfl Try.func37 (by kernel_rfl) rfl #[.int .i64 t482] rfl (by (try simp only [List.map_toArray, List.map_cons, List.map_nil]); first | done | rfl) ?_; (with_reducible refine (spec_RainbowOf.calls kj101 t482 t491 t492 _ A143.out).mono ?_); rintro e w149 ⟨v493, rfl, ho0, hb⟩; refine ⟨_, rfl, ?_⟩; have HO494 := Aside0.mk (Kd.R_lower (Kd.R_new' (Kd.R_new' (Kd.R_new' (Kd.R_new' ho0 (Kd.R_lt (by (with_reducible repeat (first | apply Kd.R_alloc | apply Kd.R_drewN | apply Kd.R_drew)); exact HO_5.out))) (Kd.R_lt (by (with_reducible repeat (first | apply Kd.R_alloc | apply Kd.R_drewN | apply Kd.R_drew)); exact HO_7.out))) (Kd.R_lt (by (with_reducible repeat (first | apply Kd.R_alloc | apply Kd.R_drewN | apply Kd.R_drew)); exact HO486.out))) (Kd.R_lt (by (with_reducible repeat (first | apply Kd.R_alloc | apply Kd.R_drewN | apply Kd.R_drew)); exact HO490.out))) (below_size (by repeat (first | exact HB.out | apply below_alloc | apply pw_below_drewN | apply below_drew1)))); replace HO_5 := Aside0.mk (Kd.R_elder' (by (with_reducible repeat (first | apply Kd.R_alloc | apply Kd.R_drewN | apply Kd.R_drew)); exact HO_5.out) (Kd.R_base ho0) hb); replace HO_7 := Aside0.mk (Kd.R_elder' (by (with_reducible repeat (first | apply Kd.R_alloc | apply Kd.R_drewN | apply Kd.R_drew)); exact HO_7.out) (Kd.R_base ho0) hb); replace HO486 := Aside0.mk (Kd.R_elder' (by (with_reducible repeat (first | apply Kd.R_alloc | apply Kd.R_drewN | apply Kd.R_drew)); exact HO486.out) (Kd.R_base ho0) hb); replace HO490 := Aside0.mk (Kd.R_elder' (by (with_reducible repeat (first | apply Kd.R_alloc | apply Kd.R_drewN | apply Kd.R_drew)); exact HO490.out) (Kd.R_base ho0) hb); replace HB := Aside0.mk (below_step (by repeat (first | exact HB.out | apply below_alloc | apply pw_below_drewN | apply below_drew1)) hb); (try clear hb); (try clear hb2); (try clear hk); (try clear hi); (try clear ho0)) | ((with_reducible refine gate_callee (f := 38) rfl ?_); refine goesL_ (some 262) rfl rfl Try.func38 (by kernel_rfl) rfl #[.int .i64 t482] rfl (by (try simp only [List.map_toArray, List.map_cons, List.map_nil]); first | done | rfl) ?_; (with_reducible refine (spec_FlatOf.calls kj101 t482 t495 t496 _ A144.out).mono ?_); rintro e w150 ⟨v497, rfl, ho0, hb⟩; refine ⟨_, rfl, ?_⟩; have HO498 := Aside0.mk (Kd.R_lower (Kd.R_new' (Kd.R_new' (Kd.R_new' (Kd.R_new' (Kd.R_new' ho0 (Kd.R_lt (by (with_reducible repeat (first | apply Kd.R_alloc | apply Kd.R_drewN | apply Kd.R_drew)); exact HO_5.out))) (Kd.R_lt (by (with_reducible repeat (first | apply Kd.R_alloc | apply Kd.R_drewN | apply Kd.R_drew)); exact HO_7.out))) (Kd.R_lt (by (with_reducible repeat (first | apply Kd.R_alloc | apply Kd.R_drewN | apply Kd.R_drew)); exact HO486.out))) (Kd.R_lt (by (with_reducible repeat (first | apply Kd.R_alloc | apply Kd.R_drewN | apply Kd.R_drew)); exact HO490.out))) (Kd.R_lt (by (with_reducible repeat (first | apply Kd.R_alloc | apply Kd.R_drewN | apply Kd.R_drew)); exact HO494.out))) (below_size (by repeat (first | exact HB.out | apply below_alloc | apply pw_below_drewN | apply below_drew1)))); replace HO_5 := Aside0.mk (Kd.R_elder' (by (with_reducible repeat (first | apply Kd.R_alloc | apply Kd.R_drewN | apply Kd.R_drew)); exact HO_5.out) (Kd.R_base ho0) hb); replace HO_7 := Aside0.mk (Kd.R_elder' (by (with_reducible repeat (first | apply Kd.R_alloc | apply Kd.R_drewN | apply Kd.R_drew)); exact HO_7.out) (Kd.R_base ho0) hb); replace HO486 := Aside0.mk (Kd.R_elder' (by (with_reducible repeat (first | apply Kd.R_alloc | apply Kd.R_drewN | apply Kd.R_drew)); exact HO486.out) (Kd.R_base ho0) hb); replace HO490 := Aside0.mk (Kd.R_elder' (by (with_reducible repeat (first | apply Kd.R_alloc | apply Kd.R_drewN | apply Kd.R_drew)); exact HO490.out) (Kd.R_base ho0) hb); replace HO494 := Aside0.mk (Kd.R_elder' (by (with_reducible repeat (first | apply Kd.R_alloc | apply Kd.R_drewN | apply Kd.R_drew)); exact HO494.out) (Kd.R_base ho0) hb); replace HB := Aside0.mk (below_step (by repeat (first | exact HB.out | apply below_alloc | apply pw_below_drewN | apply below_drew1)) hb); (try clear hb); (try clear hb2); (try clear hk); (try clear hi); (try clear ho0)))
    (try simp only [Act.put, List.setIfInBounds_toArray, List.set_cons_zero, List.set_cons_succ])
    go_cut [284] (fun v284 wc => ∃ (kq : Nat) (x284_144 : Bool), v284 = .bool x284_144 ∧ Aside0 (laws_FnSystemsMoved.j6 kq t414 t415 t418 t423 t483 t484 t487 x284_144 = some r) ∧ Aside0 (kq ≤ kj101) ∧ Aside0 (Kd.R (Kd.int .i64) 3 wc w.heap.size (fun k_ => some k_ ≠ (v420 : Value).ownBlock ∧ some k_ ≠ (v485 : Value).ownBlock ∧ some k_ ≠ (v489 : Value).ownBlock) (.slice Ao10 t414.length co10) t414) ∧ Aside0 (Kd.R (Kd.int .i64) 3 wc w.heap.size (fun k_ => some k_ ≠ ((.slice Ao10 t414.length co10) : Value).ownBlock ∧ some k_ ≠ (v485 : Value).ownBlock ∧ some k_ ≠ (v489 : Value).ownBlock) v420 t418) ∧ Aside0 (Kd.R (Kd.int .i64) 3 wc w.heap.size (fun k_ => some k_ ≠ ((.slice Ao10 t414.length co10) : Value).ownBlock ∧ some k_ ≠ (v420 : Value).ownBlock ∧ some k_ ≠ (v489 : Value).ownBlock) v485 t483) ∧ Aside0 (Kd.R (Kd.int .i64) 3 wc w.heap.size (fun k_ => some k_ ≠ ((.slice Ao10 t414.length co10) : Value).ownBlock ∧ some k_ ≠ (v420 : Value).ownBlock ∧ some k_ ≠ (v485 : Value).ownBlock) v489 t487) ∧ Aside0 (Below w.heap.size w wc))
    case first =>
      have H := HC145.out
      clear HC145
      by_cases c151 : (t484 != t492) = true
      · rw [if_pos c151] at H
        have c151b0 : (t484 != t492) = true := c151
        (try (have c151b1 : decide (t484 = t492) = false := by simpa using c151))
        (try (have c151b2 : (t484 == t492) = false := by simpa using c151))
        (try (have c151b3 : ¬ (t484 = t492) := by simpa using c151))
        clear c151
        (first | rw [c151b0] | (simp only [i64_w, i32_w]; rw [c151b0]) | skip)
        have H' := Aside0.mk H
        clear H
        go_wp2
        go_meet
        case rel => exact ⟨_, (true), (by first | rfl | (simp; done) | (simp [*]; done)), H', ⟨by have := HJ7.out; have := HJ20.out; have := HJ31.out; have := HJ66.out; have := HJ87.out; have := HJ101.out; first | omega | exact Nat.le_refl _⟩, ⟨by (with_reducible repeat (first | apply Kd.R_alloc | apply Kd.R_drewN | apply Kd.R_drew)); exact Kd.R_mono HO_5.out (fun _ hk => ⟨hk.1.1.1.1, ⟨hk.1.1.1.2, hk.1.1.2⟩⟩)⟩, ⟨by (with_reducible repeat (first | apply Kd.R_alloc | apply Kd.R_drewN | apply Kd.R_drew)); exact Kd.R_mono HO_7.out (fun _ hk => ⟨hk.1.1.1.1, ⟨hk.1.1.1.2, hk.1.1.2⟩⟩)⟩, ⟨by (with_reducible repeat (first | apply Kd.R_alloc | apply Kd.R_drewN | apply Kd.R_drew)); exact Kd.R_mono HO486.out (fun _ hk => ⟨hk.1.1.1.1.2, ⟨hk.1.1.1.2, hk.1.1.2⟩⟩)⟩, ⟨by (with_reducible repeat (first | apply Kd.R_alloc | apply Kd.R_drewN | apply Kd.R_drew)); exact Kd.R_mono HO490.out (fun _ hk => ⟨hk.1.1.1.1.2, ⟨hk.1.1.1.2, hk.1.1.2⟩⟩)⟩, ⟨by repeat (first | exact HB.out | apply below_alloc | apply pw_below_drewN | apply below_drew1)⟩⟩
      · rw [if_neg c151] at H
        have c151b0 : (t484 != t492) = false := by simpa using c151
        (try (have c151b1 : decide (t484 = t492) = true := by simpa using c151))
        (try (have c151b2 : (t484 == t492) = true := by simpa using c151))
        clear c151
        (first | rw [c151b0] | (simp only [i64_w, i32_w]; rw [c151b0]) | skip)
        by_cases c152 : (t488 != t496) = true
        · rw [if_pos c152] at H
          have c152b0 : (t488 != t496) = true := c152
          (try (have c152b1 : decide (t488 = t496) = false := by simpa using c152))
          (try (have c152b2 : (t488 == t496) = false := by simpa using c152))
          (try (have c152b3 : ¬ (t488 = t496) := by simpa using c152))
          clear c152
          have H' := Aside0.mk H
          clear H
          go_wp2
          go_meet
          case rel => exact ⟨_, (true), (by first | rfl | (simp; done) | (simp [*]; done)), H', ⟨by have := HJ7.out; have := HJ20.out; have := HJ31.out; have := HJ66.out; have := HJ87.out; have := HJ101.out; first | omega | exact Nat.le_refl _⟩, ⟨by (with_reducible repeat (first | apply Kd.R_alloc | apply Kd.R_drewN | apply Kd.R_drew)); exact Kd.R_mono HO_5.out (fun _ hk => ⟨hk.1.1.1.1, ⟨hk.1.1.1.2, hk.1.1.2⟩⟩)⟩, ⟨by (with_reducible repeat (first | apply Kd.R_alloc | apply Kd.R_drewN | apply Kd.R_drew)); exact Kd.R_mono HO_7.out (fun _ hk => ⟨hk.1.1.1.1, ⟨hk.1.1.1.2, hk.1.1.2⟩⟩)⟩, ⟨by (with_reducible repeat (first | apply Kd.R_alloc | apply Kd.R_drewN | apply Kd.R_drew)); exact Kd.R_mono HO486.out (fun _ hk => ⟨hk.1.1.1.1.2, ⟨hk.1.1.1.2, hk.1.1.2⟩⟩)⟩, ⟨by (with_reducible repeat (first | apply Kd.R_alloc | apply Kd.R_drewN | apply Kd.R_drew)); exact Kd.R_mono HO490.out (fun _ hk => ⟨hk.1.1.1.1.2, ⟨hk.1.1.1.2, hk.1.1.2⟩⟩)⟩, ⟨by repeat (first | exact HB.out | apply below_alloc | apply pw_below_drewN | apply below_drew1)⟩⟩
        · rw [if_neg c152] at H
          have c152b0 : (t488 != t496) = false := by simpa using c152
          (try (have c152b1 : decide (t488 = t496) = true := by simpa using c152))
          (try (have c152b2 : (t488 == t496) = true := by simpa using c152))
          clear c152
          replace H := Option.bind_eq_some_iff.mp H
          obtain ⟨t499, A1530, H⟩ := H
          replace H : (if t499 = true then ((laws_sSame.f kj101 t487 t495).bind fun t500 => (laws_FnSystemsMoved.j6 kj101 t414 t415 t418 t423 t483 t484 t487 (!t500))) else (laws_FnSystemsMoved.j6 kj101 t414 t415 t418 t423 t483 t484 t487 true)) = some r := H
          have A153 := Aside0.mk A1530
          clear A1530
          by_cases c154 : t499 = true
          · subst c154
            have H1 : ((laws_sSame.f kj101 t487 t495).bind fun t500 => (laws_FnSystemsMoved.j6 kj101 t414 t415 t418 t423 t483 t484 t487 (!t500))) = some r := by rw [if_pos rfl] at H; exact H
            clear H
            have H := H1
            clear H1
            replace H := Option.bind_eq_some_iff.mp H
            obtain ⟨t500, A1550, H⟩ := H
            replace H : (laws_FnSystemsMoved.j6 kj101 t414 t415 t418 t423 t483 t484 t487 (!t500)) = some r := H
            have A155 := Aside0.mk A1550
            clear A1550
            have H' := Aside0.mk H
            clear H
            obtain ⟨Ao156, co156, eo156⟩ := Kd.R_slice HO486.out
            subst eo156
            obtain ⟨Ao157, co157, eo157⟩ := Kd.R_slice HO494.out
            subst eo157
            go_wp2_with (first | (go_at_call 10; (with_reducible refine (laws_sSame.calls kj101 _ _ t483 _ _ t491 true _ ?side1 ?side2 ?side3 ?side4 A153.out).mono ?_); (case side1 => repeat (first | exact (Kd.R_reads' HO486.out).2.2 | (with_reducible refine Kd.C_alloc ?_ _) | (with_reducible refine Kd.C_drewN ?_ _) | (with_reducible refine Kd.C_drew ?_))); (case side2 => exact (Kd.R_reads' HO486.out).2.1); (case side3 => repeat (first | exact (Kd.R_reads' HO494.out).2.2 | (with_reducible refine Kd.C_alloc ?_ _) | (with_reducible refine Kd.C_drewN ?_ _) | (with_reducible refine Kd.C_drew ?_))); (case side4 => exact (Kd.R_reads' HO494.out).2.1); rintro e w' ⟨rfl, ⟨nd, rfl⟩⟩; obtain ⟨Ao158, co158, eo158⟩ := Kd.R_slice HO490.out; subst eo158; obtain ⟨Ao159, co159, eo159⟩ := Kd.R_slice HO498.out; subst eo159) | (go_at_call 10; (with_reducible refine (laws_sSame.calls kj101 _ _ t487 _ _ t495 t500 _ ?side1 ?side2 ?side3 ?side4 A155.out).mono ?_); (case side1 => repeat (first | exact (Kd.R_reads' HO490.out).2.2 | (with_reducible refine Kd.C_alloc ?_ _) | (with_reducible refine Kd.C_drewN ?_ _) | (with_reducible refine Kd.C_drew ?_))); (case side2 => exact (Kd.R_reads' HO490.out).2.1); (case side3 => repeat (first | exact (Kd.R_reads' HO498.out).2.2 | (with_reducible refine Kd.C_alloc ?_ _) | (with_reducible refine Kd.C_drewN ?_ _) | (with_reducible refine Kd.C_drew ?_))); (case side4 => exact (Kd.R_reads' HO498.out).2.1); rintro e w' ⟨rfl, ⟨nd, rfl⟩⟩))
            go_meet
            case rel => exact ⟨_, (!t500), (by first | rfl | (simp; done) | (simp [*]; done)), H', ⟨by have := HJ7.out; have := HJ20.out; have := HJ31.out; have := HJ66.out; have := HJ87.out; have := HJ101.out; first | omega | exact Nat.le_refl _⟩, ⟨by (with_reducible repeat (first | apply Kd.R_alloc | apply Kd.R_drewN | apply Kd.R_drew)); exact Kd.R_mono HO_5.out (fun _ hk => ⟨hk.1.1.1.1, ⟨hk.1.1.1.2, hk.1.1.2⟩⟩)⟩, ⟨by (with_reducible repeat (first | apply Kd.R_alloc | apply Kd.R_drewN | apply Kd.R_drew)); exact Kd.R_mono HO_7.out (fun _ hk => ⟨hk.1.1.1.1, ⟨hk.1.1.1.2, hk.1.1.2⟩⟩)⟩, ⟨by (with_reducible repeat (first | apply Kd.R_alloc | apply Kd.R_drewN | apply Kd.R_drew)); exact Kd.R_mono HO486.out (fun _ hk => ⟨hk.1.1.1.1.2, ⟨hk.1.1.1.2, hk.1.1.2⟩⟩)⟩, ⟨by (with_reducible repeat (first | apply Kd.R_alloc | apply Kd.R_drewN | apply Kd.R_drew)); exact Kd.R_mono HO490.out (fun _ hk => ⟨hk.1.1.1.1.2, ⟨hk.1.1.1.2, hk.1.1.2⟩⟩)⟩, ⟨by repeat (first | exact HB.out | apply below_alloc | apply pw_below_drewN | apply below_drew1)⟩⟩
          · replace c154 := Bool.eq_false_iff.mpr c154
            subst c154
            have H1 : (laws_FnSystemsMoved.j6 kj101 t414 t415 t418 t423 t483 t484 t487 true) = some r := by rw [if_neg (show ¬ (false = true) by decide)] at H; exact H
            rw [hr_] at H1; exact absurd H1 (laws_FnSystemsMoved.j6_no _ _ _ _ _ _ _ _)
    case rest =>
     rename_i K1_ a1_ K2_ a2_
     exact laws_FnSystemsMoved.part6 k A0 c0 l0 A1 c1 l1 r w hr_ t414 t415 t418 t419 t423 nd Ao10 co10 v420 v424 kj7 HJ7 t427 t428 t434 t438 Ao23 co23 Ao24 co24 v435 v439 kj20 HJ20 u17 u18 u19 u20 u21 u22 kj31 HJ31 t448 t452 t456 t460 t464 Ao69 co69 v453 v457 v461 v465 kj66 HJ66 u32 u33 kj87 HJ87 u4 u34 u35 u36 u37 u38 u39 kj101 HJ101 t482 t483 t484 t487 t488 t491 t492 t495 t496 HC145 v485 v489 v493 w150 v497 HO_5 HO_7 HB wc u61 u62 u63 u64 u65 u66 u67 u68 u69 u70 u71 u72 u73 u74 u75 u76 u77 u78 u79 u80 u81 u82 u83 u84 u85 u86 u87 u88 u89 u90 u91 u92 u93 u94 u95 u96 u97 u98 u99 u100 u101 u102 u103 u104 u105 u106 u107 u108 u109 u110 u111 u112 u113 u114 u115 u116 u117 u118 u119 u120 u121 u122 u123 u124 u125 u126 u127 u128 u129 u130 u131 u132 u133 u134 u135 u136 u137 u138 u139 u140 u141 u142 u143 u144 u145 u146 u147 u148 u149 u150 u151 u152 u153 u154 u155 u156 u157 u158 u159 u160 u161 u162 u163 u164 u165 u166 u167 u168 u169 u170 u171 u172 u173 u174 u175 u176 u177 u178 u179 u180 u181 u182 u183 u184 u185 u186 u187 u188 u189 u190 u191 u192 u193 u194 u195 u196 u197 u198 u199 u200 u201 u202 u203 u204 u205 u206 u207 u208 u209 u210 u211 u212 u213 u214 u215 u216 u217 u218 u219 u220 u221 u222 u223 u224 u225 u226 u227 u228 u229 u230 u231 u232 u233 u234 u235 u236 u237 u238 u239 u240 u241 u242 u243 u244 u245 u246 u247 u248 u249 u250 u251 u252 u253 u254 u255 u256 u257 u258 u259 u260 u261 u262 u263 u264 u265 u266 u267 u268 u269 u270 u271 u272 u273 u274 u275 u276 u277 u278 u279 u280 u281 u282 u283 u284 u285 u286 u287 u288 u289 u290 u291 u292 u293 u294 u295 u296 u297 u298 u299 u300 u301 u302 u303 u304 u305 u306 u307 u308 u309 u310 u311 u312 u313 u314 u315 u316 u317 u318 u319 u320 u321 u322 u326 u327 u328 u329 u330 u331 u332 u333 u334 u335 u336 u337 u338 u339 u340 u341 u342 u343 u344 u345 u346 u347 u348 u349 u350 u351 u352 u353 u354 u355 u356 u357 u358 u359 u360 u361 u362 u363 u364 u365 u366 u367 K1_ a1_ K2_ a2_ hcut

end Go.Proofs.Ytonobgbpgeielaa.QFnSystemsMoved
