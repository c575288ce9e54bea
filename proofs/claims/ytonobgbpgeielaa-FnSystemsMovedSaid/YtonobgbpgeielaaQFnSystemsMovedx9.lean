-- Written by wip/myprint.py (a program of mine round the kit's printer). Lean checks it.
import Derived.Test.YtonobgbpgeielaaQFnSystemsMovedx8
namespace Go.Proofs.Ytonobgbpgeielaa.QFnSystemsMoved
open Go.RowKit Go.Proofs.YtonobgbpgeielaaW.PrintWords Go.Proofs.YtonobgbpgeielaaW.PrintLast Go.Proofs.YtonobgbpgeielaaW.PrintMore
attribute [local go_sem] max2_int min2_int max_two min_two max_three min_three max_four min_four   -- for this text's walks alone
set_option linter.unusedVariables false
set_option linter.unusedSimpArgs false

noncomputable def laws_FnSystemsMoved.part8.rest : Code := ((Try.f4.body.bind (laws_FnSystemsMoved.findRest 55)).getD .skip)
set_option maxHeartbeats 8000000 in
set_option maxRecDepth 1000000 in
theorem laws_FnSystemsMoved.part8 (A0 : Option Addr) (c0 : Nat) (l0 : List Int) (A1 : Option Addr) (c1 : Nat) (l1 : List Int) (r : Bool) (w : World) (hr_ : r = true) (t414 : List Int) (t415 : Int) (t418 : List Int) (t419 t423 : Bool) (nd : Nat) (Ao10 : Option Addr) (co10 : Nat) (v420 v424 : Value) (t427 t428 : List Int) (t434 t438 : Bool) (Ao23 : Option Addr) (co23 : Nat) (Ao24 : Option Addr) (co24 : Nat) (v435 v439 : Value) (u17 u18 : Value) (u19 u20 : Value) (u21 u22 : Value) (t448 : List Int) (t452 t456 : Bool) (t460 t464 : Bool) (Ao69 : Option Addr) (co69 : Nat) (v453 v457 : Value) (v461 v465 : Value) (u32 u33 : Value) (u34 u35 : Value) (u36 u37 : Value) (u38 u39 : Value) (t482 : Int) (t483 : List Int) (t484 : Bool) (t487 : List Int) (t488 t492 t496 : Bool) (v485 v489 : Value) (v493 v497 : Value) (kj144 : Nat) (HC163 : Aside0 ((if t484 = true then (impl_MirrorSystem.f kj144 t483).bind fun bt501 => (impl_MirrorSystem.f kj144 t487).bind fun bt505 => (impl_DepthsOf.f kj144 t483).bind fun bt509 => if bt501.snd = true then if bt505.snd = true then if bt509.snd = true then (laws_sSame.f kj144 bt501.fst t483).bind fun t513 => if t513 = true then (laws_sSame.f kj144 bt505.fst t487).bind fun t514 => j7 kj144 t414 t415 t418 t423 bt509.fst !t514 else j7 kj144 t414 t415 t418 t423 bt509.fst true else j7 kj144 t414 t415 t418 t423 bt509.fst true else j7 kj144 t414 t415 t418 t423 bt509.fst true else j7 kj144 t414 t415 t418 t423 bt509.fst true else j9 kj144 t414 t415 t418 t423) = some r)) (wc : World) (u4 u49 : Value) (u50 u51 : Value) (u52 u53 : Value) (u54 u55 : Value) (u56 u61 : Value) (u62 u63 : Value) (u64 u65 : Value) (u66 u67 : Value) (u68 u69 : Value) (u70 u71 : Value) (u72 u73 : Value) (u74 u75 : Value) (u76 u77 : Value) (u78 u79 : Value) (u80 u81 : Value) (u82 u83 : Value) (u84 u85 : Value) (u86 u87 : Value) (u88 u89 : Value) (u90 u91 : Value) (u92 u93 : Value) (u94 u95 : Value) (u96 u97 : Value) (u98 u99 : Value) (u100 u101 : Value) (u102 u103 : Value) (u104 u105 : Value) (u106 u107 : Value) (u108 u109 : Value) (u110 u111 : Value) (u112 u113 : Value) (u114 u115 : Value) (u116 u117 : Value) (u118 u119 : Value) (u120 u121 : Value) (u122 u123 : Value) (u124 u125 : Value) (u126 u127 : Value) (u128 u129 : Value) (u130 u131 : Value) (u132 u133 : Value) (u134 u135 : Value) (u136 u137 : Value) (u138 u139 : Value) (u140 u141 : Value) (u142 u143 : Value) (u144 u145 : Value) (u146 u147 : Value) (u148 u149 : Value) (u150 u151 : Value) (u152 u153 : Value) (u154 u155 : Value) (u156 u157 : Value) (u158 u159 : Value) (u160 u161 : Value) (u162 u163 : Value) (u164 u165 : Value) (u166 u167 : Value) (u168 u169 : Value) (u170 u171 : Value) (u172 u173 : Value) (u174 u175 : Value) (u176 u177 : Value) (u178 u179 : Value) (u180 u181 : Value) (u182 u183 : Value) (u184 u185 : Value) (u186 u187 : Value) (u188 u189 : Value) (u190 u191 : Value) (u192 u193 : Value) (u194 u195 : Value) (u196 u197 : Value) (u198 u199 : Value) (u200 u201 : Value) (u202 u203 : Value) (u204 u205 : Value) (u206 u207 : Value) (u208 u209 : Value) (u210 u211 : Value) (u212 u213 : Value) (u214 u215 : Value) (u216 u217 : Value) (u218 u219 : Value) (u220 u221 : Value) (u222 u223 : Value) (u224 u225 : Value) (u226 u227 : Value) (u228 u229 : Value) (u230 u231 : Value) (u232 u233 : Value) (u234 u235 : Value) (u236 u237 : Value) (u238 u239 : Value) (u240 u241 : Value) (u242 u243 : Value) (u244 u245 : Value) (u246 u247 : Value) (u248 u249 : Value) (u250 u251 : Value) (u252 u253 : Value) (u254 u255 : Value) (u256 u257 : Value) (u258 u259 : Value) (u260 u261 : Value) (u262 u263 : Value) (u264 u265 : Value) (u266 u267 : Value) (u268 u269 : Value) (u270 u271 : Value) (u272 u273 : Value) (u274 u275 : Value) (u276 u277 : Value) (u278 u279 : Value) (u280 u281 : Value) (u282 u283 : Value) (u284 u285 : Value) (u286 u287 : Value) (u288 u289 : Value) (u290 u291 : Value) (u292 u293 : Value) (u294 u295 : Value) (u296 u297 : Value) (u298 u299 : Value) (u300 u301 : Value) (u302 u303 : Value) (u304 u305 : Value) (u306 u307 : Value) (u308 u309 : Value) (u310 u311 : Value) (u312 u313 : Value) (u314 u315 : Value) (u316 u317 : Value) (u318 u319 : Value) (u320 u321 : Value) (u322 u323 : Value) (u324 u325 : Value) (u326 u327 : Value) (u328 u329 : Value) (u330 u331 : Value) (u332 u333 : Value) (u334 u335 : Value) (u336 u337 : Value) (u338 u339 : Value) (u340 u341 : Value) (u342 u343 : Value) (u344 u345 : Value) (u346 u347 : Value) (u348 u349 : Value) (u350 u351 : Value) (u352 u353 : Value) (u354 u355 : Value) (u356 u357 : Value) (u358 u359 : Value) (u360 u361 : Value) (u362 u363 : Value) (u364 u365 : Value) (u366 u367 : Value) (K1_ : Act → World → Prop) (a1_ : ∀ (a_ : Act) (w_ : World), Code.wp Try.prog laws_FnSystemsMoved.part8.rest (bodyPost Try.prog Try.f4 fun e w' => e = Ending.returned (Value.bool r) ∧ Below w.heap.size w w') a_ w_ → K1_ a_ w_) (hcut : ∃ kq, Aside0 (j9 kq t414 t415 t418 t423 = some r) ∧ Aside0 (kq ≤ kj144) ∧ Aside0 ((Kd.int IntKind.i64).R 3 wc w.heap.size (fun k_ => some k_ ≠ v420.ownBlock) (Value.slice Ao10 t414.length co10) t414) ∧ Aside0 ((Kd.int IntKind.i64).R 3 wc w.heap.size (fun k_ => some k_ ≠ (Value.slice Ao10 t414.length co10).ownBlock) v420 t418) ∧ Aside0 (Below w.heap.size w wc)) :
    K1_ { tmps := #[Value.slice A0 l0.length c0, Value.slice A1 l1.length c1, undef, undef, u4, Value.slice Ao10 t414.length co10, Value.int IntKind.i64 t415, v420, Value.bool t419, v424, Value.bool t423, Value.slice Ao23 t427.length co23, Value.slice Ao24 t428.length co24, v435, Value.bool t434, v439, Value.bool t438, u17, u18, u19, u20, u21, u22, Value.slice Ao69 t448.length co69, v453, Value.bool t452, v457, Value.bool t456, v461, Value.bool t460, v465, Value.bool t464, u32, u33, u34, u35, u36, u37, u38, u39, Value.int IntKind.i64 t482, v485, Value.bool t484, v489, Value.bool t488, v493, Value.bool t492, v497, Value.bool t496, u49, u50, u51, u52, u53, u54, u55, u56, undef, undef, undef, undef, u61, u62, u63, u64, u65, u66, u67, u68, u69, u70, u71, u72, u73, u74, u75, u76, u77, u78, u79, u80, u81, u82, u83, u84, u85, u86, u87, u88, u89, u90, u91, u92, u93, u94, u95, u96, u97, u98, u99, u100, u101, u102, u103, u104, u105, u106, u107, u108, u109, u110, u111, u112, u113, u114, u115, u116, u117, u118, u119, u120, u121, u122, u123, u124, u125, u126, u127, u128, u129, u130, u131, u132, u133, u134, u135, u136, u137, u138, u139, u140, u141, u142, u143, u144, u145, u146, u147, u148, u149, u150, u151, u152, u153, u154, u155, u156, u157, u158, u159, u160, u161, u162, u163, u164, u165, u166, u167, u168, u169, u170, u171, u172, u173, u174, u175, u176, u177, u178, u179, u180, u181, u182, u183, u184, u185, u186, u187, u188, u189, u190, u191, u192, u193, u194, u195, u196, u197, u198, u199, u200, u201, u202, u203, u204, u205, u206, u207, u208, u209, u210, u211, u212, u213, u214, u215, u216, u217, u218, u219, u220, u221, u222, u223, u224, u225, u226, u227, u228, u229, u230, u231, u232, u233, u234, u235, u236, u237, u238, u239, u240, u241, u242, u243, u244, u245, u246, u247, u248, u249, u250, u251, u252, u253, u254, u255, u256, u257, u258, u259, u260, u261, u262, u263, u264, u265, u266, u267, u268, u269, u270, u271, u272, u273, u274, u275, u276, u277, u278, u279, u280, u281, u282, u283, u284, u285, u286, u287, u288, u289, u290, u291, u292, u293, u294, u295, u296, u297, u298, u299, u300, u301, u302, u303, u304, u305, u306, u307, u308, u309, u310, u311, u312, u313, u314, u315, u316, u317, u318, u319, u320, u321, u322, u323, u324, u325, u326, u327, u328, u329, u330, u331, u332, u333, u334, u335, u336, u337, u338, u339, u340, u341, u342, u343, u344, u345, u346, u347, u348, u349, u350, u351, u352, u353, u354, u355, u356, u357, u358, u359, u360, u361, u362, u363, u364, u365, u366, u367], defers := [] } wc := by
  obtain ⟨c_, hc_⟩ : ∃ c_, c_ = laws_FnSystemsMoved.part8.rest := ⟨_, rfl⟩
  rw [← hc_] at a1_
  conv at hc_ =>
    rhs
    whnf
  subst hc_
  clear HC163
  try clear c1
  try clear c2
  try clear p2
  try clear c3
  try clear c4
  try clear p5
  try clear q5
  try clear hx5
  try clear c6
  try clear p6
  try clear c7
  try clear c8
  try clear c9
  try clear c10
  try clear c11
  try clear c13
  try clear c13b0
  try clear c13b1
  try clear c13b2
  try clear c15
  try clear c16
  try clear c17
  try clear c18
  try clear c22
  try clear c23
  try clear c24
  try clear c25
  try clear c26
  try clear c27
  try clear c27b0
  try clear c27b1
  try clear c27b2
  try clear c28
  try clear c29
  try clear c30
  try clear c31
  try clear c32
  try clear c33
  try clear c34
  try clear c35
  try clear c36
  try clear c37
  try clear c38
  try clear c39
  try clear c40
  try clear c40b0
  try clear c40b1
  try clear c40b2
  try clear c41
  try clear c41b0
  try clear c41b1
  try clear p51
  try clear q51
  try clear hx51
  try clear p64
  try clear c74
  try clear c74b0
  try clear c74b1
  try clear c74b2
  try clear c76
  try clear c77
  try clear c77b0
  try clear c77b1
  try clear c77b2
  try clear c87
  try clear c89
  try clear c91
  try clear c93
  try clear c103
  try clear c107
  try clear c108
  try clear c109
  try clear c109b0
  try clear c109b1
  try clear c109b2
  try clear c110
  try clear c110b0
  try clear c110b1
  try clear c110b2
  try clear c111
  try clear c111b0
  try clear c111b1
  try clear c112
  try clear c113
  try clear c113b0
  try clear c113b1
  try clear c151
  try clear c151b0
  try clear c151b1
  try clear c151b2
  try clear c152
  try clear c152b0
  try clear c152b1
  try clear c152b2
  try clear c154
  try clear c162
  try clear c164
  try clear c174
  try clear c175
  try clear c176
  try clear c178
  try clear c183
  try clear c185
  try clear c185b0
  try clear c186
  try clear c186b0
  try clear c187
  try clear c187b0
  try clear c188
  try clear c188b0
  try clear c188b1
  try clear hx515_0
  try clear p2
  try clear p515
  try clear q515
  obtain ⟨kq, HA, HJ162, HO_5, HO_7, HB⟩ := hcut
  cases kq with
  | zero => exact absurd HA.out (by simp [laws_FnSystemsMoved.j9])
  | succ kj162 =>
    have H := HA.out
    clear HA
    simp only [laws_FnSystemsMoved.j9] at H
    by_cases c189 : t423 = true
    · subst c189
      have H1 : ((impl_TurnSystem.f kj162 t418 (wrap64 (-t415))).bind fun bt516 => ((impl_TurnSystem.f kj162 t414 (t414.length : Int)).bind fun bt520 => (if bt516.2 = true then (if bt520.2 = true then ((impl_IsSystem.f kj162 t418).bind fun t524 => (if t524 = true then ((laws_sSame.f kj162 bt516.1 t414).bind fun t525 => (if t525 = true then ((laws_sSame.f kj162 bt520.1 t414).bind fun t526 => (some t526)) else (some false))) else (some false))) else (some false)) else (some false)))) = some r := by rw [if_pos rfl] at H; exact H
      clear H
      have H := H1
      clear H1
      replace H := Option.bind_eq_some_iff.mp H
      obtain ⟨⟨t516, t517⟩, A1900, H⟩ := H
      replace H : ((impl_TurnSystem.f kj162 t414 (t414.length : Int)).bind fun bt520 => (if t517 = true then (if bt520.2 = true then ((impl_IsSystem.f kj162 t418).bind fun t524 => (if t524 = true then ((laws_sSame.f kj162 t516 t414).bind fun t525 => (if t525 = true then ((laws_sSame.f kj162 bt520.1 t414).bind fun t526 => (some t526)) else (some false))) else (some false))) else (some false)) else (some false))) = some r := H
      have A190 := Aside0.mk A1900
      clear A1900
      replace H := Option.bind_eq_some_iff.mp H
      obtain ⟨⟨t520, t521⟩, A1910, H⟩ := H
      replace H : (if t517 = true then (if t521 = true then ((impl_IsSystem.f kj162 t418).bind fun t524 => (if t524 = true then ((laws_sSame.f kj162 t516 t414).bind fun t525 => (if t525 = true then ((laws_sSame.f kj162 t520 t414).bind fun t526 => (some t526)) else (some false))) else (some false))) else (some false)) else (some false)) = some r := H
      have A191 := Aside0.mk A1910
      clear A1910
      by_cases c192 : t517 = true
      · subst c192
        have H1 : (if t521 = true then ((impl_IsSystem.f kj162 t418).bind fun t524 => (if t524 = true then ((laws_sSame.f kj162 t516 t414).bind fun t525 => (if t525 = true then ((laws_sSame.f kj162 t520 t414).bind fun t526 => (some t526)) else (some false))) else (some false))) else (some false)) = some r := by rw [if_pos rfl] at H; exact H
        clear H
        have H := H1
        clear H1
        by_cases c193 : t521 = true
        · subst c193
          have H1 : ((impl_IsSystem.f kj162 t418).bind fun t524 => (if t524 = true then ((laws_sSame.f kj162 t516 t414).bind fun t525 => (if t525 = true then ((laws_sSame.f kj162 t520 t414).bind fun t526 => (some t526)) else (some false))) else (some false))) = some r := by rw [if_pos rfl] at H; exact H
          clear H
          have H := H1
          clear H1
          replace H := Option.bind_eq_some_iff.mp H
          obtain ⟨t524, A1940, H⟩ := H
          replace H : (if t524 = true then ((laws_sSame.f kj162 t516 t414).bind fun t525 => (if t525 = true then ((laws_sSame.f kj162 t520 t414).bind fun t526 => (some t526)) else (some false))) else (some false)) = some r := H
          have A194 := Aside0.mk A1940
          clear A1940
          by_cases c195 : t524 = true
          · subst c195
            have H1 : ((laws_sSame.f kj162 t516 t414).bind fun t525 => (if t525 = true then ((laws_sSame.f kj162 t520 t414).bind fun t526 => (some t526)) else (some false))) = some r := by rw [if_pos rfl] at H; exact H
            clear H
            have H := H1
            clear H1
            replace H := Option.bind_eq_some_iff.mp H
            obtain ⟨t525, A1960, H⟩ := H
            replace H : (if t525 = true then ((laws_sSame.f kj162 t520 t414).bind fun t526 => (some t526)) else (some false)) = some r := H
            have A196 := Aside0.mk A1960
            clear A1960
            by_cases c197 : t525 = true
            · subst c197
              have H1 : ((laws_sSame.f kj162 t520 t414).bind fun t526 => (some t526)) = some r := by rw [if_pos rfl] at H; exact H
              clear H
              have H := H1
              clear H1
              replace H := Option.bind_eq_some_iff.mp H
              obtain ⟨t526, A1980, H⟩ := H
              replace H : (some t526) = some r := H
              have A198 := Aside0.mk A1980
              clear A1980
              have hrr_ := Option.some.inj H
              rw [hr_] at hrr_
              first
                | exact absurd hrr_ (by decide)
                | (clear hrr_
                   obtain rfl := Option.some.inj H
                   obtain ⟨Ao199, co199, eo199⟩ := Kd.R_slice HO_7.out
                   subst eo199
                   go_wp2_with (first | ((with_reducible refine gate_callee (f := 23) rfl ?_); refine goesL_ (some 340) rfl rfl Try.func23 (by kernel_rfl) rfl #[.slice Ao199 t418.length co199, .int .i64 (wrap64 (-t415))] rfl (by (try simp only [List.map_toArray, List.map_cons, List.map_nil]); first | done | rfl) ?_; (with_reducible refine (impl_TurnSystem.calls kj162 _ _ t418 (wrap64 (-t415)) t516 true _ ?side1 ?side2 A190.out).mono ?_); (case side1 => repeat (first | exact (Kd.R_reads' HO_7.out).2.2 | (with_reducible refine Kd.C_alloc ?_ _) | (with_reducible refine Kd.C_drewN ?_ _) | (with_reducible refine Kd.C_drew ?_))); (case side2 => exact (Kd.R_reads' HO_7.out).2.1); rintro e w200 ⟨v518, rfl, ho0, hb⟩; refine ⟨_, rfl, ?_⟩; have HO519 := Aside0.mk (Kd.R_lower (Kd.R_new' (Kd.R_new' ho0 (Kd.R_lt (by (with_reducible repeat (first | apply Kd.R_alloc | apply Kd.R_drewN | apply Kd.R_drew)); exact HO_5.out))) (Kd.R_lt (by (with_reducible repeat (first | apply Kd.R_alloc | apply Kd.R_drewN | apply Kd.R_drew)); exact HO_7.out))) (below_size (by repeat (first | exact HB.out | apply below_alloc | apply pw_below_drewN | apply below_drew1)))); replace HO_5 := Aside0.mk (Kd.R_elder' (by (with_reducible repeat (first | apply Kd.R_alloc | apply Kd.R_drewN | apply Kd.R_drew)); exact HO_5.out) (Kd.R_base ho0) hb); replace HO_7 := Aside0.mk (Kd.R_elder' (by (with_reducible repeat (first | apply Kd.R_alloc | apply Kd.R_drewN | apply Kd.R_drew)); exact HO_7.out) (Kd.R_base ho0) hb); replace HB := Aside0.mk (below_step (by repeat (first | exact HB.out | apply below_alloc | apply pw_below_drewN | apply below_drew1)) hb); (try clear hb); (try clear hb2); (try clear hk); (try clear hi); (try clear ho0)) | ((with_reducible refine gate_callee (f := 23) rfl ?_); refine goesL_ (some 347) rfl rfl Try.func23 (by kernel_rfl) rfl #[.slice Ao10 t414.length co10, .int .i64 (t414.length : Int)] rfl (by (try simp only [List.map_toArray, List.map_cons, List.map_nil]); first | done | rfl) ?_; (with_reducible refine (impl_TurnSystem.calls kj162 _ _ t414 (t414.length : Int) t520 true _ ?side1 ?side2 A191.out).mono ?_); (case side1 => repeat (first | exact (Kd.R_reads' HO_5.out).2.2 | (with_reducible refine Kd.C_alloc ?_ _) | (with_reducible refine Kd.C_drewN ?_ _) | (with_reducible refine Kd.C_drew ?_))); (case side2 => exact (Kd.R_reads' HO_5.out).2.1); rintro e w201 ⟨v522, rfl, ho0, hb⟩; refine ⟨_, rfl, ?_⟩; have HO523 := Aside0.mk (Kd.R_lower (Kd.R_new' (Kd.R_new' (Kd.R_new' ho0 (Kd.R_lt (by (with_reducible repeat (first | apply Kd.R_alloc | apply Kd.R_drewN | apply Kd.R_drew)); exact HO_5.out))) (Kd.R_lt (by (with_reducible repeat (first | apply Kd.R_alloc | apply Kd.R_drewN | apply Kd.R_drew)); exact HO_7.out))) (Kd.R_lt (by (with_reducible repeat (first | apply Kd.R_alloc | apply Kd.R_drewN | apply Kd.R_drew)); exact HO519.out))) (below_size (by repeat (first | exact HB.out | apply below_alloc | apply pw_below_drewN | apply below_drew1)))); replace HO_5 := Aside0.mk (Kd.R_elder' (by (with_reducible repeat (first | apply Kd.R_alloc | apply Kd.R_drewN | apply Kd.R_drew)); exact HO_5.out) (Kd.R_base ho0) hb); replace HO_7 := Aside0.mk (Kd.R_elder' (by (with_reducible repeat (first | apply Kd.R_alloc | apply Kd.R_drewN | apply Kd.R_drew)); exact HO_7.out) (Kd.R_base ho0) hb); replace HO519 := Aside0.mk (Kd.R_elder' (by (with_reducible repeat (first | apply Kd.R_alloc | apply Kd.R_drewN | apply Kd.R_drew)); exact HO519.out) (Kd.R_base ho0) hb); replace HB := Aside0.mk (below_step (by repeat (first | exact HB.out | apply below_alloc | apply pw_below_drewN | apply below_drew1)) hb); (try clear hb); (try clear hb2); (try clear hk); (try clear hi); (try clear ho0)) | (go_at_call 21; (with_reducible refine (impl_IsSystem.calls kj162 _ _ t418 true _ ?side1 ?side2 A194.out).mono ?_); (case side1 => repeat (first | exact (Kd.R_reads' HO_7.out).2.2 | (with_reducible refine Kd.C_alloc ?_ _) | (with_reducible refine Kd.C_drewN ?_ _) | (with_reducible refine Kd.C_drew ?_))); (case side2 => exact (Kd.R_reads' HO_7.out).2.1); rintro e w' ⟨rfl, ⟨nd, rfl⟩⟩; obtain ⟨Ao202, co202, eo202⟩ := Kd.R_slice HO519.out; subst eo202) | (go_at_call 10; (with_reducible refine (laws_sSame.calls kj162 _ _ t516 _ _ t414 true _ ?side1 ?side2 ?side3 ?side4 A196.out).mono ?_); (case side1 => repeat (first | exact (Kd.R_reads' HO519.out).2.2 | (with_reducible refine Kd.C_alloc ?_ _) | (with_reducible refine Kd.C_drewN ?_ _) | (with_reducible refine Kd.C_drew ?_))); (case side2 => exact (Kd.R_reads' HO519.out).2.1); (case side3 => repeat (first | exact (Kd.R_reads' HO_5.out).2.2 | (with_reducible refine Kd.C_alloc ?_ _) | (with_reducible refine Kd.C_drewN ?_ _) | (with_reducible refine Kd.C_drew ?_))); (case side4 => exact (Kd.R_reads' HO_5.out).2.1); rintro e w' ⟨rfl, ⟨nd, rfl⟩⟩; obtain ⟨Ao203, co203, eo203⟩ := Kd.R_slice HO523.out; subst eo203) | (go_at_call 10; (with_reducible refine (laws_sSame.calls kj162 _ _ t520 _ _ t414 t526 _ ?side1 ?side2 ?side3 ?side4 A198.out).mono ?_); (case side1 => repeat (first | exact (Kd.R_reads' HO523.out).2.2 | (with_reducible refine Kd.C_alloc ?_ _) | (with_reducible refine Kd.C_drewN ?_ _) | (with_reducible refine Kd.C_drew ?_))); (case side2 => exact (Kd.R_reads' HO523.out).2.1); (case side3 => repeat (first | exact (Kd.R_reads' HO_5.out).2.2 | (with_reducible refine Kd.C_alloc ?_ _) | (with_reducible refine Kd.C_drewN ?_ _) | (with_reducible refine Kd.C_drew ?_))); (case side4 => exact (Kd.R_reads' HO_5.out).2.1); rintro e w' ⟨rfl, ⟨nd, rfl⟩⟩))
                   go_ret
                   exact ⟨by first | rfl | (simp [*, errW_none, errW_some] <;> rfl), by repeat (first | exact HB.out | apply below_alloc | apply pw_below_drewN | apply below_drew1)⟩)
            · replace c197 := Bool.eq_false_iff.mpr c197
              subst c197
              have H1 : (some false) = some r := by rw [if_neg (show ¬ (false = true) by decide)] at H; exact H
              rw [hr_] at H1; exact absurd H1 (by decide)
          · replace c195 := Bool.eq_false_iff.mpr c195
            subst c195
            have H1 : (some false) = some r := by rw [if_neg (show ¬ (false = true) by decide)] at H; exact H
            rw [hr_] at H1; exact absurd H1 (by decide)
        · replace c193 := Bool.eq_false_iff.mpr c193
          subst c193
          have H1 : (some false) = some r := by rw [if_neg (show ¬ (false = true) by decide)] at H; exact H
          rw [hr_] at H1; exact absurd H1 (by decide)
      · replace c192 := Bool.eq_false_iff.mpr c192
        subst c192
        have H1 : (some false) = some r := by rw [if_neg (show ¬ (false = true) by decide)] at H; exact H
        rw [hr_] at H1; exact absurd H1 (by decide)
    · replace c189 := Bool.eq_false_iff.mpr c189
      subst c189
      have H1 : (some true) = some r := by rw [if_neg (show ¬ (false = true) by decide)] at H; exact H
      clear H
      have H := H1
      clear H1
      have hrr_ := Option.some.inj H
      rw [hr_] at hrr_
      first
        | exact absurd hrr_ (by decide)
        | (clear hrr_
           obtain rfl := Option.some.inj H
           go_wp2
           go_ret
           exact ⟨by first | rfl | (simp [*, errW_none, errW_some] <;> rfl), by repeat (first | exact HB.out | apply below_alloc | apply pw_below_drewN | apply below_drew1)⟩)

end Go.Proofs.Ytonobgbpgeielaa.QFnSystemsMoved
