-- Written by wip/myprint.py (a program of mine round the kit's printer). Lean checks it.
import Derived.Test.YtonobgbpgeielaaQFnSystemsMovedx8
import Derived.Test.YtonobgbpgeielaaQFnSystemsMovedx13
namespace Go.Proofs.Ytonobgbpgeielaa.QFnSystemsMoved
open Go.RowKit Go.Proofs.YtonobgbpgeielaaW.PrintWords Go.Proofs.YtonobgbpgeielaaW.PrintLast Go.Proofs.YtonobgbpgeielaaW.PrintMore
attribute [local go_sem] max2_int min2_int max_two min_two max_three min_three max_four min_four   -- for this text's walks alone
set_option linter.unusedVariables false
set_option linter.unusedSimpArgs false

noncomputable def laws_FnSystemsMoved.part3.rest : Code := ((Try.f4.body.bind (laws_FnSystemsMoved.findRest 26)).getD .skip)
noncomputable def laws_FnSystemsMoved.part3.joint : Code := ((Try.f4.body.bind (laws_FnSystemsMoved.findCond 190)).getD .skip)
set_option maxHeartbeats 8000000 in
set_option maxRecDepth 1000000 in
theorem laws_FnSystemsMoved.part3 (k : Nat) (A0 : Option Addr) (c0 : Nat) (l0 : List Int) (A1 : Option Addr) (c1 : Nat) (l1 : List Int) (r : Bool) (w : World) (hr_ : r = true) (HR0 : Aside0 ((Kd.int IntKind.u8).C w A0 l0.length l0)) (HC0 : Aside0 (l0.length ≤ c0)) (t414 : List Int) (t415 : Int) (t418 : List Int) (t419 t423 : Bool) (nd : Nat) (Ao10 : Option Addr) (co10 : Nat) (v420 v424 : Value) (kj7 : Nat) (HJ7 : Aside0 (kj7 + 1 ≤ k)) (t427 t428 : List Int) (t434 t438 : Bool) (Ao23 : Option Addr) (co23 : Nat) (Ao24 : Option Addr) (co24 : Nat) (v435 v439 : Value) (kj20 : Nat) (HJ20 : Aside0 (kj20 + 1 ≤ kj7)) (u4 u17 : Value) (u18 u19 : Value) (u20 u21 u22 : Value) (kj31 : Nat) (HJ31 : Aside0 (kj31 + 1 ≤ kj20)) (t448 t451 : List Int) (t452 : Bool) (t455 : List Int) (t456 : Bool) (t459 : List Int) (t460 : Bool) (t463 : List Int) (t464 : Bool) (HC67 : Aside0 ((if (t452 != t456) = true then j3 kj31 l0 t414 t415 t418 t423 t448 t451 t452 t459 t460 true else (laws_sSame.f kj31 t451 t455).bind fun t467 => if t467 = true then if (t460 != t464) = true then j3 kj31 l0 t414 t415 t418 t423 t448 t451 t452 t459 t460 true else (laws_sSame.f kj31 t459 t463).bind fun t468 => j3 kj31 l0 t414 t415 t418 t423 t448 t451 t452 t459 t460 !t468 else j3 kj31 l0 t414 t415 t418 t423 t448 t451 t452 t459 t460 true) = some r)) (Ao69 : Option Addr) (co69 : Nat) (v453 v457 v461 : Value) (w73 : World) (v465 : Value) (HO_5 : Aside0 ((Kd.int IntKind.i64).R 3 w73 w.heap.size (fun k => ((((some k ≠ v420.ownBlock ∧ some k ≠ (Value.slice Ao69 t448.length co69).ownBlock) ∧ some k ≠ v453.ownBlock) ∧ some k ≠ v457.ownBlock) ∧ some k ≠ v461.ownBlock) ∧ some k ≠ v465.ownBlock) (Value.slice Ao10 t414.length co10) t414)) (HO_7 : Aside0 ((Kd.int IntKind.i64).R 3 w73 w.heap.size (fun k => ((((some k ≠ (Value.slice Ao10 t414.length co10).ownBlock ∧ some k ≠ (Value.slice Ao69 t448.length co69).ownBlock) ∧ some k ≠ v453.ownBlock) ∧ some k ≠ v457.ownBlock) ∧ some k ≠ v461.ownBlock) ∧ some k ≠ v465.ownBlock) v420 t418)) (HB : Aside0 (Below w.heap.size w w73)) (wc : World) (u61 u62 : Value) (u63 u64 : Value) (u65 u66 : Value) (u67 u68 : Value) (u69 u70 : Value) (u71 u72 : Value) (u73 u74 : Value) (u75 u76 : Value) (u77 u78 : Value) (u79 u80 : Value) (u81 u82 : Value) (u83 u84 : Value) (u85 u86 : Value) (u87 u88 : Value) (u89 u90 : Value) (u91 u92 : Value) (u93 u94 : Value) (u95 u96 : Value) (u97 u98 : Value) (u99 u100 : Value) (u101 u102 : Value) (u103 u104 : Value) (u105 u106 : Value) (u107 u108 : Value) (u109 u110 : Value) (u111 u112 : Value) (u113 u114 : Value) (u115 u116 : Value) (u117 u118 : Value) (u119 u120 : Value) (u121 u122 : Value) (u123 u124 : Value) (u125 u126 : Value) (u127 u128 : Value) (u129 u130 : Value) (u131 u132 : Value) (u133 u134 : Value) (u135 u136 : Value) (u137 u138 : Value) (u139 u140 : Value) (u141 u142 : Value) (u143 u144 : Value) (u145 u146 : Value) (u147 u148 : Value) (u149 u150 : Value) (u151 u152 : Value) (u153 u154 : Value) (u155 u156 : Value) (u157 u158 : Value) (u159 u160 : Value) (u161 u162 : Value) (u163 u164 : Value) (u165 u166 : Value) (u167 u168 : Value) (u169 u170 : Value) (u171 u172 : Value) (u173 u174 : Value) (u175 u176 : Value) (u177 u178 : Value) (u179 u180 : Value) (u181 u182 : Value) (u183 u184 : Value) (u185 u186 : Value) (u187 u188 : Value) (u189 u190 : Value) (u191 u192 : Value) (u193 u194 : Value) (u195 u196 : Value) (u197 u198 : Value) (u199 u200 : Value) (u201 u202 : Value) (u203 u204 : Value) (u205 u206 : Value) (u207 u208 : Value) (u209 u210 : Value) (u211 u212 : Value) (u213 u214 : Value) (u215 u216 : Value) (u217 u218 : Value) (u219 u220 : Value) (u221 u222 : Value) (u223 u224 : Value) (u225 u226 : Value) (u227 u228 : Value) (u229 u230 : Value) (u231 u232 : Value) (u233 u234 : Value) (u235 u236 : Value) (u237 u238 : Value) (u239 u240 : Value) (u241 u242 : Value) (u243 u244 : Value) (u245 u246 : Value) (u247 u248 : Value) (u249 u250 : Value) (u251 u252 : Value) (u253 u254 : Value) (u255 u256 : Value) (u257 u258 : Value) (u259 u260 : Value) (u261 u262 : Value) (u263 u264 : Value) (u265 u266 : Value) (u267 u268 : Value) (u269 u270 : Value) (u271 u272 : Value) (u273 u274 : Value) (u275 u276 : Value) (u277 u278 : Value) (u279 u280 : Value) (u281 u282 : Value) (u283 u284 : Value) (u285 u286 : Value) (u287 u288 : Value) (u289 u290 : Value) (u291 u292 : Value) (u293 u294 : Value) (u295 u296 : Value) (u297 u298 : Value) (u299 u300 : Value) (u301 u302 : Value) (u303 u304 : Value) (u305 u306 : Value) (u307 u308 : Value) (u309 u310 : Value) (u311 u312 : Value) (u313 u314 : Value) (u315 u316 : Value) (u317 u318 : Value) (u319 u320 : Value) (u321 u322 : Value) (u326 u327 : Value) (u328 u329 : Value) (u330 u331 : Value) (u332 u333 : Value) (u334 u335 : Value) (u336 u337 : Value) (u338 u339 : Value) (u340 u341 : Value) (u342 u343 : Value) (u344 u345 : Value) (u346 u347 : Value) (u348 u349 : Value) (u350 u351 : Value) (u352 u353 : Value) (u354 u355 : Value) (u356 u357 : Value) (u358 u359 : Value) (u360 u361 : Value) (u362 u363 : Value) (u364 u365 : Value) (u366 u367 : Value) (K1_ : Act → World → Prop) (a1_ : ∀ (a_ : Act) (w_ : World), Code.wp Try.prog laws_FnSystemsMoved.part3.rest (bodyPost Try.prog Try.f4 fun e w' => e = Ending.returned (Value.bool r) ∧ Below w.heap.size w w') a_ w_ → K1_ a_ w_) (K2_ : Act → World → Prop) (a2_ : ∀ (a_ : Act) (w_ : World), Code.wp Try.prog laws_FnSystemsMoved.part3.joint (Exit.then K1_ (bodyPost Try.prog Try.f4 fun e w' => e = Ending.returned (Value.bool r) ∧ Below w.heap.size w w')) a_ w_ → K2_ a_ w_) (hcut : ∃ kq x190_66, u190 = Value.bool x190_66 ∧ Aside0 (j3 kq l0 t414 t415 t418 t423 t448 t451 t452 t459 t460 x190_66 = some r) ∧ Aside0 (kq ≤ kj31) ∧ Aside0 ((Kd.int IntKind.i64).R 3 wc w.heap.size (fun k_ => some k_ ≠ v420.ownBlock ∧ some k_ ≠ (Value.slice Ao69 t448.length co69).ownBlock ∧ some k_ ≠ v453.ownBlock ∧ some k_ ≠ v461.ownBlock) (Value.slice Ao10 t414.length co10) t414) ∧ Aside0 ((Kd.int IntKind.i64).R 3 wc w.heap.size (fun k_ => some k_ ≠ (Value.slice Ao10 t414.length co10).ownBlock ∧ some k_ ≠ (Value.slice Ao69 t448.length co69).ownBlock ∧ some k_ ≠ v453.ownBlock ∧ some k_ ≠ v461.ownBlock) v420 t418) ∧ Aside0 ((Kd.int IntKind.i64).R 3 wc w.heap.size (fun k_ => some k_ ≠ (Value.slice Ao10 t414.length co10).ownBlock ∧ some k_ ≠ v420.ownBlock ∧ some k_ ≠ v453.ownBlock ∧ some k_ ≠ v461.ownBlock) (Value.slice Ao69 t448.length co69) t448) ∧ Aside0 ((Kd.int IntKind.i64).R 3 wc w.heap.size (fun k_ => some k_ ≠ (Value.slice Ao10 t414.length co10).ownBlock ∧ some k_ ≠ v420.ownBlock ∧ some k_ ≠ (Value.slice Ao69 t448.length co69).ownBlock ∧ some k_ ≠ v461.ownBlock) v453 t451) ∧ Aside0 ((Kd.int IntKind.i64).R 3 wc w.heap.size (fun k_ => some k_ ≠ (Value.slice Ao10 t414.length co10).ownBlock ∧ some k_ ≠ v420.ownBlock ∧ some k_ ≠ (Value.slice Ao69 t448.length co69).ownBlock ∧ some k_ ≠ v453.ownBlock) v461 t459) ∧ Aside0 (Below w.heap.size w wc)) :
    K2_ { tmps := #[Value.slice A0 l0.length c0, Value.slice A1 l1.length c1, undef, undef, u4, Value.slice Ao10 t414.length co10, Value.int IntKind.i64 t415, v420, Value.bool t419, v424, Value.bool t423, Value.slice Ao23 t427.length co23, Value.slice Ao24 t428.length co24, v435, Value.bool t434, v439, Value.bool t438, u17, u18, u19, u20, u21, u22, Value.slice Ao69 t448.length co69, v453, Value.bool t452, v457, Value.bool t456, v461, Value.bool t460, v465, Value.bool t464, undef, undef, undef, undef, undef, undef, undef, undef, undef, undef, undef, undef, undef, undef, undef, undef, undef, undef, undef, undef, undef, undef, undef, undef, undef, undef, undef, undef, undef, u61, u62, u63, u64, u65, u66, u67, u68, u69, u70, u71, u72, u73, u74, u75, u76, u77, u78, u79, u80, u81, u82, u83, u84, u85, u86, u87, u88, u89, u90, u91, u92, u93, u94, u95, u96, u97, u98, u99, u100, u101, u102, u103, u104, u105, u106, u107, u108, u109, u110, u111, u112, u113, u114, u115, u116, u117, u118, u119, u120, u121, u122, u123, u124, u125, u126, u127, u128, u129, u130, u131, u132, u133, u134, u135, u136, u137, u138, u139, u140, u141, u142, u143, u144, u145, u146, u147, u148, u149, u150, u151, u152, u153, u154, u155, u156, u157, u158, u159, u160, u161, u162, u163, u164, u165, u166, u167, u168, u169, u170, u171, u172, u173, u174, u175, u176, u177, u178, u179, u180, u181, u182, u183, u184, u185, u186, u187, u188, u189, u190, u191, u192, u193, u194, u195, u196, u197, u198, u199, u200, u201, u202, u203, u204, u205, u206, u207, u208, u209, u210, u211, u212, u213, u214, u215, u216, u217, u218, u219, u220, u221, u222, u223, u224, u225, u226, u227, u228, u229, u230, u231, u232, u233, u234, u235, u236, u237, u238, u239, u240, u241, u242, u243, u244, u245, u246, u247, u248, u249, u250, u251, u252, u253, u254, u255, u256, u257, u258, u259, u260, u261, u262, u263, u264, u265, u266, u267, u268, u269, u270, u271, u272, u273, u274, u275, u276, u277, u278, u279, u280, u281, u282, u283, u284, u285, u286, u287, u288, u289, u290, u291, u292, u293, u294, u295, u296, u297, u298, u299, u300, u301, u302, u303, u304, u305, u306, u307, u308, u309, u310, u311, u312, u313, u314, u315, u316, u317, u318, u319, u320, u321, u322, undef, undef, undef, u326, u327, u328, u329, u330, u331, u332, u333, u334, u335, u336, u337, u338, u339, u340, u341, u342, u343, u344, u345, u346, u347, u348, u349, u350, u351, u352, u353, u354, u355, u356, u357, u358, u359, u360, u361, u362, u363, u364, u365, u366, u367], defers := [] } wc := by
  obtain ⟨c_, hc_⟩ : ∃ c_, c_ = laws_FnSystemsMoved.part3.rest := ⟨_, rfl⟩
  rw [← hc_] at a1_
  conv at hc_ =>
    rhs
    whnf
  subst hc_
  obtain ⟨c_, hc_⟩ : ∃ c_, c_ = laws_FnSystemsMoved.part3.joint := ⟨_, rfl⟩
  rw [← hc_] at a2_
  conv at hc_ =>
    rhs
    whnf
  subst hc_
  clear HC67
  try clear c1
  try clear c2
  try clear p2
  try clear c3
  try clear c4
  try clear c6
  try clear c7
  try clear c13
  try clear c13b0
  try clear c13b1
  try clear c13b2
  try clear c17
  try clear c22
  try clear c23
  try clear c24
  try clear c25
  try clear c26
  try clear c27
  try clear c27b0
  try clear c27b1
  try clear c27b2
  try clear c28
  try clear c29
  try clear c30
  try clear c31
  try clear c32
  try clear c33
  try clear c37
  try clear c38
  try clear c39
  try clear c40
  try clear c40b0
  try clear c40b1
  try clear c40b2
  try clear c41
  try clear c41b0
  try clear c41b1
  try clear c74
  try clear c74b0
  try clear c74b1
  try clear c74b2
  try clear c76
  try clear c77
  try clear c77b0
  try clear c77b1
  try clear c77b2
  try clear p2
  obtain ⟨kq, x190_66, rfl, HA, HJ66, HO_5, HO_7, HO_23, HO_24, HO_28, HB⟩ := hcut
  cases kq with
  | zero => exact absurd HA.out (by simp [laws_FnSystemsMoved.j3])
  | succ kj66 =>
    have H := HA.out
    clear HA
    simp only [laws_FnSystemsMoved.j3] at H
    by_cases c87 : x190_66 = true
    · subst c87
      have H1 : (some false) = some r := by rw [if_pos rfl] at H; exact H
      rw [hr_] at H1; exact absurd H1 (by decide)
    · replace c87 := Bool.eq_false_iff.mpr c87
      subst c87
      have H1 : (if t460 = true then ((impl_MirrorSystem.f kj66 t459).bind fun bt469 => (if bt469.2 = true then ((laws_sSame.f kj66 bt469.1 t448).bind fun t473 => (if t473 = true then (laws_FnSystemsMoved.j4 kj66 l0 t414 t415 t418 t423 t448 t451 t452) else (some false))) else (some false))) else (laws_FnSystemsMoved.j4 kj66 l0 t414 t415 t418 t423 t448 t451 t452)) = some r := by rw [if_neg (show ¬ (false = true) by decide)] at H; exact H
      clear H
      have H := H1
      clear H1
      have HC88 := Aside0.mk H
      clear H
      go_upto_if 191 with (fail)
      go_cut [] (fun wc => ∃ (kq : Nat), Aside0 (laws_FnSystemsMoved.j4 kq l0 t414 t415 t418 t423 t448 t451 t452 = some r) ∧ Aside0 (kq ≤ kj66) ∧ Aside0 (Kd.R (Kd.int .i64) 3 wc w.heap.size (fun k_ => some k_ ≠ (v420 : Value).ownBlock ∧ some k_ ≠ ((.slice Ao69 t448.length co69) : Value).ownBlock ∧ some k_ ≠ (v453 : Value).ownBlock) (.slice Ao10 t414.length co10) t414) ∧ Aside0 (Kd.R (Kd.int .i64) 3 wc w.heap.size (fun k_ => some k_ ≠ ((.slice Ao10 t414.length co10) : Value).ownBlock ∧ some k_ ≠ ((.slice Ao69 t448.length co69) : Value).ownBlock ∧ some k_ ≠ (v453 : Value).ownBlock) v420 t418) ∧ Aside0 (Kd.R (Kd.int .i64) 3 wc w.heap.size (fun k_ => some k_ ≠ ((.slice Ao10 t414.length co10) : Value).ownBlock ∧ some k_ ≠ (v420 : Value).ownBlock ∧ some k_ ≠ (v453 : Value).ownBlock) (.slice Ao69 t448.length co69) t448) ∧ Aside0 (Kd.R (Kd.int .i64) 3 wc w.heap.size (fun k_ => some k_ ≠ ((.slice Ao10 t414.length co10) : Value).ownBlock ∧ some k_ ≠ (v420 : Value).ownBlock ∧ some k_ ≠ ((.slice Ao69 t448.length co69) : Value).ownBlock) v453 t451) ∧ Aside0 (Below w.heap.size w wc))
      case first =>
        have H := HC88.out
        clear HC88
        by_cases c89 : t460 = true
        · subst c89
          have H1 : ((impl_MirrorSystem.f kj66 t459).bind fun bt469 => (if bt469.2 = true then ((laws_sSame.f kj66 bt469.1 t448).bind fun t473 => (if t473 = true then (laws_FnSystemsMoved.j4 kj66 l0 t414 t415 t418 t423 t448 t451 t452) else (some false))) else (some false))) = some r := by rw [if_pos rfl] at H; exact H
          clear H
          have H := H1
          clear H1
          replace H := Option.bind_eq_some_iff.mp H
          obtain ⟨⟨t469, t470⟩, A900, H⟩ := H
          replace H : (if t470 = true then ((laws_sSame.f kj66 t469 t448).bind fun t473 => (if t473 = true then (laws_FnSystemsMoved.j4 kj66 l0 t414 t415 t418 t423 t448 t451 t452) else (some false))) else (some false)) = some r := H
          have A90 := Aside0.mk A900
          clear A900
          by_cases c91 : t470 = true
          · subst c91
            have H1 : ((laws_sSame.f kj66 t469 t448).bind fun t473 => (if t473 = true then (laws_FnSystemsMoved.j4 kj66 l0 t414 t415 t418 t423 t448 t451 t452) else (some false))) = some r := by rw [if_pos rfl] at H; exact H
            clear H
            have H := H1
            clear H1
            replace H := Option.bind_eq_some_iff.mp H
            obtain ⟨t473, A920, H⟩ := H
            replace H : (if t473 = true then (laws_FnSystemsMoved.j4 kj66 l0 t414 t415 t418 t423 t448 t451 t452) else (some false)) = some r := H
            have A92 := Aside0.mk A920
            clear A920
            by_cases c93 : t473 = true
            · subst c93
              have H1 : (laws_FnSystemsMoved.j4 kj66 l0 t414 t415 t418 t423 t448 t451 t452) = some r := by rw [if_pos rfl] at H; exact H
              clear H
              have H := H1
              clear H1
              have H' := Aside0.mk H
              clear H
              obtain ⟨Ao94, co94, eo94⟩ := Kd.R_slice HO_28.out
              subst eo94
              go_wp2_with (first | ((with_reducible refine gate_callee (f := 32) rfl ?_); refine goesL_ (some 194) rfl rfl Try.func32 (by kernel_rfl) rfl #[.slice Ao94 t459.length co94] rfl (by (try simp only [List.map_toArray, List.map_cons, List.map_nil]); first | done | rfl) ?_; (with_reducible refine (impl_MirrorSystem.calls kj66 _ _ t459 t469 true _ ?side1 ?side2 A90.out).mono ?_); (case side1 => repeat (first | exact (Kd.R_reads' HO_28.out).2.2 | (with_reducible refine Kd.C_alloc ?_ _) | (with_reducible refine Kd.C_drewN ?_ _) | (with_reducible refine Kd.C_drew ?_))); (case side2 => exact (Kd.R_reads' HO_28.out).2.1); rintro e w95 ⟨v471, rfl, ho0, hb⟩; refine ⟨_, rfl, ?_⟩; have HO472 := Aside0.mk (Kd.R_lower (Kd.R_new' (Kd.R_new' (Kd.R_new' (Kd.R_new' (Kd.R_new' ho0 (Kd.R_lt (by (with_reducible repeat (first | apply Kd.R_alloc | apply Kd.R_drewN | apply Kd.R_drew)); exact HO_5.out))) (Kd.R_lt (by (with_reducible repeat (first | apply Kd.R_alloc | apply Kd.R_drewN | apply Kd.R_drew)); exact HO_7.out))) (Kd.R_lt (by (with_reducible repeat (first | apply Kd.R_alloc | apply Kd.R_drewN | apply Kd.R_drew)); exact HO_23.out))) (Kd.R_lt (by (with_reducible repeat (first | apply Kd.R_alloc | apply Kd.R_drewN | apply Kd.R_drew)); exact HO_24.out))) (Kd.R_lt (by (with_reducible repeat (first | apply Kd.R_alloc | apply Kd.R_drewN | apply Kd.R_drew)); exact HO_28.out))) (below_size (by repeat (first | exact HB.out | apply below_alloc | apply pw_below_drewN | apply below_drew1)))); replace HO_5 := Aside0.mk (Kd.R_elder' (by (with_reducible repeat (first | apply Kd.R_alloc | apply Kd.R_drewN | apply Kd.R_drew)); exact HO_5.out) (Kd.R_base ho0) hb); replace HO_7 := Aside0.mk (Kd.R_elder' (by (with_reducible repeat (first | apply Kd.R_alloc | apply Kd.R_drewN | apply Kd.R_drew)); exact HO_7.out) (Kd.R_base ho0) hb); replace HO_23 := Aside0.mk (Kd.R_elder' (by (with_reducible repeat (first | apply Kd.R_alloc | apply Kd.R_drewN | apply Kd.R_drew)); exact HO_23.out) (Kd.R_base ho0) hb); replace HO_24 := Aside0.mk (Kd.R_elder' (by (with_reducible repeat (first | apply Kd.R_alloc | apply Kd.R_drewN | apply Kd.R_drew)); exact HO_24.out) (Kd.R_base ho0) hb); replace HO_28 := Aside0.mk (Kd.R_elder' (by (with_reducible repeat (first | apply Kd.R_alloc | apply Kd.R_drewN | apply Kd.R_drew)); exact HO_28.out) (Kd.R_base ho0) hb); replace HB := Aside0.mk (below_step (by repeat (first | exact HB.out | apply below_alloc | apply pw_below_drewN | apply below_drew1)) hb); (try clear hb); (try clear hb2); (try clear hk); (try clear hi); (try clear ho0); obtain ⟨Ao96, co96, eo96⟩ := Kd.R_slice HO472.out; subst eo96) | (go_at_call 10; (with_reducible refine (laws_sSame.calls kj66 _ _ t469 _ _ t448 true _ ?side1 ?side2 ?side3 ?side4 A92.out).mono ?_); (case side1 => repeat (first | exact (Kd.R_reads' HO472.out).2.2 | (with_reducible refine Kd.C_alloc ?_ _) | (with_reducible refine Kd.C_drewN ?_ _) | (with_reducible refine Kd.C_drew ?_))); (case side2 => exact (Kd.R_reads' HO472.out).2.1); (case side3 => repeat (first | exact (Kd.R_reads' HO_23.out).2.2 | (with_reducible refine Kd.C_alloc ?_ _) | (with_reducible refine Kd.C_drewN ?_ _) | (with_reducible refine Kd.C_drew ?_))); (case side4 => exact (Kd.R_reads' HO_23.out).2.1); rintro e w' ⟨rfl, ⟨nd, rfl⟩⟩))
              go_meet
              case rel => exact ⟨_, H', ⟨by have := HJ7.out; have := HJ20.out; have := HJ31.out; have := HJ66.out; first | omega | exact Nat.le_refl _⟩, ⟨by (with_reducible repeat (first | apply Kd.R_alloc | apply Kd.R_drewN | apply Kd.R_drew)); exact Kd.R_mono HO_5.out (fun _ hk => ⟨hk.1.1, ⟨hk.1.2.1, hk.1.2.2.1⟩⟩)⟩, ⟨by (with_reducible repeat (first | apply Kd.R_alloc | apply Kd.R_drewN | apply Kd.R_drew)); exact Kd.R_mono HO_7.out (fun _ hk => ⟨hk.1.1, ⟨hk.1.2.1, hk.1.2.2.1⟩⟩)⟩, ⟨by (with_reducible repeat (first | apply Kd.R_alloc | apply Kd.R_drewN | apply Kd.R_drew)); exact Kd.R_mono HO_23.out (fun _ hk => ⟨hk.1.1, ⟨hk.1.2.1, hk.1.2.2.1⟩⟩)⟩, ⟨by (with_reducible repeat (first | apply Kd.R_alloc | apply Kd.R_drewN | apply Kd.R_drew)); exact Kd.R_mono HO_24.out (fun _ hk => ⟨hk.1.1, ⟨hk.1.2.1, hk.1.2.2.1⟩⟩)⟩, ⟨by repeat (first | exact HB.out | apply below_alloc | apply pw_below_drewN | apply below_drew1)⟩⟩
            · replace c93 := Bool.eq_false_iff.mpr c93
              subst c93
              have H1 : (some false) = some r := by rw [if_neg (show ¬ (false = true) by decide)] at H; exact H
              rw [hr_] at H1; exact absurd H1 (by decide)
          · replace c91 := Bool.eq_false_iff.mpr c91
            subst c91
            have H1 : (some false) = some r := by rw [if_neg (show ¬ (false = true) by decide)] at H; exact H
            rw [hr_] at H1; exact absurd H1 (by decide)
        · replace c89 := Bool.eq_false_iff.mpr c89
          subst c89
          have H1 : (laws_FnSystemsMoved.j4 kj66 l0 t414 t415 t418 t423 t448 t451 t452) = some r := by rw [if_neg (show ¬ (false = true) by decide)] at H; exact H
          clear H
          have H := H1
          clear H1
          have H' := Aside0.mk H
          clear H
          go_wp2
          go_meet
          case rel => exact ⟨_, H', ⟨by have := HJ7.out; have := HJ20.out; have := HJ31.out; have := HJ66.out; first | omega | exact Nat.le_refl _⟩, ⟨by (with_reducible repeat (first | apply Kd.R_alloc | apply Kd.R_drewN | apply Kd.R_drew)); exact Kd.R_mono HO_5.out (fun _ hk => ⟨hk.1, ⟨hk.2.1, hk.2.2.1⟩⟩)⟩, ⟨by (with_reducible repeat (first | apply Kd.R_alloc | apply Kd.R_drewN | apply Kd.R_drew)); exact Kd.R_mono HO_7.out (fun _ hk => ⟨hk.1, ⟨hk.2.1, hk.2.2.1⟩⟩)⟩, ⟨by (with_reducible repeat (first | apply Kd.R_alloc | apply Kd.R_drewN | apply Kd.R_drew)); exact Kd.R_mono HO_23.out (fun _ hk => ⟨hk.1, ⟨hk.2.1, hk.2.2.1⟩⟩)⟩, ⟨by (with_reducible repeat (first | apply Kd.R_alloc | apply Kd.R_drewN | apply Kd.R_drew)); exact Kd.R_mono HO_24.out (fun _ hk => ⟨hk.1, ⟨hk.2.1, hk.2.2.1⟩⟩)⟩, ⟨by repeat (first | exact HB.out | apply below_alloc | apply pw_below_drewN | apply below_drew1)⟩⟩
      case rest =>
       rename_i K1_ a1_
       exact laws_FnSystemsMoved.part4 k A0 c0 l0 A1 c1 l1 r w hr_ HR0 HC0 t414 t415 t418 t419 t423 nd Ao10 co10 v420 v424 kj7 HJ7 t427 t428 t434 t438 Ao23 co23 Ao24 co24 v435 v439 kj20 HJ20 u17 u18 u19 u20 u21 u22 kj31 HJ31 t448 t451 t452 t456 t459 t460 t464 Ao69 co69 v453 v457 v461 v465 kj66 HJ66 HC88 wc u4 u32 u33 u61 u62 u63 u64 u65 u66 u67 u68 u69 u70 u71 u72 u73 u74 u75 u76 u77 u78 u79 u80 u81 u82 u83 u84 u85 u86 u87 u88 u89 u90 u91 u92 u93 u94 u95 u96 u97 u98 u99 u100 u101 u102 u103 u104 u105 u106 u107 u108 u109 u110 u111 u112 u113 u114 u115 u116 u117 u118 u119 u120 u121 u122 u123 u124 u125 u126 u127 u128 u129 u130 u131 u132 u133 u134 u135 u136 u137 u138 u139 u140 u141 u142 u143 u144 u145 u146 u147 u148 u149 u150 u151 u152 u153 u154 u155 u156 u157 u158 u159 u160 u161 u162 u163 u164 u165 u166 u167 u168 u169 u170 u171 u172 u173 u174 u175 u176 u177 u178 u179 u180 u181 u182 u183 u184 u185 u186 u187 u188 u189 u190 u191 u192 u193 u194 u195 u196 u197 u198 u199 u200 u201 u202 u203 u204 u205 u206 u207 u208 u209 u210 u211 u212 u213 u214 u215 u216 u217 u218 u219 u220 u221 u222 u223 u224 u225 u226 u227 u228 u229 u230 u231 u232 u233 u234 u235 u236 u237 u238 u239 u240 u241 u242 u243 u244 u245 u246 u247 u248 u249 u250 u251 u252 u253 u254 u255 u256 u257 u258 u259 u260 u261 u262 u263 u264 u265 u266 u267 u268 u269 u270 u271 u272 u273 u274 u275 u276 u277 u278 u279 u280 u281 u282 u283 u284 u285 u286 u287 u288 u289 u290 u291 u292 u293 u294 u295 u296 u297 u298 u299 u300 u301 u302 u303 u304 u305 u306 u307 u308 u309 u310 u311 u312 u313 u314 u315 u316 u317 u318 u319 u320 u321 u322 u326 u327 u328 u329 u330 u331 u332 u333 u334 u335 u336 u337 u338 u339 u340 u341 u342 u343 u344 u345 u346 u347 u348 u349 u350 u351 u352 u353 u354 u355 u356 u357 u358 u359 u360 u361 u362 u363 u364 u365 u366 u367 K1_ a1_ hcut

end Go.Proofs.Ytonobgbpgeielaa.QFnSystemsMoved
