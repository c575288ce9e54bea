-- Written by wip/myprint.py (a program of mine round the kit's printer). Lean checks it.
import Derived.Test.YtpbadjdeghmenaaQFnSystemsListedx11
namespace Go.Proofs.Ytpbadjdeghmenaa.QFnSystemsListed
open Go.RowKit Go.Proofs.YtpbadjdeghmenaaW.PrintWords Go.Proofs.YtpbadjdeghmenaaW.PrintLast Go.Proofs.YtpbadjdeghmenaaW.PrintMore
attribute [local go_sem] max2_int min2_int max_two min_two max_three min_three max_four min_four   -- for this text's walks alone
set_option linter.unusedVariables false
set_option linter.unusedSimpArgs false

noncomputable def laws_FnSystemsListed.part5.rest : Code := ((Try.f3.body.bind (laws_FnSystemsListed.findRest 39)).getD .skip)
noncomputable def laws_FnSystemsListed.part5.joint : Code := ((Try.f3.body.bind (laws_FnSystemsListed.findCond 230)).getD .skip)
set_option maxHeartbeats 8000000 in
set_option maxRecDepth 1000000 in
theorem laws_FnSystemsListed.part5 (k : Nat) (A0 : Option Addr) (c0 : Nat) (l0 : List Int) (A1 : Option Addr) (c1 : Nat) (l1 : List Int) (r : Bool) (w : World) (hr_ : r = true) (t479 t480 : Int) (t481 : List Int) (t482 t486 : Bool) (t489 : Int) (t490 : Bool) (t491 : Int) (t492 : Bool) (v483 v487 : Value) (nd : Nat) (t494 : Int) (t495 : List (List Int)) (t496 t500 : Bool) (v501 : Value) (Ao47 : Option Addr) (co47 : Nat) (u20 u21 : Value) (x132_3 : Int) (u22 u23 : Value) (t510 : ByteArray) (t512 t516 : Bool) (v513 v517 : Value) (u4 u29 u30 : Value) (kj79 : Nat) (t522 t525 : List Int) (t526 : Bool) (t529 : List Int) (t530 : Bool) (HC94 : Aside0 ((if (t526 != t530) = true then j6 kj79 t479 t480 t481 t486 true else (laws_sSame.f kj79 t525 t529).bind fun t533 => j6 kj79 t479 t480 t481 t486 !t533) = some r)) (Ao96 : Option Addr) (co96 : Nat) (v527 : Value) (w98 : World) (v531 : Value) (HO_7 : Aside0 ((Kd.int IntKind.i64).R 3 w98 w.heap.size (fun k => ((True ∧ some k ≠ (Value.slice Ao96 t522.length co96).ownBlock) ∧ some k ≠ v527.ownBlock) ∧ some k ≠ v531.ownBlock) v483 t481)) (HB : Aside0 (Below w.heap.size w w98)) (wc : World) (u46 u47 : Value) (u48 u49 : Value) (u50 u51 : Value) (u52 u53 : Value) (u54 u55 : Value) (u56 u57 : Value) (u58 u59 : Value) (u60 u61 : Value) (u62 u63 : Value) (u64 u65 : Value) (u66 u67 : Value) (u68 u69 : Value) (u70 u71 : Value) (u72 u73 : Value) (u74 u75 : Value) (u76 u77 : Value) (u78 u79 : Value) (u80 u81 : Value) (u82 u83 : Value) (u84 u85 : Value) (u86 u87 : Value) (u88 u89 : Value) (u90 u91 : Value) (u92 u93 : Value) (u94 u95 : Value) (u96 u97 : Value) (u98 u99 : Value) (u100 u101 : Value) (u102 u103 : Value) (u104 u105 : Value) (u106 u107 : Value) (u108 u109 : Value) (u110 u111 : Value) (u112 u113 : Value) (u114 u115 : Value) (u116 u117 : Value) (u118 u119 : Value) (u120 u121 : Value) (u122 u123 : Value) (u124 u125 : Value) (u126 u127 : Value) (u128 u129 : Value) (u133 u134 : Value) (u135 u136 : Value) (u137 u138 : Value) (u139 u140 : Value) (u141 u142 : Value) (u143 u144 : Value) (u145 u146 : Value) (u147 u148 : Value) (u149 u150 : Value) (u151 u152 : Value) (u153 u154 : Value) (u155 u156 : Value) (u157 u158 : Value) (u159 u160 : Value) (u161 u162 : Value) (u163 u164 : Value) (u165 u166 : Value) (u167 u168 : Value) (u169 u170 : Value) (u171 u172 : Value) (u173 u174 : Value) (u175 u176 : Value) (u177 u178 : Value) (u179 u180 : Value) (u181 u182 : Value) (u183 u184 : Value) (u185 u186 : Value) (u187 u188 : Value) (u189 u190 : Value) (u191 u192 : Value) (u193 u194 : Value) (u195 u196 : Value) (u197 u198 : Value) (u199 u200 : Value) (u201 u202 : Value) (u203 u204 : Value) (u205 u206 : Value) (u207 u208 : Value) (u209 u210 : Value) (u211 u212 : Value) (u213 u214 : Value) (u215 u216 : Value) (u217 u218 : Value) (u219 u220 : Value) (u221 u222 : Value) (u223 u224 : Value) (u225 u226 : Value) (u227 u228 : Value) (u229 u230 : Value) (u231 u232 : Value) (u233 u234 : Value) (u235 u236 : Value) (u237 u238 : Value) (u239 u240 : Value) (u241 u242 : Value) (u243 u244 : Value) (u245 u246 : Value) (u247 u248 : Value) (u249 u250 : Value) (u251 u252 : Value) (u253 u254 : Value) (u255 u256 : Value) (u257 u258 : Value) (u259 u260 : Value) (u261 u262 : Value) (u263 u264 : Value) (u265 u266 : Value) (u267 u268 : Value) (u269 u270 : Value) (u271 u272 : Value) (u273 u274 : Value) (u275 u276 : Value) (u277 u278 : Value) (u279 u280 : Value) (u281 u282 : Value) (u283 u284 : Value) (u285 u286 : Value) (K1_ : Act → World → Prop) (a1_ : ∀ (a_ : Act) (w_ : World), Code.wp Try.prog laws_FnSystemsListed.part5.rest (bodyPost Try.prog Try.f3 fun e w' => e = Ending.returned (Value.bool r) ∧ Below w.heap.size w w') a_ w_ → K1_ a_ w_) (K2_ : Act → World → Prop) (a2_ : ∀ (a_ : Act) (w_ : World), Code.wp Try.prog laws_FnSystemsListed.part5.joint (Exit.then K1_ (bodyPost Try.prog Try.f3 fun e w' => e = Ending.returned (Value.bool r) ∧ Below w.heap.size w w')) a_ w_ → K2_ a_ w_) (hcut : ∃ kq x230_93, u230 = Value.bool x230_93 ∧ Aside0 (j6 kq t479 t480 t481 t486 x230_93 = some r) ∧ Aside0 (kq ≤ kj79) ∧ Aside0 ((Kd.int IntKind.i64).R 3 wc w.heap.size (fun x => True) v483 t481) ∧ Aside0 (Below w.heap.size w wc)) :
    K2_ { tmps := #[Value.slice A0 l0.length c0, Value.slice A1 l1.length c1, undef, undef, u4, Value.int IntKind.i64 t479, Value.int IntKind.i64 t480, v483, Value.bool t482, v487, Value.bool t486, Value.int IntKind.i64 t489, Value.bool t490, Value.int IntKind.i64 t491, Value.bool t492, Value.int IntKind.i64 t494, Value.slice Ao47 t495.length co47, Value.bool t496, v501, Value.bool t500, u20, u21, u22, u23, Value.string t510, v513, Value.bool t512, v517, Value.bool t516, u29, u30, Value.slice Ao96 t522.length co96, v527, Value.bool t526, v531, Value.bool t530, undef, undef, undef, undef, undef, undef, undef, undef, undef, undef, u46, u47, u48, u49, u50, u51, u52, u53, u54, u55, u56, u57, u58, u59, u60, u61, u62, u63, u64, u65, u66, u67, u68, u69, u70, u71, u72, u73, u74, u75, u76, u77, u78, u79, u80, u81, u82, u83, u84, u85, u86, u87, u88, u89, u90, u91, u92, u93, u94, u95, u96, u97, u98, u99, u100, u101, u102, u103, u104, u105, u106, u107, u108, u109, u110, u111, u112, u113, u114, u115, u116, u117, u118, u119, u120, u121, u122, u123, u124, u125, u126, u127, u128, u129, Value.slice Ao47 t495.length co47, Value.int IntKind.i64 ((t495.length : Nat) : Int), Value.int IntKind.i64 x132_3, u133, u134, u135, u136, u137, u138, u139, u140, u141, u142, u143, u144, u145, u146, u147, u148, u149, u150, u151, u152, u153, u154, u155, u156, u157, u158, u159, u160, u161, u162, u163, u164, u165, u166, u167, u168, u169, u170, u171, u172, u173, u174, u175, u176, u177, u178, u179, u180, u181, u182, u183, u184, u185, u186, u187, u188, u189, u190, u191, u192, u193, u194, u195, u196, u197, u198, u199, u200, u201, u202, u203, u204, u205, u206, u207, u208, u209, u210, u211, u212, u213, u214, u215, u216, u217, u218, u219, u220, u221, u222, u223, u224, u225, u226, u227, u228, u229, u230, u231, u232, u233, u234, u235, u236, u237, u238, u239, u240, u241, u242, u243, u244, u245, u246, u247, u248, u249, u250, u251, u252, u253, u254, u255, u256, u257, u258, u259, u260, u261, u262, u263, u264, u265, u266, u267, u268, u269, u270, u271, u272, u273, u274, u275, u276, u277, u278, u279, u280, u281, u282, u283, u284, u285, u286], defers := [] } wc := by
  obtain ⟨c_, hc_⟩ : ∃ c_, c_ = laws_FnSystemsListed.part5.rest := ⟨_, rfl⟩
  rw [← hc_] at a1_
  conv at hc_ =>
    rhs
    whnf
  subst hc_
  obtain ⟨c_, hc_⟩ : ∃ c_, c_ = laws_FnSystemsListed.part5.joint := ⟨_, rfl⟩
  rw [← hc_] at a2_
  conv at hc_ =>
    rhs
    whnf
  subst hc_
  clear HC94
  try clear p2
  try clear p5
  try clear q5
  try clear hx5
  try clear p6
  try clear p50
  try clear q50
  try clear hx50
  try clear p64
  try clear hx504_0
  try clear hx506_0
  try clear p2
  try clear p5
  try clear p50
  try clear p504
  try clear p506
  try clear p6
  try clear p64
  try clear q5
  try clear q50
  try clear q504
  try clear q506
  obtain ⟨kq, x230_93, rfl, HA, HJ93, HO_7, HB⟩ := hcut
  cases kq with
  | zero => exact absurd HA.out (by simp [laws_FnSystemsListed.j6])
  | succ kj93 =>
    have H := HA.out
    clear HA
    simp only [laws_FnSystemsListed.j6] at H
    by_cases c103 : x230_93 = true
    · subst c103
      have H1 : (some false) = some r := by rw [if_pos rfl] at H; exact H
      rw [hr_] at H1; exact absurd H1 (by decide)
    · replace c103 := Bool.eq_false_iff.mpr c103
      subst c103
      have H1 : (if t486 = true then ((impl_RankSystem.f kj93 t481).bind fun bt534 => ((impl_NextSystem.f kj93 t481).bind fun bt536 => ((impl_SystemWith.f kj93 t479 (wrap64 (t480 + 1))).bind fun bt540 => ((impl_SystemText.f kj93 t481).bind fun bt544 => ((impl_ParseSystem.f kj93 bt544.1).bind fun bt546 => (if bt534.2 = true then (if bt534.1 = t480 then (if (bt536.2 == bt540.2) = true then ((laws_sSame.f kj93 bt536.1 bt540.1).bind fun t550 => (if t550 = true then (if bt544.2 = true then (if bt546.2 = true then ((laws_sSame.f kj93 bt546.1 t481).bind fun t551 => (some t551)) else (some false)) else (some false)) else (some false))) else (some false)) else (some false)) else (some false))))))) else (some true)) = some r := by rw [if_neg (show ¬ (false = true) by decide)] at H; exact H
      clear H
      have H := H1
      clear H1
      by_cases c104 : t486 = true
      · subst c104
        have H1 : ((impl_RankSystem.f kj93 t481).bind fun bt534 => ((impl_NextSystem.f kj93 t481).bind fun bt536 => ((impl_SystemWith.f kj93 t479 (wrap64 (t480 + 1))).bind fun bt540 => ((impl_SystemText.f kj93 t481).bind fun bt544 => ((impl_ParseSystem.f kj93 bt544.1).bind fun bt546 => (if bt534.2 = true then (if bt534.1 = t480 then (if (bt536.2 == bt540.2) = true then ((laws_sSame.f kj93 bt536.1 bt540.1).bind fun t550 => (if t550 = true then (if bt544.2 = true then (if bt546.2 = true then ((laws_sSame.f kj93 bt546.1 t481).bind fun t551 => (some t551)) else (some false)) else (some false)) else (some false))) else (some false)) else (some false)) else (some false))))))) = some r := by rw [if_pos rfl] at H; exact H
        clear H
        have H := H1
        clear H1
        replace H := Option.bind_eq_some_iff.mp H
        obtain ⟨⟨t534, t535⟩, A1050, H⟩ := H
        replace H : ((impl_NextSystem.f kj93 t481).bind fun bt536 => ((impl_SystemWith.f kj93 t479 (wrap64 (t480 + 1))).bind fun bt540 => ((impl_SystemText.f kj93 t481).bind fun bt544 => ((impl_ParseSystem.f kj93 bt544.1).bind fun bt546 => (if t535 = true then (if t534 = t480 then (if (bt536.2 == bt540.2) = true then ((laws_sSame.f kj93 bt536.1 bt540.1).bind fun t550 => (if t550 = true then (if bt544.2 = true then (if bt546.2 = true then ((laws_sSame.f kj93 bt546.1 t481).bind fun t551 => (some t551)) else (some false)) else (some false)) else (some false))) else (some false)) else (some false)) else (some false)))))) = some r := H
        have A105 := Aside0.mk A1050
        clear A1050
        replace H := Option.bind_eq_some_iff.mp H
        obtain ⟨⟨t536, t537⟩, A1060, H⟩ := H
        replace H : ((impl_SystemWith.f kj93 t479 (wrap64 (t480 + 1))).bind fun bt540 => ((impl_SystemText.f kj93 t481).bind fun bt544 => ((impl_ParseSystem.f kj93 bt544.1).bind fun bt546 => (if t535 = true then (if t534 = t480 then (if (t537 == bt540.2) = true then ((laws_sSame.f kj93 t536 bt540.1).bind fun t550 => (if t550 = true then (if bt544.2 = true then (if bt546.2 = true then ((laws_sSame.f kj93 bt546.1 t481).bind fun t551 => (some t551)) else (some false)) else (some false)) else (some false))) else (some false)) else (some false)) else (some false))))) = some r := H
        have A106 := Aside0.mk A1060
        clear A1060
        replace H := Option.bind_eq_some_iff.mp H
        obtain ⟨⟨t540, t541⟩, A1070, H⟩ := H
        replace H : ((impl_SystemText.f kj93 t481).bind fun bt544 => ((impl_ParseSystem.f kj93 bt544.1).bind fun bt546 => (if t535 = true then (if t534 = t480 then (if (t537 == t541) = true then ((laws_sSame.f kj93 t536 t540).bind fun t550 => (if t550 = true then (if bt544.2 = true then (if bt546.2 = true then ((laws_sSame.f kj93 bt546.1 t481).bind fun t551 => (some t551)) else (some false)) else (some false)) else (some false))) else (some false)) else (some false)) else (some false)))) = some r := H
        have A107 := Aside0.mk A1070
        clear A1070
        replace H := Option.bind_eq_some_iff.mp H
        obtain ⟨⟨t544, t545⟩, A1080, H⟩ := H
        replace H : ((impl_ParseSystem.f kj93 t544).bind fun bt546 => (if t535 = true then (if t534 = t480 then (if (t537 == t541) = true then ((laws_sSame.f kj93 t536 t540).bind fun t550 => (if t550 = true then (if t545 = true then (if bt546.2 = true then ((laws_sSame.f kj93 bt546.1 t481).bind fun t551 => (some t551)) else (some false)) else (some false)) else (some false))) else (some false)) else (some false)) else (some false))) = some r := H
        have A108 := Aside0.mk A1080
        clear A1080
        replace H := Option.bind_eq_some_iff.mp H
        obtain ⟨⟨t546, t547⟩, A1090, H⟩ := H
        replace H : (if t535 = true then (if t534 = t480 then (if (t537 == t541) = true then ((laws_sSame.f kj93 t536 t540).bind fun t550 => (if t550 = true then (if t545 = true then (if t547 = true then ((laws_sSame.f kj93 t546 t481).bind fun t551 => (some t551)) else (some false)) else (some false)) else (some false))) else (some false)) else (some false)) else (some false)) = some r := H
        have A109 := Aside0.mk A1090
        clear A1090
        by_cases c110 : t535 = true
        · subst c110
          have H1 : (if t534 = t480 then (if (t537 == t541) = true then ((laws_sSame.f kj93 t536 t540).bind fun t550 => (if t550 = true then (if t545 = true then (if t547 = true then ((laws_sSame.f kj93 t546 t481).bind fun t551 => (some t551)) else (some false)) else (some false)) else (some false))) else (some false)) else (some false)) = some r := by rw [if_pos rfl] at H; exact H
          clear H
          have H := H1
          clear H1
          by_cases c111 : t534 = t480
          · rw [if_pos c111] at H
            have c111b0 : (t534 == t480) = true := beq_iff_eq.mpr c111
            have c111b1 : (t534 != t480) = false := bne_eq_false_iff_eq.mpr c111
            clear c111
            by_cases c112 : (t537 == t541) = true
            · rw [if_pos c112] at H
              have c112b0 : (t537 == t541) = true := c112
              (try (have c112b1 : decide (t537 = t541) = true := by simpa using c112))
              (try (have c112b2 : (t537 == t541) = true := by simpa using c112))
              clear c112
              replace H := Option.bind_eq_some_iff.mp H
              obtain ⟨t550, A1130, H⟩ := H
              replace H : (if t550 = true then (if t545 = true then (if t547 = true then ((laws_sSame.f kj93 t546 t481).bind fun t551 => (some t551)) else (some false)) else (some false)) else (some false)) = some r := H
              have A113 := Aside0.mk A1130
              clear A1130
              by_cases c114 : t550 = true
              · subst c114
                have H1 : (if t545 = true then (if t547 = true then ((laws_sSame.f kj93 t546 t481).bind fun t551 => (some t551)) else (some false)) else (some false)) = some r := by rw [if_pos rfl] at H; exact H
                clear H
                have H := H1
                clear H1
                by_cases c115 : t545 = true
                · subst c115
                  have H1 : (if t547 = true then ((laws_sSame.f kj93 t546 t481).bind fun t551 => (some t551)) else (some false)) = some r := by rw [if_pos rfl] at H; exact H
                  clear H
                  have H := H1
                  clear H1
                  by_cases c116 : t547 = true
                  · subst c116
                    have H1 : ((laws_sSame.f kj93 t546 t481).bind fun t551 => (some t551)) = some r := by rw [if_pos rfl] at H; exact H
                    clear H
                    have H := H1
                    clear H1
                    replace H := Option.bind_eq_some_iff.mp H
                    obtain ⟨t551, A1170, H⟩ := H
                    replace H : (some t551) = some r := H
                    have A117 := Aside0.mk A1170
                    clear A1170
                    have hrr_ := Option.some.inj H
                    rw [hr_] at hrr_
                    first
                      | exact absurd hrr_ (by decide)
                      | (clear hrr_
                         obtain rfl := Option.some.inj H
                         obtain ⟨Ao118, co118, eo118⟩ := Kd.R_slice HO_7.out
                         subst eo118
                         go_wp2_with (first | ((with_reducible refine gate_callee (f := 24) rfl ?_); refine goesL_ (some 235) rfl rfl Try.func24 (by kernel_rfl) rfl #[.slice Ao118 t481.length co118] rfl (by (try simp only [List.map_toArray, List.map_cons, List.map_nil]); first | done | rfl) ?_; (with_reducible refine (impl_RankSystem.calls kj93 _ _ t481 t534 true _ ?side1 ?side2 A105.out).mono ?_); (case side1 => repeat (first | exact (Kd.R_reads' HO_7.out).2.2 | (with_reducible refine Kd.C_alloc ?_ _) | (with_reducible refine Kd.C_drewN ?_ _) | (with_reducible refine Kd.C_drew ?_))); (case side2 => exact (Kd.R_reads' HO_7.out).2.1); rintro e w119 ⟨rfl, hb⟩; refine ⟨_, rfl, ?_⟩; replace HO_7 := Aside0.mk (Kd.R_below (by (with_reducible repeat (first | apply rA | apply rN | apply rD)); exact HO_7.out) hb); replace HB := Aside0.mk (below_step (by repeat (first | exact HB.out | apply bA | apply bN | apply bD)) hb); (try clear hb2); (try clear hb hk hi)) | ((with_reducible refine gate_callee (f := 22) rfl ?_); refine goesL_ (some 240) rfl rfl Try.func22 (by kernel_rfl) rfl #[.slice Ao118 t481.length co118] rfl (by (try simp only [List.map_toArray, List.map_cons, List.map_nil]); first | done | rfl) ?_; (with_reducible refine (impl_NextSystem.calls kj93 _ _ t481 t536 t537 _ ?side1 ?side2 A106.out).mono ?_); (case side1 => repeat (first | exact (Kd.R_reads' HO_7.out).2.2 | (with_reducible refine Kd.C_alloc ?_ _) | (with_reducible refine Kd.C_drewN ?_ _) | (with_reducible refine Kd.C_drew ?_))); (case side2 => exact (Kd.R_reads' HO_7.out).2.1); rintro e w120 ⟨v538, rfl, ho0, hb⟩; refine ⟨_, rfl, ?_⟩; have HO539 := Aside0.mk (Kd.R_lower (Kd.R_new' ho0 (Kd.R_lt (by (with_reducible repeat (first | apply rA | apply rN | apply rD)); exact HO_7.out))) (below_size (by repeat (first | exact HB.out | apply bA | apply bN | apply bD)))); replace HO_7 := Aside0.mk (Kd.R_elder' (by (with_reducible repeat (first | apply rA | apply rN | apply rD)); exact HO_7.out) (Kd.R_base ho0) hb); replace HB := Aside0.mk (below_step (by repeat (first | exact HB.out | apply bA | apply bN | apply bD)) hb); (try clear hb2); (try clear hb hk hi); (try clear ho0)) | ((with_reducible refine gate_callee (f := 6) rfl ?_); refine goesL_ (some 247) rfl rfl Try.func6 (by kernel_rfl) rfl #[.int .i64 t479, .int .i64 (wrap64 (t480 + 1))] rfl (by (try simp only [List.map_toArray, List.map_cons, List.map_nil]); first | done | rfl) ?_; (with_reducible refine (impl_SystemWith.calls kj93 t479 (wrap64 (t480 + 1)) t540 t541 _ A107.out).mono ?_); rintro e w121 ⟨v542, rfl, ho0, hb⟩; refine ⟨_, rfl, ?_⟩; have HO543 := Aside0.mk (Kd.R_lower (Kd.R_new' (Kd.R_new' ho0 (Kd.R_lt (by (with_reducible repeat (first | apply rA | apply rN | apply rD)); exact HO_7.out))) (Kd.R_lt (by (with_reducible repeat (first | apply rA | apply rN | apply rD)); exact HO539.out))) (below_size (by repeat (first | exact HB.out | apply bA | apply bN | apply bD)))); replace HO_7 := Aside0.mk (Kd.R_elder' (by (with_reducible repeat (first | apply rA | apply rN | apply rD)); exact HO_7.out) (Kd.R_base ho0) hb); replace HO539 := Aside0.mk (Kd.R_elder' (by (with_reducible repeat (first | apply rA | apply rN | apply rD)); exact HO539.out) (Kd.R_base ho0) hb); replace HB := Aside0.mk (below_step (by repeat (first | exact HB.out | apply bA | apply bN | apply bD)) hb); (try clear hb2); (try clear hb hk hi); (try clear ho0)) | ((with_reducible refine gate_callee (f := 20) rfl ?_); refine goesL_ (some 252) rfl rfl Try.func20 (by kernel_rfl) rfl #[.slice Ao118 t481.length co118] rfl (by (try simp only [List.map_toArray, List.map_cons, List.map_nil]); first | done | rfl) ?_; (with_reducible refine (impl_SystemText.calls kj93 _ _ t481 t544 true _ ?side1 ?side2 A108.out).mono ?_); (case side1 => repeat (first | exact (Kd.R_reads' HO_7.out).2.2 | (with_reducible refine Kd.C_alloc ?_ _) | (with_reducible refine Kd.C_drewN ?_ _) | (with_reducible refine Kd.C_drew ?_))); (case side2 => exact (Kd.R_reads' HO_7.out).2.1); rintro e w122 ⟨rfl, hb⟩; refine ⟨_, rfl, ?_⟩; replace HO_7 := Aside0.mk (Kd.R_below (by (with_reducible repeat (first | apply rA | apply rN | apply rD)); exact HO_7.out) hb); replace HO539 := Aside0.mk (Kd.R_below (by (with_reducible repeat (first | apply rA | apply rN | apply rD)); exact HO539.out) hb); replace HO543 := Aside0.mk (Kd.R_below (by (with_reducible repeat (first | apply rA | apply rN | apply rD)); exact HO543.out) hb); replace HB := Aside0.mk (below_step (by repeat (first | exact HB.out | apply bA | apply bN | apply bD)) hb); (try clear hb2); (try clear hb hk hi)) | ((with_reducible refine gate_callee (f := 18) rfl ?_); refine goesL_ (some 257) rfl rfl Try.func18 (by kernel_rfl) rfl #[.string t544] rfl (by (try simp only [List.map_toArray, List.map_cons, List.map_nil]); first | done | rfl) ?_; (with_reducible refine (impl_ParseSystem.calls kj93 t544 t546 true _ A109.out).mono ?_); rintro e w123 ⟨v548, rfl, ho0, hb⟩; refine ⟨_, rfl, ?_⟩; have HO549 := Aside0.mk (Kd.R_lower (Kd.R_new' (Kd.R_new' (Kd.R_new' ho0 (Kd.R_lt (by (with_reducible repeat (first | apply rA | apply rN | apply rD)); exact HO_7.out))) (Kd.R_lt (by (with_reducible repeat (first | apply rA | apply rN | apply rD)); exact HO539.out))) (Kd.R_lt (by (with_reducible repeat (first | apply rA | apply rN | apply rD)); exact HO543.out))) (below_size (by repeat (first | exact HB.out | apply bA | apply bN | apply bD)))); replace HO_7 := Aside0.mk (Kd.R_elder' (by (with_reducible repeat (first | apply rA | apply rN | apply rD)); exact HO_7.out) (Kd.R_base ho0) hb); replace HO539 := Aside0.mk (Kd.R_elder' (by (with_reducible repeat (first | apply rA | apply rN | apply rD)); exact HO539.out) (Kd.R_base ho0) hb); replace HO543 := Aside0.mk (Kd.R_elder' (by (with_reducible repeat (first | apply rA | apply rN | apply rD)); exact HO543.out) (Kd.R_base ho0) hb); replace HB := Aside0.mk (below_step (by repeat (first | exact HB.out | apply bA | apply bN | apply bD)) hb); (try clear hb2); (try clear hb hk hi); (try clear ho0); obtain ⟨Ao124, co124, eo124⟩ := Kd.R_slice HO539.out; subst eo124; obtain ⟨Ao125, co125, eo125⟩ := Kd.R_slice HO543.out; subst eo125) | (go_at_call 10; (with_reducible refine (laws_sSame.calls kj93 _ _ t536 _ _ t540 true _ ?side1 ?side2 ?side3 ?side4 A113.out).mono ?_); (case side1 => repeat (first | exact (Kd.R_reads' HO539.out).2.2 | (with_reducible refine Kd.C_alloc ?_ _) | (with_reducible refine Kd.C_drewN ?_ _) | (with_reducible refine Kd.C_drew ?_))); (case side2 => exact (Kd.R_reads' HO539.out).2.1); (case side3 => repeat (first | exact (Kd.R_reads' HO543.out).2.2 | (with_reducible refine Kd.C_alloc ?_ _) | (with_reducible refine Kd.C_drewN ?_ _) | (with_reducible refine Kd.C_drew ?_))); (case side4 => exact (Kd.R_reads' HO543.out).2.1); rintro e w' ⟨rfl, ⟨nd, rfl⟩⟩; obtain ⟨Ao126, co126, eo126⟩ := Kd.R_slice HO549.out; subst eo126) | (go_at_call 10; (with_reducible refine (laws_sSame.calls kj93 _ _ t546 _ _ t481 t551 _ ?side1 ?side2 ?side3 ?side4 A117.out).mono ?_); (case side1 => repeat (first | exact (Kd.R_reads' HO549.out).2.2 | (with_reducible refine Kd.C_alloc ?_ _) | (with_reducible refine Kd.C_drewN ?_ _) | (with_reducible refine Kd.C_drew ?_))); (case side2 => exact (Kd.R_reads' HO549.out).2.1); (case side3 => repeat (first | exact (Kd.R_reads' HO_7.out).2.2 | (with_reducible refine Kd.C_alloc ?_ _) | (with_reducible refine Kd.C_drewN ?_ _) | (with_reducible refine Kd.C_drew ?_))); (case side4 => exact (Kd.R_reads' HO_7.out).2.1); rintro e w' ⟨rfl, ⟨nd, rfl⟩⟩))
                         go_ret
                         exact ⟨by first | rfl | (simp [*, errW_none, errW_some] <;> rfl), by repeat (first | exact HB.out | apply bA | apply bN | apply bD)⟩)
                  · replace c116 := Bool.eq_false_iff.mpr c116
                    subst c116
                    have H1 : (some false) = some r := by rw [if_neg (show ¬ (false = true) by decide)] at H; exact H
                    rw [hr_] at H1; exact absurd H1 (by decide)
                · replace c115 := Bool.eq_false_iff.mpr c115
                  subst c115
                  have H1 : (some false) = some r := by rw [if_neg (show ¬ (false = true) by decide)] at H; exact H
                  rw [hr_] at H1; exact absurd H1 (by decide)
              · replace c114 := Bool.eq_false_iff.mpr c114
                subst c114
                have H1 : (some false) = some r := by rw [if_neg (show ¬ (false = true) by decide)] at H; exact H
                rw [hr_] at H1; exact absurd H1 (by decide)
            · rw [if_neg c112] at H
              have c112b0 : (t537 == t541) = false := by simpa using c112
              (try (have c112b1 : decide (t537 = t541) = false := by simpa using c112))
              (try (have c112b2 : (t537 == t541) = false := by simpa using c112))
              (try (have c112b3 : ¬ (t537 = t541) := by simpa using c112))
              clear c112
              have hrr_ := Option.some.inj H
              rw [hr_] at hrr_
              first
                | exact absurd hrr_ (by decide)
                | (clear hrr_
                   obtain rfl := Option.some.inj H
                   obtain ⟨Ao151, co151, eo151⟩ := Kd.R_slice HO_7.out
                   subst eo151
                   go_wp2_with (first | ((with_reducible refine gate_callee (f := 24) rfl ?_); refine goesL_ (some 235) rfl rfl Try.func24 (by kernel_rfl) rfl #[.slice Ao151 t481.length co151] rfl (by (try simp only [List.map_toArray, List.map_cons, List.map_nil]); first | done | rfl) ?_; (with_reducible refine (impl_RankSystem.calls kj93 _ _ t481 t534 true _ ?side1 ?side2 A105.out).mono ?_); (case side1 => repeat (first | exact (Kd.R_reads' HO_7.out).2.2 | (with_reducible refine Kd.C_alloc ?_ _) | (with_reducible refine Kd.C_drewN ?_ _) | (with_reducible refine Kd.C_drew ?_))); (case side2 => exact (Kd.R_reads' HO_7.out).2.1); rintro e w152 ⟨rfl, hb⟩; refine ⟨_, rfl, ?_⟩; replace HO_7 := Aside0.mk (Kd.R_below (by (with_reducible repeat (first | apply rA | apply rN | apply rD)); exact HO_7.out) hb); replace HB := Aside0.mk (below_step (by repeat (first | exact HB.out | apply bA | apply bN | apply bD)) hb); (try clear hb2); (try clear hb hk hi)) | ((with_reducible refine gate_callee (f := 22) rfl ?_); refine goesL_ (some 240) rfl rfl Try.func22 (by kernel_rfl) rfl #[.slice Ao151 t481.length co151] rfl (by (try simp only [List.map_toArray, List.map_cons, List.map_nil]); first | done | rfl) ?_; (with_reducible refine (impl_NextSystem.calls kj93 _ _ t481 t536 t537 _ ?side1 ?side2 A106.out).mono ?_); (case side1 => repeat (first | exact (Kd.R_reads' HO_7.out).2.2 | (with_reducible refine Kd.C_alloc ?_ _) | (with_reducible refine Kd.C_drewN ?_ _) | (with_reducible refine Kd.C_drew ?_))); (case side2 => exact (Kd.R_reads' HO_7.out).2.1); rintro e w153 ⟨v538, rfl, ho0, hb⟩; refine ⟨_, rfl, ?_⟩; have HO539 := Aside0.mk (Kd.R_lower (Kd.R_new' ho0 (Kd.R_lt (by (with_reducible repeat (first | apply rA | apply rN | apply rD)); exact HO_7.out))) (below_size (by repeat (first | exact HB.out | apply bA | apply bN | apply bD)))); replace HO_7 := Aside0.mk (Kd.R_elder' (by (with_reducible repeat (first | apply rA | apply rN | apply rD)); exact HO_7.out) (Kd.R_base ho0) hb); replace HB := Aside0.mk (below_step (by repeat (first | exact HB.out | apply bA | apply bN | apply bD)) hb); (try clear hb2); (try clear hb hk hi); (try clear ho0)) | ((with_reducible refine gate_callee (f := 6) rfl ?_); refine goesL_ (some 247) rfl rfl Try.func6 (by kernel_rfl) rfl #[.int .i64 t479, .int .i64 (wrap64 (t480 + 1))] rfl (by (try simp only [List.map_toArray, List.map_cons, List.map_nil]); first | done | rfl) ?_; (with_reducible refine (impl_SystemWith.calls kj93 t479 (wrap64 (t480 + 1)) t540 t541 _ A107.out).mono ?_); rintro e w154 ⟨v542, rfl, ho0, hb⟩; refine ⟨_, rfl, ?_⟩; have HO543 := Aside0.mk (Kd.R_lower (Kd.R_new' (Kd.R_new' ho0 (Kd.R_lt (by (with_reducible repeat (first | apply rA | apply rN | apply rD)); exact HO_7.out))) (Kd.R_lt (by (with_reducible repeat (first | apply rA | apply rN | apply rD)); exact HO539.out))) (below_size (by repeat (first | exact HB.out | apply bA | apply bN | apply bD)))); replace HO_7 := Aside0.mk (Kd.R_elder' (by (with_reducible repeat (first | apply rA | apply rN | apply rD)); exact HO_7.out) (Kd.R_base ho0) hb); replace HO539 := Aside0.mk (Kd.R_elder' (by (with_reducible repeat (first | apply rA | apply rN | apply rD)); exact HO539.out) (Kd.R_base ho0) hb); replace HB := Aside0.mk (below_step (by repeat (first | exact HB.out | apply bA | apply bN | apply bD)) hb); (try clear hb2); (try clear hb hk hi); (try clear ho0)) | ((with_reducible refine gate_callee (f := 20) rfl ?_); refine goesL_ (some 252) rfl rfl Try.func20 (by kernel_rfl) rfl #[.slice Ao151 t481.length co151] rfl (by (try simp only [List.map_toArray, List.map_cons, List.map_nil]); first | done | rfl) ?_; (with_reducible refine (impl_SystemText.calls kj93 _ _ t481 t544 t545 _ ?side1 ?side2 A108.out).mono ?_); (case side1 => repeat (first | exact (Kd.R_reads' HO_7.out).2.2 | (with_reducible refine Kd.C_alloc ?_ _) | (with_reducible refine Kd.C_drewN ?_ _) | (with_reducible refine Kd.C_drew ?_))); (case side2 => exact (Kd.R_reads' HO_7.out).2.1); rintro e w155 ⟨rfl, hb⟩; refine ⟨_, rfl, ?_⟩; replace HO_7 := Aside0.mk (Kd.R_below (by (with_reducible repeat (first | apply rA | apply rN | apply rD)); exact HO_7.out) hb); replace HO539 := Aside0.mk (Kd.R_below (by (with_reducible repeat (first | apply rA | apply rN | apply rD)); exact HO539.out) hb); replace HO543 := Aside0.mk (Kd.R_below (by (with_reducible repeat (first | apply rA | apply rN | apply rD)); exact HO543.out) hb); replace HB := Aside0.mk (below_step (by repeat (first | exact HB.out | apply bA | apply bN | apply bD)) hb); (try clear hb2); (try clear hb hk hi)) | ((with_reducible refine gate_callee (f := 18) rfl ?_); refine goesL_ (some 257) rfl rfl Try.func18 (by kernel_rfl) rfl #[.string t544] rfl (by (try simp only [List.map_toArray, List.map_cons, List.map_nil]); first | done | rfl) ?_; (with_reducible refine (impl_ParseSystem.calls kj93 t544 t546 t547 _ A109.out).mono ?_); rintro e w156 ⟨v548, rfl, ho0, hb⟩; refine ⟨_, rfl, ?_⟩; have HO549 := Aside0.mk (Kd.R_lower (Kd.R_new' (Kd.R_new' (Kd.R_new' ho0 (Kd.R_lt (by (with_reducible repeat (first | apply rA | apply rN | apply rD)); exact HO_7.out))) (Kd.R_lt (by (with_reducible repeat (first | apply rA | apply rN | apply rD)); exact HO539.out))) (Kd.R_lt (by (with_reducible repeat (first | apply rA | apply rN | apply rD)); exact HO543.out))) (below_size (by repeat (first | exact HB.out | apply bA | apply bN | apply bD)))); replace HO_7 := Aside0.mk (Kd.R_elder' (by (with_reducible repeat (first | apply rA | apply rN | apply rD)); exact HO_7.out) (Kd.R_base ho0) hb); replace HO539 := Aside0.mk (Kd.R_elder' (by (with_reducible repeat (first | apply rA | apply rN | apply rD)); exact HO539.out) (Kd.R_base ho0) hb); replace HO543 := Aside0.mk (Kd.R_elder' (by (with_reducible repeat (first | apply rA | apply rN | apply rD)); exact HO543.out) (Kd.R_base ho0) hb); replace HB := Aside0.mk (below_step (by repeat (first | exact HB.out | apply bA | apply bN | apply bD)) hb); (try clear hb2); (try clear hb hk hi); (try clear ho0)))
                   go_ret
                   exact ⟨by first | rfl | (simp [*, errW_none, errW_some] <;> rfl), by repeat (first | exact HB.out | apply bA | apply bN | apply bD)⟩)
          · rw [if_neg c111] at H
            have c111b0 : (t534 == t480) = false := beq_eq_false_iff_ne.mpr c111
            have c111b1 : (t534 != t480) = true := bne_iff_ne.mpr c111
            have hrr_ := Option.some.inj H
            rw [hr_] at hrr_
            first
              | exact absurd hrr_ (by decide)
              | (clear hrr_
                 obtain rfl := Option.some.inj H
                 obtain ⟨Ao157, co157, eo157⟩ := Kd.R_slice HO_7.out
                 subst eo157
                 go_wp2_with (first | ((with_reducible refine gate_callee (f := 24) rfl ?_); refine goesL_ (some 235) rfl rfl Try.func24 (by kernel_rfl) rfl #[.slice Ao157 t481.length co157] rfl (by (try simp only [List.map_toArray, List.map_cons, List.map_nil]); first | done | rfl) ?_; (with_reducible refine (impl_RankSystem.calls kj93 _ _ t481 t534 true _ ?side1 ?side2 A105.out).mono ?_); (case side1 => repeat (first | exact (Kd.R_reads' HO_7.out).2.2 | (with_reducible refine Kd.C_alloc ?_ _) | (with_reducible refine Kd.C_drewN ?_ _) | (with_reducible refine Kd.C_drew ?_))); (case side2 => exact (Kd.R_reads' HO_7.out).2.1); rintro e w158 ⟨rfl, hb⟩; refine ⟨_, rfl, ?_⟩; replace HO_7 := Aside0.mk (Kd.R_below (by (with_reducible repeat (first | apply rA | apply rN | apply rD)); exact HO_7.out) hb); replace HB := Aside0.mk (below_step (by repeat (first | exact HB.out | apply bA | apply bN | apply bD)) hb); (try clear hb2); (try clear hb hk hi)) | ((with_reducible refine gate_callee (f := 22) rfl ?_); refine goesL_ (some 240) rfl rfl Try.func22 (by kernel_rfl) rfl #[.slice Ao157 t481.length co157] rfl (by (try simp only [List.map_toArray, List.map_cons, List.map_nil]); first | done | rfl) ?_; (with_reducible refine (impl_NextSystem.calls kj93 _ _ t481 t536 t537 _ ?side1 ?side2 A106.out).mono ?_); (case side1 => repeat (first | exact (Kd.R_reads' HO_7.out).2.2 | (with_reducible refine Kd.C_alloc ?_ _) | (with_reducible refine Kd.C_drewN ?_ _) | (with_reducible refine Kd.C_drew ?_))); (case side2 => exact (Kd.R_reads' HO_7.out).2.1); rintro e w159 ⟨v538, rfl, ho0, hb⟩; refine ⟨_, rfl, ?_⟩; have HO539 := Aside0.mk (Kd.R_lower (Kd.R_new' ho0 (Kd.R_lt (by (with_reducible repeat (first | apply rA | apply rN | apply rD)); exact HO_7.out))) (below_size (by repeat (first | exact HB.out | apply bA | apply bN | apply bD)))); replace HO_7 := Aside0.mk (Kd.R_elder' (by (with_reducible repeat (first | apply rA | apply rN | apply rD)); exact HO_7.out) (Kd.R_base ho0) hb); replace HB := Aside0.mk (below_step (by repeat (first | exact HB.out | apply bA | apply bN | apply bD)) hb); (try clear hb2); (try clear hb hk hi); (try clear ho0)) | ((with_reducible refine gate_callee (f := 6) rfl ?_); refine goesL_ (some 247) rfl rfl Try.func6 (by kernel_rfl) rfl #[.int .i64 t479, .int .i64 (wrap64 (t480 + 1))] rfl (by (try simp only [List.map_toArray, List.map_cons, List.map_nil]); first | done | rfl) ?_; (with_reducible refine (impl_SystemWith.calls kj93 t479 (wrap64 (t480 + 1)) t540 t541 _ A107.out).mono ?_); rintro e w160 ⟨v542, rfl, ho0, hb⟩; refine ⟨_, rfl, ?_⟩; have HO543 := Aside0.mk (Kd.R_lower (Kd.R_new' (Kd.R_new' ho0 (Kd.R_lt (by (with_reducible repeat (first | apply rA | apply rN | apply rD)); exact HO_7.out))) (Kd.R_lt (by (with_reducible repeat (first | apply rA | apply rN | apply rD)); exact HO539.out))) (below_size (by repeat (first | exact HB.out | apply bA | apply bN | apply bD)))); replace HO_7 := Aside0.mk (Kd.R_elder' (by (with_reducible repeat (first | apply rA | apply rN | apply rD)); exact HO_7.out) (Kd.R_base ho0) hb); replace HO539 := Aside0.mk (Kd.R_elder' (by (with_reducible repeat (first | apply rA | apply rN | apply rD)); exact HO539.out) (Kd.R_base ho0) hb); replace HB := Aside0.mk (below_step (by repeat (first | exact HB.out | apply bA | apply bN | apply bD)) hb); (try clear hb2); (try clear hb hk hi); (try clear ho0)) | ((with_reducible refine gate_callee (f := 20) rfl ?_); refine goesL_ (some 252) rfl rfl Try.func20 (by kernel_rfl) rfl #[.slice Ao157 t481.length co157] rfl (by (try simp only [List.map_toArray, List.map_cons, List.map_nil]); first | done | rfl) ?_; (with_reducible refine (impl_SystemText.calls kj93 _ _ t481 t544 t545 _ ?side1 ?side2 A108.out).mono ?_); (case side1 => repeat (first | exact (Kd.R_reads' HO_7.out).2.2 | (with_reducible refine Kd.C_alloc ?_ _) | (with_reducible refine Kd.C_drewN ?_ _) | (with_reducible refine Kd.C_drew ?_))); (case side2 => exact (Kd.R_reads' HO_7.out).2.1); rintro e w161 ⟨rfl, hb⟩; refine ⟨_, rfl, ?_⟩; replace HO_7 := Aside0.mk (Kd.R_below (by (with_reducible repeat (first | apply rA | apply rN | apply rD)); exact HO_7.out) hb); replace HO539 := Aside0.mk (Kd.R_below (by (with_reducible repeat (first | apply rA | apply rN | apply rD)); exact HO539.out) hb); replace HO543 := Aside0.mk (Kd.R_below (by (with_reducible repeat (first | apply rA | apply rN | apply rD)); exact HO543.out) hb); replace HB := Aside0.mk (below_step (by repeat (first | exact HB.out | apply bA | apply bN | apply bD)) hb); (try clear hb2); (try clear hb hk hi)) | ((with_reducible refine gate_callee (f := 18) rfl ?_); refine goesL_ (some 257) rfl rfl Try.func18 (by kernel_rfl) rfl #[.string t544] rfl (by (try simp only [List.map_toArray, List.map_cons, List.map_nil]); first | done | rfl) ?_; (with_reducible refine (impl_ParseSystem.calls kj93 t544 t546 t547 _ A109.out).mono ?_); rintro e w162 ⟨v548, rfl, ho0, hb⟩; refine ⟨_, rfl, ?_⟩; have HO549 := Aside0.mk (Kd.R_lower (Kd.R_new' (Kd.R_new' (Kd.R_new' ho0 (Kd.R_lt (by (with_reducible repeat (first | apply rA | apply rN | apply rD)); exact HO_7.out))) (Kd.R_lt (by (with_reducible repeat (first | apply rA | apply rN | apply rD)); exact HO539.out))) (Kd.R_lt (by (with_reducible repeat (first | apply rA | apply rN | apply rD)); exact HO543.out))) (below_size (by repeat (first | exact HB.out | apply bA | apply bN | apply bD)))); replace HO_7 := Aside0.mk (Kd.R_elder' (by (with_reducible repeat (first | apply rA | apply rN | apply rD)); exact HO_7.out) (Kd.R_base ho0) hb); replace HO539 := Aside0.mk (Kd.R_elder' (by (with_reducible repeat (first | apply rA | apply rN | apply rD)); exact HO539.out) (Kd.R_base ho0) hb); replace HO543 := Aside0.mk (Kd.R_elder' (by (with_reducible repeat (first | apply rA | apply rN | apply rD)); exact HO543.out) (Kd.R_base ho0) hb); replace HB := Aside0.mk (below_step (by repeat (first | exact HB.out | apply bA | apply bN | apply bD)) hb); (try clear hb2); (try clear hb hk hi); (try clear ho0)))
                 go_ret
                 exact ⟨by first | rfl | (simp [*, errW_none, errW_some] <;> rfl), by repeat (first | exact HB.out | apply bA | apply bN | apply bD)⟩)
        · replace c110 := Bool.eq_false_iff.mpr c110
          subst c110
          have H1 : (some false) = some r := by rw [if_neg (show ¬ (false = true) by decide)] at H; exact H
          rw [hr_] at H1; exact absurd H1 (by decide)
      · replace c104 := Bool.eq_false_iff.mpr c104
        subst c104
        have H1 : (some true) = some r := by rw [if_neg (show ¬ (false = true) by decide)] at H; exact H
        clear H
        have H := H1
        clear H1
        have hrr_ := Option.some.inj H
        rw [hr_] at hrr_
        first
          | exact absurd hrr_ (by decide)
          | (clear hrr_
             obtain rfl := Option.some.inj H
             go_wp2
             go_ret
             exact ⟨by first | rfl | (simp [*, errW_none, errW_some] <;> rfl), by repeat (first | exact HB.out | apply bA | apply bN | apply bD)⟩)

end Go.Proofs.Ytpbadjdeghmenaa.QFnSystemsListed
