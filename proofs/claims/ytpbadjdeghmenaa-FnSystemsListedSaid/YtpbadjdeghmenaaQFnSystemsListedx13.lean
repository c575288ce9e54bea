-- Written by wip/myprint.py (a program of mine round the kit's printer). Lean checks it.
import Derived.Test.YtpbadjdeghmenaaQFnSystemsListedx11
import Derived.Test.YtpbadjdeghmenaaQFnSystemsListedx12
namespace Go.Proofs.Ytpbadjdeghmenaa.QFnSystemsListed
open Go.RowKit Go.Proofs.YtpbadjdeghmenaaW.PrintWords Go.Proofs.YtpbadjdeghmenaaW.PrintLast Go.Proofs.YtpbadjdeghmenaaW.PrintMore
attribute [local go_sem] max2_int min2_int max_two min_two max_three min_three max_four min_four   -- for this text's walks alone
set_option linter.unusedVariables false
set_option linter.unusedSimpArgs false

noncomputable def laws_FnSystemsListed.part3.rest : Code := ((Try.f3.body.bind (laws_FnSystemsListed.findRest 30)).getD .skip)
noncomputable def laws_FnSystemsListed.part3.joint : Code := ((Try.f3.body.bind (laws_FnSystemsListed.findCond 196)).getD .skip)
set_option maxHeartbeats 8000000 in
set_option maxRecDepth 1000000 in
theorem laws_FnSystemsListed.part3 (k : Nat) (A0 : Option Addr) (c0 : Nat) (l0 : List Int) (A1 : Option Addr) (c1 : Nat) (l1 : List Int) (r : Bool) (w : World) (hr_ : r = true) (HR0 : Aside0 ((Kd.int IntKind.u8).C w A0 l0.length l0)) (HC0 : Aside0 (l0.length ≤ c0)) (t479 t480 : Int) (t481 : List Int) (t482 t486 : Bool) (t489 : Int) (t490 : Bool) (t491 : Int) (t492 : Bool) (v483 v487 : Value) (nd kj9 : Nat) (HJ9 : Aside0 (kj9 + 1 ≤ k)) (t494 : Int) (t495 : List (List Int)) (t496 t500 : Bool) (v501 : Value) (kj37 : Nat) (HJ37 : Aside0 (kj37 + 1 ≤ kj9)) (Ao47 : Option Addr) (co47 : Nat) (u20 u21 : Value) (x132_3 : Int) (k3 : Nat) (HK3 : Aside0 (k3 + 1 ≤ kj37)) (u4 u22 u23 : Value) (kj59 : Nat) (HJ59 : Aside0 (kj59 + 1 ≤ k3)) (t510 : ByteArray) (t511 : List Int) (t512 : Bool) (t515 : List Int) (t516 : Bool) (HC71 : Aside0 ((if (t512 != t516) = true then j4 kj59 l0 t479 t480 t481 t486 t510 t511 t512 true else (laws_sSame.f kj59 t511 t515).bind fun t519 => j4 kj59 l0 t479 t480 t481 t486 t510 t511 t512 !t519) = some r)) (v513 : Value) (w74 : World) (v517 : Value) (HO_7 : Aside0 ((Kd.int IntKind.i64).R 3 w74 w.heap.size (fun k => (True ∧ some k ≠ v513.ownBlock) ∧ some k ≠ v517.ownBlock) v483 t481)) (HB : Aside0 (Below w.heap.size w w74)) (wc : World) (u46 u47 : Value) (u48 u49 : Value) (u50 u51 : Value) (u52 u53 : Value) (u54 u55 : Value) (u56 u57 : Value) (u58 u59 : Value) (u60 u61 : Value) (u62 u63 : Value) (u64 u65 : Value) (u66 u67 : Value) (u68 u69 : Value) (u70 u71 : Value) (u72 u73 : Value) (u74 u75 : Value) (u76 u77 : Value) (u78 u79 : Value) (u80 u81 : Value) (u82 u83 : Value) (u84 u85 : Value) (u86 u87 : Value) (u88 u89 : Value) (u90 u91 : Value) (u92 u93 : Value) (u94 u95 : Value) (u96 u97 : Value) (u98 u99 : Value) (u100 u101 : Value) (u102 u103 : Value) (u104 u105 : Value) (u106 u107 : Value) (u108 u109 : Value) (u110 u111 : Value) (u112 u113 : Value) (u114 u115 : Value) (u116 u117 : Value) (u118 u119 : Value) (u120 u121 : Value) (u122 u123 : Value) (u124 u125 : Value) (u126 u127 : Value) (u128 u129 : Value) (u133 u134 : Value) (u135 u136 : Value) (u137 u138 : Value) (u139 u140 : Value) (u141 u142 : Value) (u143 u144 : Value) (u145 u146 : Value) (u147 u148 : Value) (u149 u150 : Value) (u151 u152 : Value) (u153 u154 : Value) (u155 u156 : Value) (u157 u158 : Value) (u159 u160 : Value) (u161 u162 : Value) (u163 u164 : Value) (u165 u166 : Value) (u167 u168 : Value) (u169 u170 : Value) (u171 u172 : Value) (u173 u174 : Value) (u175 u176 : Value) (u177 u178 : Value) (u179 u180 : Value) (u181 u182 : Value) (u183 u184 : Value) (u185 u186 : Value) (u187 u188 : Value) (u189 u190 : Value) (u191 u192 : Value) (u193 u194 : Value) (u195 u196 : Value) (u197 u198 : Value) (u199 u200 : Value) (u201 u202 : Value) (u203 u204 : Value) (u205 u206 : Value) (u207 u208 : Value) (u209 u210 : Value) (u211 u212 : Value) (u213 u214 : Value) (u215 u216 : Value) (u217 u218 : Value) (u219 u220 : Value) (u221 u222 : Value) (u223 u224 : Value) (u225 u226 : Value) (u227 u228 : Value) (u229 u230 : Value) (u231 u232 : Value) (u233 u234 : Value) (u235 u236 : Value) (u237 u238 : Value) (u239 u240 : Value) (u241 u242 : Value) (u243 u244 : Value) (u245 u246 : Value) (u247 u248 : Value) (u249 u250 : Value) (u251 u252 : Value) (u253 u254 : Value) (u255 u256 : Value) (u257 u258 : Value) (u259 u260 : Value) (u261 u262 : Value) (u263 u264 : Value) (u265 u266 : Value) (u267 u268 : Value) (u269 u270 : Value) (u271 u272 : Value) (u273 u274 : Value) (u275 u276 : Value) (u277 u278 : Value) (u279 u280 : Value) (u281 u282 : Value) (u283 u284 : Value) (u285 u286 : Value) (K1_ : Act → World → Prop) (a1_ : ∀ (a_ : Act) (w_ : World), Code.wp Try.prog laws_FnSystemsListed.part3.rest (bodyPost Try.prog Try.f3 fun e w' => e = Ending.returned (Value.bool r) ∧ Below w.heap.size w w') a_ w_ → K1_ a_ w_) (K2_ : Act → World → Prop) (a2_ : ∀ (a_ : Act) (w_ : World), Code.wp Try.prog laws_FnSystemsListed.part3.joint (Exit.then K1_ (bodyPost Try.prog Try.f3 fun e w' => e = Ending.returned (Value.bool r) ∧ Below w.heap.size w w')) a_ w_ → K2_ a_ w_) (hcut : ∃ kq x196_70, u196 = Value.bool x196_70 ∧ Aside0 (j4 kq l0 t479 t480 t481 t486 t510 t511 t512 x196_70 = some r) ∧ Aside0 (kq ≤ kj59) ∧ Aside0 ((Kd.int IntKind.i64).R 3 wc w.heap.size (fun k_ => some k_ ≠ v513.ownBlock) v483 t481) ∧ Aside0 ((Kd.int IntKind.i64).R 3 wc w.heap.size (fun k_ => some k_ ≠ v483.ownBlock) v513 t511) ∧ Aside0 (Below w.heap.size w wc)) :
    K2_ { tmps := #[Value.slice A0 l0.length c0, Value.slice A1 l1.length c1, undef, undef, u4, Value.int IntKind.i64 t479, Value.int IntKind.i64 t480, v483, Value.bool t482, v487, Value.bool t486, Value.int IntKind.i64 t489, Value.bool t490, Value.int IntKind.i64 t491, Value.bool t492, Value.int IntKind.i64 t494, Value.slice Ao47 t495.length co47, Value.bool t496, v501, Value.bool t500, u20, u21, u22, u23, Value.string t510, v513, Value.bool t512, v517, Value.bool t516, undef, undef, undef, undef, undef, undef, undef, undef, undef, undef, undef, undef, undef, undef, undef, undef, undef, u46, u47, u48, u49, u50, u51, u52, u53, u54, u55, u56, u57, u58, u59, u60, u61, u62, u63, u64, u65, u66, u67, u68, u69, u70, u71, u72, u73, u74, u75, u76, u77, u78, u79, u80, u81, u82, u83, u84, u85, u86, u87, u88, u89, u90, u91, u92, u93, u94, u95, u96, u97, u98, u99, u100, u101, u102, u103, u104, u105, u106, u107, u108, u109, u110, u111, u112, u113, u114, u115, u116, u117, u118, u119, u120, u121, u122, u123, u124, u125, u126, u127, u128, u129, Value.slice Ao47 t495.length co47, Value.int IntKind.i64 ((t495.length : Nat) : Int), Value.int IntKind.i64 x132_3, u133, u134, u135, u136, u137, u138, u139, u140, u141, u142, u143, u144, u145, u146, u147, u148, u149, u150, u151, u152, u153, u154, u155, u156, u157, u158, u159, u160, u161, u162, u163, u164, u165, u166, u167, u168, u169, u170, u171, u172, u173, u174, u175, u176, u177, u178, u179, u180, u181, u182, u183, u184, u185, u186, u187, u188, u189, u190, u191, u192, u193, u194, u195, u196, u197, u198, u199, u200, u201, u202, u203, u204, u205, u206, u207, u208, u209, u210, u211, u212, u213, u214, u215, u216, u217, u218, u219, u220, u221, u222, u223, u224, u225, u226, u227, u228, u229, u230, u231, u232, u233, u234, u235, u236, u237, u238, u239, u240, u241, u242, u243, u244, u245, u246, u247, u248, u249, u250, u251, u252, u253, u254, u255, u256, u257, u258, u259, u260, u261, u262, u263, u264, u265, u266, u267, u268, u269, u270, u271, u272, u273, u274, u275, u276, u277, u278, u279, u280, u281, u282, u283, u284, u285, u286], defers := [] } wc := by
  obtain ⟨c_, hc_⟩ : ∃ c_, c_ = laws_FnSystemsListed.part3.rest := ⟨_, rfl⟩
  rw [← hc_] at a1_
  conv at hc_ =>
    rhs
    whnf
  subst hc_
  obtain ⟨c_, hc_⟩ : ∃ c_, c_ = laws_FnSystemsListed.part3.joint := ⟨_, rfl⟩
  rw [← hc_] at a2_
  conv at hc_ =>
    rhs
    whnf
  subst hc_
  clear HC71
  try clear p2
  try clear p5
  try clear q5
  try clear hx5
  try clear p6
  try clear p50
  try clear q50
  try clear hx50
  try clear p64
  try clear hx504_0
  try clear hx506_0
  try clear p2
  try clear p5
  try clear p50
  try clear p504
  try clear p506
  try clear p6
  try clear p64
  try clear q5
  try clear q50
  try clear q504
  try clear q506
  obtain ⟨kq, x196_70, rfl, HA, HJ70, HO_7, HO_25, HB⟩ := hcut
  cases kq with
  | zero => exact absurd HA.out (by simp [laws_FnSystemsListed.j4])
  | succ kj70 =>
    have H := HA.out
    clear HA
    simp only [laws_FnSystemsListed.j4] at H
    by_cases c79 : x196_70 = true
    · subst c79
      have H1 : (some false) = some r := by rw [if_pos rfl] at H; exact H
      rw [hr_] at H1; exact absurd H1 (by decide)
    · replace c79 := Bool.eq_false_iff.mpr c79
      subst c79
      have H1 : (if t512 = true then ((impl_SystemText.f kj70 t511).bind fun bt520 => (if bt520.2 = true then (if bt520.1.toList = t510.toList then (laws_FnSystemsListed.j5 kj70 l0 t479 t480 t481 t486) else (some false)) else (some false))) else (laws_FnSystemsListed.j5 kj70 l0 t479 t480 t481 t486)) = some r := by rw [if_neg (show ¬ (false = true) by decide)] at H; exact H
      clear H
      have H := H1
      clear H1
      have HC80 := Aside0.mk H
      clear H
      go_upto_if 197 with (fail)
      go_cut [] (fun wc => ∃ (kq : Nat), Aside0 (laws_FnSystemsListed.j5 kq l0 t479 t480 t481 t486 = some r) ∧ Aside0 (kq ≤ kj70) ∧ Aside0 (Kd.R (Kd.int .i64) 3 wc w.heap.size (fun _ => True) v483 t481) ∧ Aside0 (Below w.heap.size w wc))
      case first =>
        have H := HC80.out
        clear HC80
        by_cases c81 : t512 = true
        · subst c81
          have H1 : ((impl_SystemText.f kj70 t511).bind fun bt520 => (if bt520.2 = true then (if bt520.1.toList = t510.toList then (laws_FnSystemsListed.j5 kj70 l0 t479 t480 t481 t486) else (some false)) else (some false))) = some r := by rw [if_pos rfl] at H; exact H
          clear H
          have H := H1
          clear H1
          replace H := Option.bind_eq_some_iff.mp H
          obtain ⟨⟨t520, t521⟩, A820, H⟩ := H
          replace H : (if t521 = true then (if t520.toList = t510.toList then (laws_FnSystemsListed.j5 kj70 l0 t479 t480 t481 t486) else (some false)) else (some false)) = some r := H
          have A82 := Aside0.mk A820
          clear A820
          by_cases c83 : t521 = true
          · subst c83
            have H1 : (if t520.toList = t510.toList then (laws_FnSystemsListed.j5 kj70 l0 t479 t480 t481 t486) else (some false)) = some r := by rw [if_pos rfl] at H; exact H
            clear H
            have H := H1
            clear H1
            by_cases c84 : t520.toList = t510.toList
            · rw [if_pos c84] at H
              have c84b0 : (t520.toList == t510.toList) = true := beq_iff_eq.mpr c84
              have c84b1 : (t520.toList != t510.toList) = false := bne_eq_false_iff_eq.mpr c84
              clear c84
              (first | rw [c84b0] | (simp only [i64_w, i32_w]; rw [c84b0]) | skip)
              have H' := Aside0.mk H
              clear H
              obtain ⟨Ao85, co85, eo85⟩ := Kd.R_slice HO_25.out
              subst eo85
              go_wp2_with (first | ((with_reducible refine gate_callee (f := 20) rfl ?_); refine goesL_ (some 200) rfl rfl Try.func20 (by kernel_rfl) rfl #[.slice Ao85 t511.length co85] rfl (by (try simp only [List.map_toArray, List.map_cons, List.map_nil]); first | done | rfl) ?_; (with_reducible refine (impl_SystemText.calls kj70 _ _ t511 t520 true _ ?side1 ?side2 A82.out).mono ?_); (case side1 => repeat (first | exact (Kd.R_reads' HO_25.out).2.2 | (with_reducible refine Kd.C_alloc ?_ _) | (with_reducible refine Kd.C_drewN ?_ _) | (with_reducible refine Kd.C_drew ?_))); (case side2 => exact (Kd.R_reads' HO_25.out).2.1); rintro e w86 ⟨rfl, hb⟩; refine ⟨_, rfl, ?_⟩; replace HO_7 := Aside0.mk (Kd.R_below (by (with_reducible repeat (first | apply rA | apply rN | apply rD)); exact HO_7.out) hb); replace HO_25 := Aside0.mk (Kd.R_below (by (with_reducible repeat (first | apply rA | apply rN | apply rD)); exact HO_25.out) hb); replace HB := Aside0.mk (below_step (by repeat (first | exact HB.out | apply bA | apply bN | apply bD)) hb); (try clear hb2); (try clear hb hk hi)))
              go_meet
              case rel => exact ⟨_, H', ⟨by have := HJ9.out; have := HJ37.out; have := HK3.out; have := HJ59.out; have := HJ70.out; first | omega | exact Nat.le_refl _⟩, ⟨by (with_reducible repeat (first | apply rA | apply rN | apply rD)); exact Kd.R_mono HO_7.out (fun _ hk => trivial)⟩, ⟨by repeat (first | exact HB.out | apply bA | apply bN | apply bD)⟩⟩
            · rw [if_neg c84] at H
              have c84b0 : (t520.toList == t510.toList) = false := beq_eq_false_iff_ne.mpr c84
              have c84b1 : (t520.toList != t510.toList) = true := bne_iff_ne.mpr c84
              (first | rw [c84b0] | (simp only [i64_w, i32_w]; rw [c84b0]) | skip)
              have hrr_ := Option.some.inj H
              rw [hr_] at hrr_
              first
                | exact absurd hrr_ (by decide)
                | (clear hrr_
                   obtain rfl := Option.some.inj H
                   obtain ⟨Ao87, co87, eo87⟩ := Kd.R_slice HO_25.out
                   subst eo87
                   go_wp2_with (first | ((with_reducible refine gate_callee (f := 20) rfl ?_); refine goesL_ (some 200) rfl rfl Try.func20 (by kernel_rfl) rfl #[.slice Ao87 t511.length co87] rfl (by (try simp only [List.map_toArray, List.map_cons, List.map_nil]); first | done | rfl) ?_; (with_reducible refine (impl_SystemText.calls kj70 _ _ t511 t520 true _ ?side1 ?side2 A82.out).mono ?_); (case side1 => repeat (first | exact (Kd.R_reads' HO_25.out).2.2 | (with_reducible refine Kd.C_alloc ?_ _) | (with_reducible refine Kd.C_drewN ?_ _) | (with_reducible refine Kd.C_drew ?_))); (case side2 => exact (Kd.R_reads' HO_25.out).2.1); rintro e w88 ⟨rfl, hb⟩; refine ⟨_, rfl, ?_⟩; replace HO_7 := Aside0.mk (Kd.R_below (by (with_reducible repeat (first | apply rA | apply rN | apply rD)); exact HO_7.out) hb); replace HO_25 := Aside0.mk (Kd.R_below (by (with_reducible repeat (first | apply rA | apply rN | apply rD)); exact HO_25.out) hb); replace HB := Aside0.mk (below_step (by repeat (first | exact HB.out | apply bA | apply bN | apply bD)) hb); (try clear hb2); (try clear hb hk hi)))
                   go_ret
                   exact ⟨by first | rfl | (simp [*, errW_none, errW_some] <;> rfl), by repeat (first | exact HB.out | apply bA | apply bN | apply bD)⟩)
          · replace c83 := Bool.eq_false_iff.mpr c83
            subst c83
            have H1 : (some false) = some r := by rw [if_neg (show ¬ (false = true) by decide)] at H; exact H
            rw [hr_] at H1; exact absurd H1 (by decide)
        · replace c81 := Bool.eq_false_iff.mpr c81
          subst c81
          have H1 : (laws_FnSystemsListed.j5 kj70 l0 t479 t480 t481 t486) = some r := by rw [if_neg (show ¬ (false = true) by decide)] at H; exact H
          clear H
          have H := H1
          clear H1
          have H' := Aside0.mk H
          clear H
          go_wp2
          go_meet
          case rel => exact ⟨_, H', ⟨by have := HJ9.out; have := HJ37.out; have := HK3.out; have := HJ59.out; have := HJ70.out; first | omega | exact Nat.le_refl _⟩, ⟨by (with_reducible repeat (first | apply rA | apply rN | apply rD)); exact Kd.R_mono HO_7.out (fun _ hk => trivial)⟩, ⟨by repeat (first | exact HB.out | apply bA | apply bN | apply bD)⟩⟩
      case rest =>
        clear HC80
        try clear p2
        try clear p5
        try clear q5
        try clear hx5
        try clear p6
        try clear p50
        try clear q50
        try clear hx50
        try clear p64
        try clear hx504_0
        try clear hx506_0
        try clear p2
        try clear p5
        try clear p50
        try clear p504
        try clear p506
        try clear p6
        try clear p64
        try clear q5
        try clear q50
        try clear q504
        try clear q506
        obtain ⟨kq, HA, HJ79, HO_7, HB⟩ := hcut
        cases kq with
        | zero => exact absurd HA.out (by simp [laws_FnSystemsListed.j5])
        | succ kj79 =>
          have H := HA.out
          clear HA
          simp only [laws_FnSystemsListed.j5] at H
          replace H := Option.bind_eq_some_iff.mp H
          obtain ⟨t522, A910, H⟩ := H
          replace H : ((impl_NextSystem.f kj79 t522).bind fun bt525 => ((spec_NextSystem.f kj79 t522).bind fun bt529 => (if (bt525.2 != bt529.2) = true then (laws_FnSystemsListed.j6 kj79 t479 t480 t481 t486 true) else ((laws_sSame.f kj79 bt525.1 bt529.1).bind fun t533 => (laws_FnSystemsListed.j6 kj79 t479 t480 t481 t486 (!t533)))))) = some r := H
          have A91 := Aside0.mk A910
          clear A910
          replace H := Option.bind_eq_some_iff.mp H
          obtain ⟨⟨t525, t526⟩, A920, H⟩ := H
          replace H : ((spec_NextSystem.f kj79 t522).bind fun bt529 => (if (t526 != bt529.2) = true then (laws_FnSystemsListed.j6 kj79 t479 t480 t481 t486 true) else ((laws_sSame.f kj79 t525 bt529.1).bind fun t533 => (laws_FnSystemsListed.j6 kj79 t479 t480 t481 t486 (!t533))))) = some r := H
          have A92 := Aside0.mk A920
          clear A920
          replace H := Option.bind_eq_some_iff.mp H
          obtain ⟨⟨t529, t530⟩, A930, H⟩ := H
          replace H : (if (t526 != t530) = true then (laws_FnSystemsListed.j6 kj79 t479 t480 t481 t486 true) else ((laws_sSame.f kj79 t525 t529).bind fun t533 => (laws_FnSystemsListed.j6 kj79 t479 t480 t481 t486 (!t533)))) = some r := H
          have A93 := Aside0.mk A930
          clear A930
          have HC94 := Aside0.mk H
          clear H
          go_upto_region 37 with (first | ((with_reducible refine gate_callee (f := 21) rfl ?_); refine goesL_ (some 211) rfl rfl Try.func21 (by kernel_rfl) rfl #[.slice A0 l0.length c0] rfl (by (try simp only [List.map_toArray, List.map_cons, List.map_nil]); first | done | rfl) ?_; (with_reducible refine (spec_DrawNextSystem.calls kj79 _ _ l0 t522 _ ?side1 ?side2 A91.out).mono ?_); (case side1 => repeat (first | exact (Kd.C_below HR0.out HB.out) | (with_reducible refine Kd.C_alloc ?_ _) | (with_reducible refine Kd.C_drewN ?_ _) | (with_reducible refine Kd.C_drew ?_))); (case side2 => exact HC0.out); rintro e w95 ⟨v523, rfl, ho0, hb⟩; refine ⟨_, rfl, ?_⟩; have HO524 := Aside0.mk (Kd.R_lower (Kd.R_new' ho0 (Kd.R_lt (by (with_reducible repeat (first | apply rA | apply rN | apply rD)); exact HO_7.out))) (below_size (by repeat (first | exact HB.out | apply bA | apply bN | apply bD)))); replace HO_7 := Aside0.mk (Kd.R_elder' (by (with_reducible repeat (first | apply rA | apply rN | apply rD)); exact HO_7.out) (Kd.R_base ho0) hb); replace HB := Aside0.mk (below_step (by repeat (first | exact HB.out | apply bA | apply bN | apply bD)) hb); (try clear hb2); (try clear hb hk hi); (try clear ho0); obtain ⟨Ao96, co96, eo96⟩ := Kd.R_slice HO524.out; subst eo96) | ((with_reducible refine gate_callee (f := 22) rfl ?_); refine goesL_ (some 214) rfl rfl Try.func22 (by kernel_rfl) rfl #[.slice Ao96 t522.length co96] rfl (by (try simp only [List.map_toArray, List.map_cons, List.map_nil]); first | done | rfl) ?_; (with_reducible refine (impl_NextSystem.calls kj79 _ _ t522 t525 t526 _ ?side1 ?side2 A92.out).mono ?_); (case side1 => repeat (first | exact (Kd.R_reads' HO524.out).2.2 | (with_reducible refine Kd.C_alloc ?_ _) | (with_reducible refine Kd.C_drewN ?_ _) | (with_reducible refine Kd.C_drew ?_))); (case side2 => exact (Kd.R_reads' HO524.out).2.1); rintro e w97 ⟨v527, rfl, ho0, hb⟩; refine ⟨_, rfl, ?_⟩; have HO528 := Aside0.mk (Kd.R_lower (Kd.R_new' (Kd.R_new' ho0 (Kd.R_lt (by (with_reducible repeat (first | apply rA | apply rN | apply rD)); exact HO_7.out))) (Kd.R_lt (by (with_reducible repeat (first | apply rA | apply rN | apply rD)); exact HO524.out))) (below_size (by repeat (first | exact HB.out | apply bA | apply bN | apply bD)))); replace HO_7 := Aside0.mk (Kd.R_elder' (by (with_reducible repeat (first | apply rA | apply rN | apply rD)); exact HO_7.out) (Kd.R_base ho0) hb); replace HO524 := Aside0.mk (Kd.R_elder' (by (with_reducible repeat (first | apply rA | apply rN | apply rD)); exact HO524.out) (Kd.R_base ho0) hb); replace HB := Aside0.mk (below_step (by repeat (first | exact HB.out | apply bA | apply bN | apply bD)) hb); (try clear hb2); (try clear hb hk hi); (try clear ho0)) | ((with_reducible refine gate_callee (f := 23) rfl ?_); refine goesL_ (some 219) rfl rfl Try.func23 (by kernel_rfl) rfl #[.slice Ao96 t522.length co96] rfl (by (try simp only [List.map_toArray, List.map_cons, List.map_nil]); first | done | rfl) ?_; (with_reducible refine (spec_NextSystem.calls kj79 _ _ t522 t529 t530 _ ?side1 ?side2 A93.out).mono ?_); (case side1 => repeat (first | exact (Kd.R_reads' HO524.out).2.2 | (with_reducible refine Kd.C_alloc ?_ _) | (with_reducible refine Kd.C_drewN ?_ _) | (with_reducible refine Kd.C_drew ?_))); (case side2 => exact (Kd.R_reads' HO524.out).2.1); rintro e w98 ⟨v531, rfl, ho0, hb⟩; refine ⟨_, rfl, ?_⟩; have HO532 := Aside0.mk (Kd.R_lower (Kd.R_new' (Kd.R_new' (Kd.R_new' ho0 (Kd.R_lt (by (with_reducible repeat (first | apply rA | apply rN | apply rD)); exact HO_7.out))) (Kd.R_lt (by (with_reducible repeat (first | apply rA | apply rN | apply rD)); exact HO524.out))) (Kd.R_lt (by (with_reducible repeat (first | apply rA | apply rN | apply rD)); exact HO528.out))) (below_size (by repeat (first | exact HB.out | apply bA | apply bN | apply bD)))); replace HO_7 := Aside0.mk (Kd.R_elder' (by (with_reducible repeat (first | apply rA | apply rN | apply rD)); exact HO_7.out) (Kd.R_base ho0) hb); replace HO524 := Aside0.mk (Kd.R_elder' (by (with_reducible repeat (first | apply rA | apply rN | apply rD)); exact HO524.out) (Kd.R_base ho0) hb); replace HO528 := Aside0.mk (Kd.R_elder' (by (with_reducible repeat (first | apply rA | apply rN | apply rD)); exact HO528.out) (Kd.R_base ho0) hb); replace HB := Aside0.mk (below_step (by repeat (first | exact HB.out | apply bA | apply bN | apply bD)) hb); (try clear hb2); (try clear hb hk hi); (try clear ho0)))
          (try simp only [Act.put, List.setIfInBounds_toArray, List.set_cons_zero, List.set_cons_succ])
          go_cut [230] (fun v230 wc => ∃ (kq : Nat) (x230_93 : Bool), v230 = .bool x230_93 ∧ Aside0 (laws_FnSystemsListed.j6 kq t479 t480 t481 t486 x230_93 = some r) ∧ Aside0 (kq ≤ kj79) ∧ Aside0 (Kd.R (Kd.int .i64) 3 wc w.heap.size (fun _ => True) v483 t481) ∧ Aside0 (Below w.heap.size w wc))
          case first =>
            have H := HC94.out
            clear HC94
            by_cases c99 : (t526 != t530) = true
            · rw [if_pos c99] at H
              have c99b0 : (t526 != t530) = true := c99
              (try (have c99b1 : decide (t526 = t530) = false := by simpa using c99))
              (try (have c99b2 : (t526 == t530) = false := by simpa using c99))
              (try (have c99b3 : ¬ (t526 = t530) := by simpa using c99))
              clear c99
              (first | rw [c99b0] | (simp only [i64_w, i32_w]; rw [c99b0]) | skip)
              have H' := Aside0.mk H
              clear H
              go_wp2
              go_meet
              case rel => exact ⟨_, (true), (by first | rfl | (simp; done) | (simp [*]; done)), H', ⟨by have := HJ9.out; have := HJ37.out; have := HK3.out; have := HJ59.out; have := HJ70.out; have := HJ79.out; first | omega | exact Nat.le_refl _⟩, ⟨by (with_reducible repeat (first | apply rA | apply rN | apply rD)); exact Kd.R_mono HO_7.out (fun _ hk => trivial)⟩, ⟨by repeat (first | exact HB.out | apply bA | apply bN | apply bD)⟩⟩
            · rw [if_neg c99] at H
              have c99b0 : (t526 != t530) = false := by simpa using c99
              (try (have c99b1 : decide (t526 = t530) = true := by simpa using c99))
              (try (have c99b2 : (t526 == t530) = true := by simpa using c99))
              clear c99
              (first | rw [c99b0] | (simp only [i64_w, i32_w]; rw [c99b0]) | skip)
              replace H := Option.bind_eq_some_iff.mp H
              obtain ⟨t533, A1000, H⟩ := H
              replace H : (laws_FnSystemsListed.j6 kj79 t479 t480 t481 t486 (!t533)) = some r := H
              have A100 := Aside0.mk A1000
              clear A1000
              have H' := Aside0.mk H
              clear H
              obtain ⟨Ao101, co101, eo101⟩ := Kd.R_slice HO528.out
              subst eo101
              obtain ⟨Ao102, co102, eo102⟩ := Kd.R_slice HO532.out
              subst eo102
              go_wp2_with (first | (go_at_call 10; (with_reducible refine (laws_sSame.calls kj79 _ _ t525 _ _ t529 t533 _ ?side1 ?side2 ?side3 ?side4 A100.out).mono ?_); (case side1 => repeat (first | exact (Kd.R_reads' HO528.out).2.2 | (with_reducible refine Kd.C_alloc ?_ _) | (with_reducible refine Kd.C_drewN ?_ _) | (with_reducible refine Kd.C_drew ?_))); (case side2 => exact (Kd.R_reads' HO528.out).2.1); (case side3 => repeat (first | exact (Kd.R_reads' HO532.out).2.2 | (with_reducible refine Kd.C_alloc ?_ _) | (with_reducible refine Kd.C_drewN ?_ _) | (with_reducible refine Kd.C_drew ?_))); (case side4 => exact (Kd.R_reads' HO532.out).2.1); rintro e w' ⟨rfl, ⟨nd, rfl⟩⟩))
              go_meet
              case rel => exact ⟨_, (!t533), (by first | rfl | (simp; done) | (simp [*]; done)), H', ⟨by have := HJ9.out; have := HJ37.out; have := HK3.out; have := HJ59.out; have := HJ70.out; have := HJ79.out; first | omega | exact Nat.le_refl _⟩, ⟨by (with_reducible repeat (first | apply rA | apply rN | apply rD)); exact Kd.R_mono HO_7.out (fun _ hk => trivial)⟩, ⟨by repeat (first | exact HB.out | apply bA | apply bN | apply bD)⟩⟩
          case rest =>
           rename_i K1_ a1_ K2_ a2_
           exact laws_FnSystemsListed.part5 k A0 c0 l0 A1 c1 l1 r w hr_ t479 t480 t481 t482 t486 t489 t490 t491 t492 v483 v487 nd t494 t495 t496 t500 v501 Ao47 co47 u20 u21 x132_3 u22 u23 t510 t512 t516 v513 v517 u4 u29 u30 kj79 t522 t525 t526 t529 t530 HC94 Ao96 co96 v527 w98 v531 HO_7 HB wc u46 u47 u48 u49 u50 u51 u52 u53 u54 u55 u56 u57 u58 u59 u60 u61 u62 u63 u64 u65 u66 u67 u68 u69 u70 u71 u72 u73 u74 u75 u76 u77 u78 u79 u80 u81 u82 u83 u84 u85 u86 u87 u88 u89 u90 u91 u92 u93 u94 u95 u96 u97 u98 u99 u100 u101 u102 u103 u104 u105 u106 u107 u108 u109 u110 u111 u112 u113 u114 u115 u116 u117 u118 u119 u120 u121 u122 u123 u124 u125 u126 u127 u128 u129 u133 u134 u135 u136 u137 u138 u139 u140 u141 u142 u143 u144 u145 u146 u147 u148 u149 u150 u151 u152 u153 u154 u155 u156 u157 u158 u159 u160 u161 u162 u163 u164 u165 u166 u167 u168 u169 u170 u171 u172 u173 u174 u175 u176 u177 u178 u179 u180 u181 u182 u183 u184 u185 u186 u187 u188 u189 u190 u191 u192 u193 u194 u195 u196 u197 u198 u199 u200 u201 u202 u203 u204 u205 u206 u207 u208 u209 u210 u211 u212 u213 u214 u215 u216 u217 u218 u219 u220 u221 u222 u223 u224 u225 u226 u227 u228 u229 u230 u231 u232 u233 u234 u235 u236 u237 u238 u239 u240 u241 u242 u243 u244 u245 u246 u247 u248 u249 u250 u251 u252 u253 u254 u255 u256 u257 u258 u259 u260 u261 u262 u263 u264 u265 u266 u267 u268 u269 u270 u271 u272 u273 u274 u275 u276 u277 u278 u279 u280 u281 u282 u283 u284 u285 u286 K1_ a1_ K2_ a2_ hcut

end Go.Proofs.Ytpbadjdeghmenaa.QFnSystemsListed
