-- Written by wip/myprint.py (a program of mine round the kit's printer). Lean checks it.
import Derived.Test.YtpbadjdeghmenaaQFnSystemsListedx11
import Derived.Test.YtpbadjdeghmenaaQFnSystemsListedx13
namespace Go.Proofs.Ytpbadjdeghmenaa.QFnSystemsListed
open Go.RowKit Go.Proofs.YtpbadjdeghmenaaW.PrintWords Go.Proofs.YtpbadjdeghmenaaW.PrintLast Go.Proofs.YtpbadjdeghmenaaW.PrintMore
attribute [local go_sem] max2_int min2_int max_two min_two max_three min_three max_four min_four   -- for this text's walks alone
set_option linter.unusedVariables false
set_option linter.unusedSimpArgs false

noncomputable def laws_FnSystemsListed.part1.rest : Code := ((Try.f3.body.bind (laws_FnSystemsListed.findRest 15)).getD .skip)
noncomputable def laws_FnSystemsListed.part1.joint : Code := ((Try.f3.body.bind (laws_FnSystemsListed.findCond 129)).getD .skip)
set_option maxHeartbeats 8000000 in
set_option maxRecDepth 1000000 in
theorem laws_FnSystemsListed.part1 (k : Nat) (A0 : Option Addr) (c0 : Nat) (l0 : List Int) (A1 : Option Addr) (c1 : Nat) (l1 : List Int) (r : Bool) (w : World) (hr_ : r = true) (HR0 : Aside0 ((Kd.int IntKind.u8).C w A0 l0.length l0)) (HC0 : Aside0 (l0.length ≤ c0)) (HR1 : Aside0 ((Kd.int IntKind.u8).C w A1 l1.length l1)) (HC1 : Aside0 (l1.length ≤ c1)) (t479 t480 : Int) (t481 : List Int) (t482 t486 : Bool) (t489 : Int) (t490 : Bool) (t491 : Int) (t492 : Bool) (v483 v487 : Value) (nd kj9 : Nat) (HJ9 : Aside0 (kj9 + 1 ≤ k)) (t494 : Int) (t495 : List (List Int)) (t496 : Bool) (t499 : List (List Int)) (t500 : Bool) (HC38 : Aside0 ((if (t496 != t500) = true then j1 kj9 l0 l1 t479 t480 t481 t486 t494 t495 t496 true else (laws_sSameRows.f kj9 t495 t499).bind fun t503 => j1 kj9 l0 l1 t479 t480 t481 t486 t494 t495 t496 !t503) = some r)) (v497 : Value) (w41 : World) (v501 : Value) (HO_7 : Aside0 ((Kd.int IntKind.i64).R 3 w41 w.heap.size (fun x => True) v483 t481)) (HB : Aside0 (Below w.heap.size w w41)) (wc : World) (u46 u47 : Value) (u48 u49 : Value) (u50 u51 : Value) (u52 u53 : Value) (u54 u55 : Value) (u56 u57 : Value) (u58 u59 : Value) (u60 u61 : Value) (u62 u63 : Value) (u64 u65 : Value) (u66 u67 : Value) (u68 u69 : Value) (u70 u71 : Value) (u72 u73 : Value) (u74 u75 : Value) (u76 u77 : Value) (u78 u79 : Value) (u80 u81 : Value) (u82 u83 : Value) (u84 u85 : Value) (u86 u87 : Value) (u88 u89 : Value) (u90 u91 : Value) (u92 u93 : Value) (u94 u95 : Value) (u96 u97 : Value) (u98 u99 : Value) (u100 u101 : Value) (u102 u103 : Value) (u104 u105 : Value) (u106 u107 : Value) (u108 u109 : Value) (u110 u111 : Value) (u112 u113 : Value) (u114 u115 : Value) (u116 u117 : Value) (u118 u119 : Value) (u120 u121 : Value) (u122 u123 : Value) (u124 u125 : Value) (u126 u127 : Value) (u128 u129 : Value) (u133 u134 : Value) (u135 u136 : Value) (u137 u138 : Value) (u139 u140 : Value) (u141 u142 : Value) (u143 u144 : Value) (u145 u146 : Value) (u147 u148 : Value) (u149 u150 : Value) (u151 u152 : Value) (u153 u154 : Value) (u155 u156 : Value) (u157 u158 : Value) (u159 u160 : Value) (u161 u162 : Value) (u163 u164 : Value) (u165 u166 : Value) (u167 u168 : Value) (u169 u170 : Value) (u171 u172 : Value) (u173 u174 : Value) (u175 u176 : Value) (u177 u178 : Value) (u179 u180 : Value) (u181 u182 : Value) (u183 u184 : Value) (u185 u186 : Value) (u187 u188 : Value) (u189 u190 : Value) (u191 u192 : Value) (u193 u194 : Value) (u195 u196 : Value) (u197 u198 : Value) (u199 u200 : Value) (u201 u202 : Value) (u203 u204 : Value) (u205 u206 : Value) (u207 u208 : Value) (u209 u210 : Value) (u211 u212 : Value) (u213 u214 : Value) (u215 u216 : Value) (u217 u218 : Value) (u219 u220 : Value) (u221 u222 : Value) (u223 u224 : Value) (u225 u226 : Value) (u227 u228 : Value) (u229 u230 : Value) (u231 u232 : Value) (u233 u234 : Value) (u235 u236 : Value) (u237 u238 : Value) (u239 u240 : Value) (u241 u242 : Value) (u243 u244 : Value) (u245 u246 : Value) (u247 u248 : Value) (u249 u250 : Value) (u251 u252 : Value) (u253 u254 : Value) (u255 u256 : Value) (u257 u258 : Value) (u259 u260 : Value) (u261 u262 : Value) (u263 u264 : Value) (u265 u266 : Value) (u267 u268 : Value) (u269 u270 : Value) (u271 u272 : Value) (u273 u274 : Value) (u275 u276 : Value) (u277 u278 : Value) (u279 u280 : Value) (u281 u282 : Value) (u283 u284 : Value) (u285 u286 : Value) (K1_ : Act → World → Prop) (a1_ : ∀ (a_ : Act) (w_ : World), Code.wp Try.prog laws_FnSystemsListed.part1.rest (bodyPost Try.prog Try.f3 fun e w' => e = Ending.returned (Value.bool r) ∧ Below w.heap.size w w') a_ w_ → K1_ a_ w_) (K2_ : Act → World → Prop) (a2_ : ∀ (a_ : Act) (w_ : World), Code.wp Try.prog laws_FnSystemsListed.part1.joint (Exit.then K1_ (bodyPost Try.prog Try.f3 fun e w' => e = Ending.returned (Value.bool r) ∧ Below w.heap.size w w')) a_ w_ → K2_ a_ w_) (hcut : ∃ kq x129_37, u129 = Value.bool x129_37 ∧ Aside0 (j1 kq l0 l1 t479 t480 t481 t486 t494 t495 t496 x129_37 = some r) ∧ Aside0 (kq ≤ kj9) ∧ Aside0 ((Kd.int IntKind.i64).R 3 wc w.heap.size (fun x => True) v483 t481) ∧ Aside0 ((Kd.slice 3 (Kd.int IntKind.i64)).S 26 wc w.heap.size (fun k_ => some k_ ≠ v483.ownBlock) v497 t495) ∧ Aside0 (Below w.heap.size w wc)) :
    K2_ { tmps := #[Value.slice A0 l0.length c0, Value.slice A1 l1.length c1, undef, undef, Value.bool false, Value.int IntKind.i64 t479, Value.int IntKind.i64 t480, v483, Value.bool t482, v487, Value.bool t486, Value.int IntKind.i64 t489, Value.bool t490, Value.int IntKind.i64 t491, Value.bool t492, Value.int IntKind.i64 t494, v497, Value.bool t496, v501, Value.bool t500, undef, undef, undef, undef, undef, undef, undef, undef, undef, undef, undef, undef, undef, undef, undef, undef, undef, undef, undef, undef, undef, undef, undef, undef, undef, undef, u46, u47, u48, u49, u50, u51, u52, u53, u54, u55, u56, u57, u58, u59, u60, u61, u62, u63, u64, u65, u66, u67, u68, u69, u70, u71, u72, u73, u74, u75, u76, u77, u78, u79, u80, u81, u82, u83, u84, u85, u86, u87, u88, u89, u90, u91, u92, u93, u94, u95, u96, u97, u98, u99, u100, u101, u102, u103, u104, u105, u106, u107, u108, u109, u110, u111, u112, u113, u114, u115, u116, u117, u118, u119, u120, u121, u122, u123, u124, u125, u126, u127, u128, u129, undef, undef, undef, u133, u134, u135, u136, u137, u138, u139, u140, u141, u142, u143, u144, u145, u146, u147, u148, u149, u150, u151, u152, u153, u154, u155, u156, u157, u158, u159, u160, u161, u162, u163, u164, u165, u166, u167, u168, u169, u170, u171, u172, u173, u174, u175, u176, u177, u178, u179, u180, u181, u182, u183, u184, u185, u186, u187, u188, u189, u190, u191, u192, u193, u194, u195, u196, u197, u198, u199, u200, u201, u202, u203, u204, u205, u206, u207, u208, u209, u210, u211, u212, u213, u214, u215, u216, u217, u218, u219, u220, u221, u222, u223, u224, u225, u226, u227, u228, u229, u230, u231, u232, u233, u234, u235, u236, u237, u238, u239, u240, u241, u242, u243, u244, u245, u246, u247, u248, u249, u250, u251, u252, u253, u254, u255, u256, u257, u258, u259, u260, u261, u262, u263, u264, u265, u266, u267, u268, u269, u270, u271, u272, u273, u274, u275, u276, u277, u278, u279, u280, u281, u282, u283, u284, u285, u286], defers := [] } wc := by
  obtain ⟨c_, hc_⟩ : ∃ c_, c_ = laws_FnSystemsListed.part1.rest := ⟨_, rfl⟩
  rw [← hc_] at a1_
  conv at hc_ =>
    rhs
    whnf
  subst hc_
  obtain ⟨c_, hc_⟩ : ∃ c_, c_ = laws_FnSystemsListed.part1.joint := ⟨_, rfl⟩
  rw [← hc_] at a2_
  conv at hc_ =>
    rhs
    whnf
  subst hc_
  clear HC38
  try clear p2
  try clear p2
  obtain ⟨kq, x129_37, rfl, HA, HJ37, HO_7, HO_16, HB⟩ := hcut
  cases kq with
  | zero => exact absurd HA.out (by simp [laws_FnSystemsListed.j1])
  | succ kj37 =>
    have H := HA.out
    clear HA
    simp only [laws_FnSystemsListed.j1] at H
    by_cases c46 : x129_37 = true
    · subst c46
      have H1 : (some false) = some r := by rw [if_pos rfl] at H; exact H
      rw [hr_] at H1; exact absurd H1 (by decide)
    · replace c46 := Bool.eq_false_iff.mpr c46
      subst c46
      have H1 : (laws_FnSystemsListed.l0 kj37 l0 l1 t479 t480 t481 t486 t494 t495 t496 t495 (t495.length : Int) 0) = some r := by rw [if_neg (show ¬ (false = true) by decide)] at H; exact H
      clear H
      have H := H1
      clear H1
      have H' := Aside0.mk H
      clear H
      obtain ⟨Ao47, co47, eo47⟩ := Kd.S_slice HO_16.out
      subst eo47
      go_wp2
      go_loopg [132] kj37 (fun kq v132 w' => ∃ (x132_3 : Int), v132 = .int .i64 x132_3 ∧ Aside0 (laws_FnSystemsListed.l0 kq l0 l1 t479 t480 t481 t486 t494 t495 t496 t495 (t495.length : Int) x132_3 = some r) ∧ Aside0 (kq ≤ kj37) ∧ Aside0 (Kd.R (Kd.int .i64) 3 w' w.heap.size (fun _ => True) v483 t481) ∧ Aside0 (Kd.S (Kd.slice 3 (Kd.int .i64)) 26 w' w.heap.size (fun k_ => some k_ ≠ (v483 : Value).ownBlock) (.slice Ao47 t495.length co47) t495) ∧ Aside0 (Kd.S (Kd.slice 3 (Kd.int .i64)) 26 w' w.heap.size (fun k_ => some k_ ≠ (v483 : Value).ownBlock) (.slice Ao47 t495.length co47) t495) ∧ Aside0 (Below w.heap.size w w'))
      case atStart => exact ⟨(0), (by first | rfl | (simp; done) | (simp [*]; done)), H', ⟨Nat.le_refl _⟩, ⟨by (with_reducible repeat (first | apply rA | apply rN | apply rD)); exact HO_7.out⟩, ⟨by (with_reducible repeat (first | apply Kd.S_alloc | apply Kd.S_drewN | apply Kd.S_drew)); exact HO_16.out⟩, ⟨by (with_reducible repeat (first | apply Kd.S_alloc | apply Kd.S_drewN | apply Kd.S_drew)); exact HO_16.out⟩, ⟨by repeat (first | exact HB.out | apply bA | apply bN | apply bD)⟩⟩
      case round =>
        clear H'
        try clear p2
        try clear p2
        obtain ⟨x132_3, rfl, HA, HK3, HO_7, HO_16, HO_130, HB⟩ := hrel
        cases gk with
        | zero => exact absurd HA.out (by simp [laws_FnSystemsListed.l0])
        | succ k3 =>
          have H := HA.out
          clear HA
          simp only [laws_FnSystemsListed.l0] at H
          by_cases c48 : x132_3 < (t495.length : Int)
          · rw [if_pos c48] at H
            have c48b0 : decide (x132_3 < (t495.length : Int)) = true := decide_eq_true c48
            clear c48
            by_cases c49 : 0 ≤ x132_3
            · rw [if_pos c49] at H
              have c49b0 : decide (0 ≤ x132_3) = true := decide_eq_true c49
              clear c49
              by_cases c50 : x132_3 < (t495.length : Int)
              · rw [if_pos c50] at H
                have c50b0 : decide (x132_3 < (t495.length : Int)) = true := decide_eq_true c50
                clear c50
                replace H := Option.bind_eq_some_iff.mp H
                obtain ⟨t505, A510, H⟩ := H
                replace H : (if t505 = true then (if ((rd_L2 t495 x132_3).length : Int) = (wrap64 (2 * t494)) then (if x132_3 > 0 then (if 0 ≤ (wrap64 (x132_3 - 1)) then (if (wrap64 (x132_3 - 1)) < (t495.length : Int) then ((laws_sLess.f k3 (rd_L2 t495 (wrap64 (x132_3 - 1))) (rd_L2 t495 x132_3)).bind fun t507 => (if t507 = true then (laws_FnSystemsListed.l0 k3 l0 l1 t479 t480 t481 t486 t494 t495 t496 t495 (t495.length : Int) (wrap64 (x132_3 + 1))) else (some false))) else (none)) else (none)) else (laws_FnSystemsListed.l0 k3 l0 l1 t479 t480 t481 t486 t494 t495 t496 t495 (t495.length : Int) (wrap64 (x132_3 + 1)))) else (some false)) else (some false)) = some r := H
                have A51 := Aside0.mk A510
                clear A510
                by_cases c52 : t505 = true
                · subst c52
                  have H1 : (if ((rd_L2 t495 x132_3).length : Int) = (wrap64 (2 * t494)) then (if x132_3 > 0 then (if 0 ≤ (wrap64 (x132_3 - 1)) then (if (wrap64 (x132_3 - 1)) < (t495.length : Int) then ((laws_sLess.f k3 (rd_L2 t495 (wrap64 (x132_3 - 1))) (rd_L2 t495 x132_3)).bind fun t507 => (if t507 = true then (laws_FnSystemsListed.l0 k3 l0 l1 t479 t480 t481 t486 t494 t495 t496 t495 (t495.length : Int) (wrap64 (x132_3 + 1))) else (some false))) else (none)) else (none)) else (laws_FnSystemsListed.l0 k3 l0 l1 t479 t480 t481 t486 t494 t495 t496 t495 (t495.length : Int) (wrap64 (x132_3 + 1)))) else (some false)) = some r := by rw [if_pos rfl] at H; exact H
                  clear H
                  have H := H1
                  clear H1
                  by_cases c53 : ((rd_L2 t495 x132_3).length : Int) = (wrap64 (2 * t494))
                  · rw [if_pos c53] at H
                    have c53b0 : (((rd_L2 t495 x132_3).length : Int) == (wrap64 (2 * t494))) = true := beq_iff_eq.mpr c53
                    have c53b1 : (((rd_L2 t495 x132_3).length : Int) != (wrap64 (2 * t494))) = false := bne_eq_false_iff_eq.mpr c53
                    clear c53
                    by_cases c54 : x132_3 > 0
                    · rw [if_pos c54] at H
                      have c54b0 : decide (0 < x132_3) = true := decide_eq_true c54
                      clear c54
                      obtain ⟨ji55, hji55⟩ : ∃ j_ : Int, (wrap64 (x132_3 - 1)) = j_ := ⟨_, rfl⟩
                      replace H : (if 0 ≤ (ji55) then (if (ji55) < (t495.length : Int) then ((laws_sLess.f k3 (rd_L2 t495 (ji55)) (rd_L2 t495 x132_3)).bind fun t507 => (if t507 = true then (laws_FnSystemsListed.l0 k3 l0 l1 t479 t480 t481 t486 t494 t495 t496 t495 (t495.length : Int) (wrap64 (x132_3 + 1))) else (some false))) else (none)) else (none)) = some r := by first | (rw [hji55] at H; exact H) | (simp only [hji55] at H ⊢; exact H)
                      (try rw [hji55] at A51)
                      have hji55w : (IntKind.i64.wrap (x132_3 - 1)) = ji55 := (i64_w _).trans hji55
                      by_cases c56 : 0 ≤ (ji55)
                      · rw [if_pos c56] at H
                        have c56b0 : decide (0 ≤ (ji55)) = true := decide_eq_true c56
                        clear c56
                        by_cases c57 : (ji55) < (t495.length : Int)
                        · rw [if_pos c57] at H
                          have c57b0 : decide ((ji55) < (t495.length : Int)) = true := decide_eq_true c57
                          clear c57
                          replace H := Option.bind_eq_some_iff.mp H
                          obtain ⟨t507, A580, H⟩ := H
                          replace H : (if t507 = true then (laws_FnSystemsListed.l0 k3 l0 l1 t479 t480 t481 t486 t494 t495 t496 t495 (t495.length : Int) (wrap64 (x132_3 + 1))) else (some false)) = some r := H
                          have A58 := Aside0.mk A580
                          clear A580
                          by_cases c59 : t507 = true
                          · subst c59
                            have H1 : (laws_FnSystemsListed.l0 k3 l0 l1 t479 t480 t481 t486 t494 t495 t496 t495 (t495.length : Int) (wrap64 (x132_3 + 1))) = some r := by rw [if_pos rfl] at H; exact H
                            clear H
                            have H := H1
                            clear H1
                            have H' := Aside0.mk H
                            clear H
                            have p504 : 0 ≤ (x132_3 : Int) := of_decide_eq_true (by assumption)
                            have q504 : x132_3 < (t495.length : Int) := of_decide_eq_true (by assumption)
                            obtain ⟨ad504, A504_0, c504_0, e504, hx504_0, hl504_0, hi504_0⟩ := at_L2 (Kd.S_reads' HO_130.out).2.2 x132_3 p504 q504
                            cases e504
                            obtain ⟨ce504, hce504, hMe504, hcc504⟩ := Kd.S_get HO_130.out [] x132_3 p504 (by first | exact q504 | exact of_decide_eq_true (by assumption) | (have e_ := (Kd.S_reads' HO_130.out).1; omega))
                            obtain ⟨ve504_0, rfl, ge504_0⟩ := hMe504
                            have hv504_0 := hcc504 0 _ rfl
                            rw [Nat.add_zero, show ((Kd.slice 3 (Kd.int .i64))).sz = 1 from rfl, Nat.mul_one] at hv504_0
                            replace hv504_0 := Option.some.inj (hv504_0.symm.trans hx504_0)
                            rw [hv504_0] at ge504_0
                            have HL504_0 := Aside0.mk (show Kd.R (Kd.int .i64) 3 _ _ _ _ (rd_L2 t495 x132_3) from ge504_0)
                            clear hv504_0 ge504_0 hcc504 hce504
                            have HR504_0 := Aside0.mk hi504_0
                            have HC504_0 := Aside0.mk hl504_0
                            clear hi504_0 hl504_0
                            replace p504 := eq_true p504
                            replace q504 := eq_true q504
                            go_wp2_with (first | ((with_reducible refine gate_callee (f := 15) rfl ?_); refine goesL_ (some 138) rfl rfl Try.func15 (by kernel_rfl) rfl #[.slice A504_0 (rd_L2 t495 x132_3).length c504_0] rfl (by (try simp only [List.map_toArray, List.map_cons, List.map_nil]); first | done | rfl) ?_; (with_reducible refine (impl_IsSystem.calls k3 _ _ (rd_L2 t495 x132_3) true _ ?side1 ?side2 A51.out).mono ?_); (case side1 => repeat (first | exact (by repeat (first | (with_reducible exact HR504_0.out) | (with_reducible refine Kd.C_alloc ?_ _) | (with_reducible refine Kd.C_drewN ?_ _) | (with_reducible refine Kd.C_drew ?_) | exact HR504_0.out)) | (with_reducible refine Kd.C_alloc ?_ _) | (with_reducible refine Kd.C_drewN ?_ _) | (with_reducible refine Kd.C_drew ?_))); (case side2 => exact HC504_0.out); rintro e w' ⟨rfl, ⟨nd, rfl⟩⟩; refine ⟨_, rfl, ?_⟩; have p506 : 0 ≤ ((ji55) : Int) := of_decide_eq_true (by assumption); have q506 : (ji55) < (t495.length : Int) := of_decide_eq_true (by assumption); obtain ⟨ad506, A506_0, c506_0, e506, hx506_0, hl506_0, hi506_0⟩ := at_L2 (Kd.S_reads' HO_16.out).2.2 (ji55) p506 q506; obtain rfl : ad504 = ad506 := (by injection e506); obtain ⟨ce506, hce506, hMe506, hcc506⟩ := Kd.S_get HO_16.out [] (ji55) p506 (by first | exact q506 | exact of_decide_eq_true (by assumption) | (have e_ := (Kd.S_reads' HO_16.out).1; omega)); obtain ⟨ve506_0, rfl, ge506_0⟩ := hMe506; have hv506_0 := hcc506 0 _ rfl; rw [Nat.add_zero, show ((Kd.slice 3 (Kd.int .i64))).sz = 1 from rfl, Nat.mul_one] at hv506_0; replace hv506_0 := Option.some.inj (hv506_0.symm.trans hx506_0); rw [hv506_0] at ge506_0; have HL506_0 := Aside0.mk (show Kd.R (Kd.int .i64) 3 _ _ _ _ (rd_L2 t495 (ji55)) from ge506_0); clear hv506_0 ge506_0; clear hcc506 hce506; have HR506_0 := Aside0.mk hi506_0; have HC506_0 := Aside0.mk hl506_0; clear hi506_0 hl506_0; replace p506 := eq_true p506; replace q506 := eq_true q506) | (go_at_call 16; (with_reducible refine (laws_sLess.calls k3 _ _ (rd_L2 t495 (ji55)) _ _ (rd_L2 t495 x132_3) true _ ?side1 ?side2 ?side3 ?side4 A58.out).mono ?_); (case side1 => repeat (first | exact (by repeat (first | (with_reducible exact HR506_0.out) | (with_reducible refine Kd.C_alloc ?_ _) | (with_reducible refine Kd.C_drewN ?_ _) | (with_reducible refine Kd.C_drew ?_) | exact HR506_0.out)) | (with_reducible refine Kd.C_alloc ?_ _) | (with_reducible refine Kd.C_drewN ?_ _) | (with_reducible refine Kd.C_drew ?_))); (case side2 => exact HC506_0.out); (case side3 => repeat (first | exact (by repeat (first | (with_reducible exact HR504_0.out) | (with_reducible refine Kd.C_alloc ?_ _) | (with_reducible refine Kd.C_drewN ?_ _) | (with_reducible refine Kd.C_drew ?_) | exact HR504_0.out)) | (with_reducible refine Kd.C_alloc ?_ _) | (with_reducible refine Kd.C_drewN ?_ _) | (with_reducible refine Kd.C_drew ?_))); (case side4 => exact HC504_0.out); rintro e w' ⟨rfl, ⟨nd, rfl⟩⟩))
                            go_roundg k3
                            case measure => have := HJ9.out; have := HJ37.out; have := HK3.out; omega
                            case rel => exact ⟨(wrap64 (x132_3 + 1)), (by first | rfl | (simp; done) | (simp [*]; done)), H', ⟨by have := HJ9.out; have := HJ37.out; have := HK3.out; omega⟩, ⟨by (with_reducible repeat (first | apply rA | apply rN | apply rD)); exact HO_7.out⟩, ⟨by (with_reducible repeat (first | apply Kd.S_alloc | apply Kd.S_drewN | apply Kd.S_drew)); exact HO_16.out⟩, ⟨by (with_reducible repeat (first | apply Kd.S_alloc | apply Kd.S_drewN | apply Kd.S_drew)); exact HO_130.out⟩, ⟨by repeat (first | exact HB.out | apply bA | apply bN | apply bD)⟩⟩
                          · replace c59 := Bool.eq_false_iff.mpr c59
                            subst c59
                            have H1 : (some false) = some r := by rw [if_neg (show ¬ (false = true) by decide)] at H; exact H
                            rw [hr_] at H1; exact absurd H1 (by decide)
                        · rw [if_neg c57] at H
                          exact absurd H (by simp)
                      · rw [if_neg c56] at H
                        exact absurd H (by simp)
                    · rw [if_neg c54] at H
                      have c54b0 : decide (0 < x132_3) = false := decide_eq_false c54
                      clear c54
                      have H' := Aside0.mk H
                      clear H
                      have p504 : 0 ≤ (x132_3 : Int) := of_decide_eq_true (by assumption)
                      have q504 : x132_3 < (t495.length : Int) := of_decide_eq_true (by assumption)
                      obtain ⟨ad504, A504_0, c504_0, e504, hx504_0, hl504_0, hi504_0⟩ := at_L2 (Kd.S_reads' HO_130.out).2.2 x132_3 p504 q504
                      cases e504
                      obtain ⟨ce504, hce504, hMe504, hcc504⟩ := Kd.S_get HO_130.out [] x132_3 p504 (by first | exact q504 | exact of_decide_eq_true (by assumption) | (have e_ := (Kd.S_reads' HO_130.out).1; omega))
                      obtain ⟨ve504_0, rfl, ge504_0⟩ := hMe504
                      have hv504_0 := hcc504 0 _ rfl
                      rw [Nat.add_zero, show ((Kd.slice 3 (Kd.int .i64))).sz = 1 from rfl, Nat.mul_one] at hv504_0
                      replace hv504_0 := Option.some.inj (hv504_0.symm.trans hx504_0)
                      rw [hv504_0] at ge504_0
                      have HL504_0 := Aside0.mk (show Kd.R (Kd.int .i64) 3 _ _ _ _ (rd_L2 t495 x132_3) from ge504_0)
                      clear hv504_0 ge504_0 hcc504 hce504
                      have HR504_0 := Aside0.mk hi504_0
                      have HC504_0 := Aside0.mk hl504_0
                      clear hi504_0 hl504_0
                      replace p504 := eq_true p504
                      replace q504 := eq_true q504
                      go_wp2_with (first | ((with_reducible refine gate_callee (f := 15) rfl ?_); refine goesL_ (some 138) rfl rfl Try.func15 (by kernel_rfl) rfl #[.slice A504_0 (rd_L2 t495 x132_3).length c504_0] rfl (by (try simp only [List.map_toArray, List.map_cons, List.map_nil]); first | done | rfl) ?_; (with_reducible refine (impl_IsSystem.calls k3 _ _ (rd_L2 t495 x132_3) true _ ?side1 ?side2 A51.out).mono ?_); (case side1 => repeat (first | exact (by repeat (first | (with_reducible exact HR504_0.out) | (with_reducible refine Kd.C_alloc ?_ _) | (with_reducible refine Kd.C_drewN ?_ _) | (with_reducible refine Kd.C_drew ?_) | exact HR504_0.out)) | (with_reducible refine Kd.C_alloc ?_ _) | (with_reducible refine Kd.C_drewN ?_ _) | (with_reducible refine Kd.C_drew ?_))); (case side2 => exact HC504_0.out); rintro e w' ⟨rfl, ⟨nd, rfl⟩⟩; refine ⟨_, rfl, ?_⟩))
                      go_roundg k3
                      case measure => have := HJ9.out; have := HJ37.out; have := HK3.out; omega
                      case rel => exact ⟨(wrap64 (x132_3 + 1)), (by first | rfl | (simp; done) | (simp [*]; done)), H', ⟨by have := HJ9.out; have := HJ37.out; have := HK3.out; omega⟩, ⟨by (with_reducible repeat (first | apply rA | apply rN | apply rD)); exact HO_7.out⟩, ⟨by (with_reducible repeat (first | apply Kd.S_alloc | apply Kd.S_drewN | apply Kd.S_drew)); exact HO_16.out⟩, ⟨by (with_reducible repeat (first | apply Kd.S_alloc | apply Kd.S_drewN | apply Kd.S_drew)); exact HO_130.out⟩, ⟨by repeat (first | exact HB.out | apply bA | apply bN | apply bD)⟩⟩
                  · rw [if_neg c53] at H
                    have c53b0 : (((rd_L2 t495 x132_3).length : Int) == (wrap64 (2 * t494))) = false := beq_eq_false_iff_ne.mpr c53
                    have c53b1 : (((rd_L2 t495 x132_3).length : Int) != (wrap64 (2 * t494))) = true := bne_iff_ne.mpr c53
                    have hrr_ := Option.some.inj H
                    rw [hr_] at hrr_
                    first
                      | exact absurd hrr_ (by decide)
                      | (clear hrr_
                         obtain rfl := Option.some.inj H
                         have p504 : 0 ≤ (x132_3 : Int) := of_decide_eq_true (by assumption)
                         have q504 : x132_3 < (t495.length : Int) := of_decide_eq_true (by assumption)
                         obtain ⟨ad504, A504_0, c504_0, e504, hx504_0, hl504_0, hi504_0⟩ := at_L2 (Kd.S_reads' HO_130.out).2.2 x132_3 p504 q504
                         cases e504
                         obtain ⟨ce504, hce504, hMe504, hcc504⟩ := Kd.S_get HO_130.out [] x132_3 p504 (by first | exact q504 | exact of_decide_eq_true (by assumption) | (have e_ := (Kd.S_reads' HO_130.out).1; omega))
                         obtain ⟨ve504_0, rfl, ge504_0⟩ := hMe504
                         have hv504_0 := hcc504 0 _ rfl
                         rw [Nat.add_zero, show ((Kd.slice 3 (Kd.int .i64))).sz = 1 from rfl, Nat.mul_one] at hv504_0
                         replace hv504_0 := Option.some.inj (hv504_0.symm.trans hx504_0)
                         rw [hv504_0] at ge504_0
                         have HL504_0 := Aside0.mk (show Kd.R (Kd.int .i64) 3 _ _ _ _ (rd_L2 t495 x132_3) from ge504_0)
                         clear hv504_0 ge504_0 hcc504 hce504
                         have HR504_0 := Aside0.mk hi504_0
                         have HC504_0 := Aside0.mk hl504_0
                         clear hi504_0 hl504_0
                         replace p504 := eq_true p504
                         replace q504 := eq_true q504
                         go_wp2_with (first | ((with_reducible refine gate_callee (f := 15) rfl ?_); refine goesL_ (some 138) rfl rfl Try.func15 (by kernel_rfl) rfl #[.slice A504_0 (rd_L2 t495 x132_3).length c504_0] rfl (by (try simp only [List.map_toArray, List.map_cons, List.map_nil]); first | done | rfl) ?_; (with_reducible refine (impl_IsSystem.calls k3 _ _ (rd_L2 t495 x132_3) true _ ?side1 ?side2 A51.out).mono ?_); (case side1 => repeat (first | exact (by repeat (first | (with_reducible exact HR504_0.out) | (with_reducible refine Kd.C_alloc ?_ _) | (with_reducible refine Kd.C_drewN ?_ _) | (with_reducible refine Kd.C_drew ?_) | exact HR504_0.out)) | (with_reducible refine Kd.C_alloc ?_ _) | (with_reducible refine Kd.C_drewN ?_ _) | (with_reducible refine Kd.C_drew ?_))); (case side2 => exact HC504_0.out); rintro e w' ⟨rfl, ⟨nd, rfl⟩⟩; refine ⟨_, rfl, ?_⟩))
                         go_ret
                         exact ⟨by first | rfl | (simp [*, errW_none, errW_some] <;> rfl), by repeat (first | exact HB.out | apply bA | apply bN | apply bD)⟩)
                · replace c52 := Bool.eq_false_iff.mpr c52
                  subst c52
                  have H1 : (some false) = some r := by rw [if_neg (show ¬ (false = true) by decide)] at H; exact H
                  rw [hr_] at H1; exact absurd H1 (by decide)
              · rw [if_neg c50] at H
                exact absurd H (by simp)
            · rw [if_neg c49] at H
              exact absurd H (by simp)
          · rw [if_neg c48] at H
            have c48b0 : decide (x132_3 < (t495.length : Int)) = false := decide_eq_false c48
            clear c48
            have HC60 := Aside0.mk H
            clear H
            go_upto_if 162 with (fail)
            go_cut [] (fun wc => ∃ (kq : Nat), Aside0 (laws_FnSystemsListed.j3 kq l0 l1 t479 t480 t481 t486 = some r) ∧ Aside0 (kq ≤ k3) ∧ Aside0 (Kd.R (Kd.int .i64) 3 wc w.heap.size (fun _ => True) v483 t481) ∧ Aside0 (Below w.heap.size w wc))
            case first =>
              have H := HC60.out
              clear HC60
              by_cases c61 : t496 = true
              · subst c61
                have H1 : ((impl_CountSystems.f k3 t494).bind fun bt508 => (if bt508.2 = true then (if bt508.1 = (t495.length : Int) then (laws_FnSystemsListed.j3 k3 l0 l1 t479 t480 t481 t486) else (some false)) else (some false))) = some r := by rw [if_pos rfl] at H; exact H
                clear H
                have H := H1
                clear H1
                replace H := Option.bind_eq_some_iff.mp H
                obtain ⟨⟨t508, t509⟩, A620, H⟩ := H
                replace H : (if t509 = true then (if t508 = (t495.length : Int) then (laws_FnSystemsListed.j3 k3 l0 l1 t479 t480 t481 t486) else (some false)) else (some false)) = some r := H
                have A62 := Aside0.mk A620
                clear A620
                by_cases c63 : t509 = true
                · subst c63
                  have H1 : (if t508 = (t495.length : Int) then (laws_FnSystemsListed.j3 k3 l0 l1 t479 t480 t481 t486) else (some false)) = some r := by rw [if_pos rfl] at H; exact H
                  clear H
                  have H := H1
                  clear H1
                  by_cases c64 : t508 = (t495.length : Int)
                  · rw [if_pos c64] at H
                    have c64b0 : (t508 == (t495.length : Int)) = true := beq_iff_eq.mpr c64
                    have c64b1 : (t508 != (t495.length : Int)) = false := bne_eq_false_iff_eq.mpr c64
                    clear c64
                    (first | rw [c64b0] | (simp only [i64_w, i32_w]; rw [c64b0]) | skip)
                    have H' := Aside0.mk H
                    clear H
                    go_wp2_with (first | ((with_reducible refine gate_callee (f := 8) rfl ?_); refine goesL_ (some 165) rfl rfl Try.func8 (by kernel_rfl) rfl #[.int .i64 t494] rfl (by (try simp only [List.map_toArray, List.map_cons, List.map_nil]); first | done | rfl) ?_; (with_reducible refine (impl_CountSystems.calls k3 t494 t508 true _ A62.out).mono ?_); rintro e w65 ⟨rfl, hb⟩; refine ⟨_, rfl, ?_⟩; replace HO_7 := Aside0.mk (Kd.R_below (by (with_reducible repeat (first | apply rA | apply rN | apply rD)); exact HO_7.out) hb); replace HO_16 := Aside0.mk (Kd.S_below (by (with_reducible repeat (first | apply Kd.S_alloc | apply Kd.S_drewN | apply Kd.S_drew)); exact HO_16.out) hb); replace HO_130 := Aside0.mk (Kd.S_below (by (with_reducible repeat (first | apply Kd.S_alloc | apply Kd.S_drewN | apply Kd.S_drew)); exact HO_130.out) hb); replace HB := Aside0.mk (below_step (by repeat (first | exact HB.out | apply bA | apply bN | apply bD)) hb); (try clear hb2); (try clear hb hk hi)))
                    go_meet
                    case rel => exact ⟨_, H', ⟨by have := HJ9.out; have := HJ37.out; have := HK3.out; first | omega | exact Nat.le_refl _⟩, ⟨by (with_reducible repeat (first | apply rA | apply rN | apply rD)); exact HO_7.out⟩, ⟨by repeat (first | exact HB.out | apply bA | apply bN | apply bD)⟩⟩
                  · rw [if_neg c64] at H
                    have c64b0 : (t508 == (t495.length : Int)) = false := beq_eq_false_iff_ne.mpr c64
                    have c64b1 : (t508 != (t495.length : Int)) = true := bne_iff_ne.mpr c64
                    (first | rw [c64b0] | (simp only [i64_w, i32_w]; rw [c64b0]) | skip)
                    have hrr_ := Option.some.inj H
                    rw [hr_] at hrr_
                    first
                      | exact absurd hrr_ (by decide)
                      | (clear hrr_
                         obtain rfl := Option.some.inj H
                         go_wp2_with (first | ((with_reducible refine gate_callee (f := 8) rfl ?_); refine goesL_ (some 165) rfl rfl Try.func8 (by kernel_rfl) rfl #[.int .i64 t494] rfl (by (try simp only [List.map_toArray, List.map_cons, List.map_nil]); first | done | rfl) ?_; (with_reducible refine (impl_CountSystems.calls k3 t494 t508 true _ A62.out).mono ?_); rintro e w66 ⟨rfl, hb⟩; refine ⟨_, rfl, ?_⟩; replace HO_7 := Aside0.mk (Kd.R_below (by (with_reducible repeat (first | apply rA | apply rN | apply rD)); exact HO_7.out) hb); replace HO_16 := Aside0.mk (Kd.S_below (by (with_reducible repeat (first | apply Kd.S_alloc | apply Kd.S_drewN | apply Kd.S_drew)); exact HO_16.out) hb); replace HO_130 := Aside0.mk (Kd.S_below (by (with_reducible repeat (first | apply Kd.S_alloc | apply Kd.S_drewN | apply Kd.S_drew)); exact HO_130.out) hb); replace HB := Aside0.mk (below_step (by repeat (first | exact HB.out | apply bA | apply bN | apply bD)) hb); (try clear hb2); (try clear hb hk hi)))
                         go_ret
                         exact ⟨by first | rfl | (simp [*, errW_none, errW_some] <;> rfl), by repeat (first | exact HB.out | apply bA | apply bN | apply bD)⟩)
                · replace c63 := Bool.eq_false_iff.mpr c63
                  subst c63
                  have H1 : (some false) = some r := by rw [if_neg (show ¬ (false = true) by decide)] at H; exact H
                  rw [hr_] at H1; exact absurd H1 (by decide)
              · replace c61 := Bool.eq_false_iff.mpr c61
                subst c61
                have H1 : (laws_FnSystemsListed.j3 k3 l0 l1 t479 t480 t481 t486) = some r := by rw [if_neg (show ¬ (false = true) by decide)] at H; exact H
                clear H
                have H := H1
                clear H1
                have H' := Aside0.mk H
                clear H
                go_wp2
                go_meet
                case rel => exact ⟨_, H', ⟨by have := HJ9.out; have := HJ37.out; have := HK3.out; first | omega | exact Nat.le_refl _⟩, ⟨by (with_reducible repeat (first | apply rA | apply rN | apply rD)); exact HO_7.out⟩, ⟨by repeat (first | exact HB.out | apply bA | apply bN | apply bD)⟩⟩
            case rest =>
              clear HC60
              try clear p2
              try clear p5
              try clear q5
              try clear hx5
              try clear p6
              try clear p50
              try clear q50
              try clear hx50
              try clear p64
              try clear hx504_0
              try clear hx506_0
              try clear p2
              try clear p504
              try clear p506
              try clear q504
              try clear q506
              obtain ⟨kq, HA, HJ59, HO_7, HB⟩ := hcut
              cases kq with
              | zero => exact absurd HA.out (by simp [laws_FnSystemsListed.j3])
              | succ kj59 =>
                have H := HA.out
                clear HA
                simp only [laws_FnSystemsListed.j3] at H
                replace H := Option.bind_eq_some_iff.mp H
                obtain ⟨t510, A680, H⟩ := H
                replace H : ((impl_ParseSystem.f kj59 t510).bind fun bt511 => ((spec_ParseSystem.f kj59 t510).bind fun bt515 => (if (bt511.2 != bt515.2) = true then (laws_FnSystemsListed.j4 kj59 l0 t479 t480 t481 t486 t510 bt511.1 bt511.2 true) else ((laws_sSame.f kj59 bt511.1 bt515.1).bind fun t519 => (laws_FnSystemsListed.j4 kj59 l0 t479 t480 t481 t486 t510 bt511.1 bt511.2 (!t519)))))) = some r := H
                have A68 := Aside0.mk A680
                clear A680
                replace H := Option.bind_eq_some_iff.mp H
                obtain ⟨⟨t511, t512⟩, A690, H⟩ := H
                replace H : ((spec_ParseSystem.f kj59 t510).bind fun bt515 => (if (t512 != bt515.2) = true then (laws_FnSystemsListed.j4 kj59 l0 t479 t480 t481 t486 t510 t511 t512 true) else ((laws_sSame.f kj59 t511 bt515.1).bind fun t519 => (laws_FnSystemsListed.j4 kj59 l0 t479 t480 t481 t486 t510 t511 t512 (!t519))))) = some r := H
                have A69 := Aside0.mk A690
                clear A690
                replace H := Option.bind_eq_some_iff.mp H
                obtain ⟨⟨t515, t516⟩, A700, H⟩ := H
                replace H : (if (t512 != t516) = true then (laws_FnSystemsListed.j4 kj59 l0 t479 t480 t481 t486 t510 t511 t512 true) else ((laws_sSame.f kj59 t511 t515).bind fun t519 => (laws_FnSystemsListed.j4 kj59 l0 t479 t480 t481 t486 t510 t511 t512 (!t519)))) = some r := H
                have A70 := Aside0.mk A700
                clear A700
                have HC71 := Aside0.mk H
                clear H
                go_upto_region 28 with (first | ((with_reducible refine gate_callee (f := 17) rfl ?_); refine goesL_ (some 177) rfl rfl Try.func17 (by kernel_rfl) rfl #[.slice A1 l1.length c1] rfl (by (try simp only [List.map_toArray, List.map_cons, List.map_nil]); first | done | rfl) ?_; (with_reducible refine (spec_DrawParseSystem.calls kj59 _ _ l1 t510 _ ?side1 ?side2 A68.out).mono ?_); (case side1 => repeat (first | exact (Kd.C_below HR1.out HB.out) | (with_reducible refine Kd.C_alloc ?_ _) | (with_reducible refine Kd.C_drewN ?_ _) | (with_reducible refine Kd.C_drew ?_))); (case side2 => exact HC1.out); rintro e w72 ⟨rfl, hb⟩; refine ⟨_, rfl, ?_⟩; replace HO_7 := Aside0.mk (Kd.R_below (by (with_reducible repeat (first | apply rA | apply rN | apply rD)); exact HO_7.out) hb); replace HB := Aside0.mk (below_step (by repeat (first | exact HB.out | apply bA | apply bN | apply bD)) hb); (try clear hb2); (try clear hb hk hi)) | ((with_reducible refine gate_callee (f := 18) rfl ?_); refine goesL_ (some 180) rfl rfl Try.func18 (by kernel_rfl) rfl #[.string t510] rfl (by (try simp only [List.map_toArray, List.map_cons, List.map_nil]); first | done | rfl) ?_; (with_reducible refine (impl_ParseSystem.calls kj59 t510 t511 t512 _ A69.out).mono ?_); rintro e w73 ⟨v513, rfl, ho0, hb⟩; refine ⟨_, rfl, ?_⟩; have HO514 := Aside0.mk (Kd.R_lower (Kd.R_new' ho0 (Kd.R_lt (by (with_reducible repeat (first | apply rA | apply rN | apply rD)); exact HO_7.out))) (below_size (by repeat (first | exact HB.out | apply bA | apply bN | apply bD)))); replace HO_7 := Aside0.mk (Kd.R_elder' (by (with_reducible repeat (first | apply rA | apply rN | apply rD)); exact HO_7.out) (Kd.R_base ho0) hb); replace HB := Aside0.mk (below_step (by repeat (first | exact HB.out | apply bA | apply bN | apply bD)) hb); (try clear hb2); (try clear hb hk hi); (try clear ho0)) | ((with_reducible refine gate_callee (f := 19) rfl ?_); refine goesL_ (some 185) rfl rfl Try.func19 (by kernel_rfl) rfl #[.string t510] rfl (by (try simp only [List.map_toArray, List.map_cons, List.map_nil]); first | done | rfl) ?_; (with_reducible refine (spec_ParseSystem.calls kj59 t510 t515 t516 _ A70.out).mono ?_); rintro e w74 ⟨v517, rfl, ho0, hb⟩; refine ⟨_, rfl, ?_⟩; have HO518 := Aside0.mk (Kd.R_lower (Kd.R_new' (Kd.R_new' ho0 (Kd.R_lt (by (with_reducible repeat (first | apply rA | apply rN | apply rD)); exact HO_7.out))) (Kd.R_lt (by (with_reducible repeat (first | apply rA | apply rN | apply rD)); exact HO514.out))) (below_size (by repeat (first | exact HB.out | apply bA | apply bN | apply bD)))); replace HO_7 := Aside0.mk (Kd.R_elder' (by (with_reducible repeat (first | apply rA | apply rN | apply rD)); exact HO_7.out) (Kd.R_base ho0) hb); replace HO514 := Aside0.mk (Kd.R_elder' (by (with_reducible repeat (first | apply rA | apply rN | apply rD)); exact HO514.out) (Kd.R_base ho0) hb); replace HB := Aside0.mk (below_step (by repeat (first | exact HB.out | apply bA | apply bN | apply bD)) hb); (try clear hb2); (try clear hb hk hi); (try clear ho0)))
                (try simp only [Act.put, List.setIfInBounds_toArray, List.set_cons_zero, List.set_cons_succ])
                go_cut [196] (fun v196 wc => ∃ (kq : Nat) (x196_70 : Bool), v196 = .bool x196_70 ∧ Aside0 (laws_FnSystemsListed.j4 kq l0 t479 t480 t481 t486 t510 t511 t512 x196_70 = some r) ∧ Aside0 (kq ≤ kj59) ∧ Aside0 (Kd.R (Kd.int .i64) 3 wc w.heap.size (fun k_ => some k_ ≠ (v513 : Value).ownBlock) v483 t481) ∧ Aside0 (Kd.R (Kd.int .i64) 3 wc w.heap.size (fun k_ => some k_ ≠ (v483 : Value).ownBlock) v513 t511) ∧ Aside0 (Below w.heap.size w wc))
                case first =>
                  have H := HC71.out
                  clear HC71
                  by_cases c75 : (t512 != t516) = true
                  · rw [if_pos c75] at H
                    have c75b0 : (t512 != t516) = true := c75
                    (try (have c75b1 : decide (t512 = t516) = false := by simpa using c75))
                    (try (have c75b2 : (t512 == t516) = false := by simpa using c75))
                    (try (have c75b3 : ¬ (t512 = t516) := by simpa using c75))
                    clear c75
                    (first | rw [c75b0] | (simp only [i64_w, i32_w]; rw [c75b0]) | skip)
                    have H' := Aside0.mk H
                    clear H
                    go_wp2
                    go_meet
                    case rel => exact ⟨_, (true), (by first | rfl | (simp; done) | (simp [*]; done)), H', ⟨by have := HJ9.out; have := HJ37.out; have := HK3.out; have := HJ59.out; first | omega | exact Nat.le_refl _⟩, ⟨by (with_reducible repeat (first | apply rA | apply rN | apply rD)); exact Kd.R_mono HO_7.out (fun _ hk => hk.1.2)⟩, ⟨by (with_reducible repeat (first | apply rA | apply rN | apply rD)); exact Kd.R_mono HO514.out (fun _ hk => hk.1.2)⟩, ⟨by repeat (first | exact HB.out | apply bA | apply bN | apply bD)⟩⟩
                  · rw [if_neg c75] at H
                    have c75b0 : (t512 != t516) = false := by simpa using c75
                    (try (have c75b1 : decide (t512 = t516) = true := by simpa using c75))
                    (try (have c75b2 : (t512 == t516) = true := by simpa using c75))
                    clear c75
                    (first | rw [c75b0] | (simp only [i64_w, i32_w]; rw [c75b0]) | skip)
                    replace H := Option.bind_eq_some_iff.mp H
                    obtain ⟨t519, A760, H⟩ := H
                    replace H : (laws_FnSystemsListed.j4 kj59 l0 t479 t480 t481 t486 t510 t511 t512 (!t519)) = some r := H
                    have A76 := Aside0.mk A760
                    clear A760
                    have H' := Aside0.mk H
                    clear H
                    obtain ⟨Ao77, co77, eo77⟩ := Kd.R_slice HO514.out
                    subst eo77
                    obtain ⟨Ao78, co78, eo78⟩ := Kd.R_slice HO518.out
                    subst eo78
                    go_wp2_with (first | (go_at_call 10; (with_reducible refine (laws_sSame.calls kj59 _ _ t511 _ _ t515 t519 _ ?side1 ?side2 ?side3 ?side4 A76.out).mono ?_); (case side1 => repeat (first | exact (Kd.R_reads' HO514.out).2.2 | (with_reducible refine Kd.C_alloc ?_ _) | (with_reducible refine Kd.C_drewN ?_ _) | (with_reducible refine Kd.C_drew ?_))); (case side2 => exact (Kd.R_reads' HO514.out).2.1); (case side3 => repeat (first | exact (Kd.R_reads' HO518.out).2.2 | (with_reducible refine Kd.C_alloc ?_ _) | (with_reducible refine Kd.C_drewN ?_ _) | (with_reducible refine Kd.C_drew ?_))); (case side4 => exact (Kd.R_reads' HO518.out).2.1); rintro e w' ⟨rfl, ⟨nd, rfl⟩⟩))
                    go_meet
                    case rel => exact ⟨_, (!t519), (by first | rfl | (simp; done) | (simp [*]; done)), H', ⟨by have := HJ9.out; have := HJ37.out; have := HK3.out; have := HJ59.out; first | omega | exact Nat.le_refl _⟩, ⟨by (with_reducible repeat (first | apply rA | apply rN | apply rD)); exact Kd.R_mono HO_7.out (fun _ hk => hk.1.2)⟩, ⟨by (with_reducible repeat (first | apply rA | apply rN | apply rD)); exact Kd.R_mono HO514.out (fun _ hk => hk.1.2)⟩, ⟨by repeat (first | exact HB.out | apply bA | apply bN | apply bD)⟩⟩
                case rest =>
                 rename_i K1_ a1_ K2_ a2_
                 exact laws_FnSystemsListed.part3 k A0 c0 l0 A1 c1 l1 r w hr_ HR0 HC0 t479 t480 t481 t482 t486 t489 t490 t491 t492 v483 v487 nd kj9 HJ9 t494 t495 t496 t500 v501 kj37 HJ37 Ao47 co47 u20 u21 x132_3 k3 HK3 u4 u22 u23 kj59 HJ59 t510 t511 t512 t515 t516 HC71 v513 w74 v517 HO_7 HB wc u46 u47 u48 u49 u50 u51 u52 u53 u54 u55 u56 u57 u58 u59 u60 u61 u62 u63 u64 u65 u66 u67 u68 u69 u70 u71 u72 u73 u74 u75 u76 u77 u78 u79 u80 u81 u82 u83 u84 u85 u86 u87 u88 u89 u90 u91 u92 u93 u94 u95 u96 u97 u98 u99 u100 u101 u102 u103 u104 u105 u106 u107 u108 u109 u110 u111 u112 u113 u114 u115 u116 u117 u118 u119 u120 u121 u122 u123 u124 u125 u126 u127 u128 u129 u133 u134 u135 u136 u137 u138 u139 u140 u141 u142 u143 u144 u145 u146 u147 u148 u149 u150 u151 u152 u153 u154 u155 u156 u157 u158 u159 u160 u161 u162 u163 u164 u165 u166 u167 u168 u169 u170 u171 u172 u173 u174 u175 u176 u177 u178 u179 u180 u181 u182 u183 u184 u185 u186 u187 u188 u189 u190 u191 u192 u193 u194 u195 u196 u197 u198 u199 u200 u201 u202 u203 u204 u205 u206 u207 u208 u209 u210 u211 u212 u213 u214 u215 u216 u217 u218 u219 u220 u221 u222 u223 u224 u225 u226 u227 u228 u229 u230 u231 u232 u233 u234 u235 u236 u237 u238 u239 u240 u241 u242 u243 u244 u245 u246 u247 u248 u249 u250 u251 u252 u253 u254 u255 u256 u257 u258 u259 u260 u261 u262 u263 u264 u265 u266 u267 u268 u269 u270 u271 u272 u273 u274 u275 u276 u277 u278 u279 u280 u281 u282 u283 u284 u285 u286 K1_ a1_ K2_ a2_ hcut

end Go.Proofs.Ytpbadjdeghmenaa.QFnSystemsListed
