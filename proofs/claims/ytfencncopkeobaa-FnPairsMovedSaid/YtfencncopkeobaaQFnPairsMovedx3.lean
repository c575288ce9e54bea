-- Written by wip/myprint.py (a program of mine round the kit's printer). Lean checks it.
import Derived.Test.YtfencncopkeobaaQFnPairsMovedx0
import Derived.Test.YtfencncopkeobaaQFnPairsMovedx2
namespace Go.Proofs.Ytfencncopkeobaa.QFnPairsMoved
open Go.RowKit Go.Proofs.YtfencncopkeobaaW.PrintWords Go.Proofs.YtfencncopkeobaaW.PrintLast Go.Proofs.YtfencncopkeobaaW.PrintMore
attribute [local go_sem] max2_int min2_int max_two min_two max_three min_three max_four min_four
set_option linter.unusedVariables false
set_option linter.unusedSimpArgs false
set_option maxHeartbeats 8000000
set_option maxRecDepth 100000
def spec_ahParse.l0 : Nat → ByteArray → List Int → List Int → Int → Option (List Int × Bool)
 | 0, _, _, _, _ => none
 | k + 1, x0, x4, x5, x6 => if x6 < (x0.size : Int) then (if 0 ≤ x6 then (if (bt x0 x6) = 40 then (if x5.length < 17592186044416 then (spec_ahParse.l0 k x0 x4 (x5 ++ [x6]) (wrap64 (x6 + 1))) else (none)) else (if (bt x0 x6) = 41 then (if (x5.length : Int) > 0 then (if 0 ≤ (wrap64 ((x5.length : Int) - 1)) then (if (wrap64 ((x5.length : Int) - 1)) < (x5.length : Int) then (if (wrap64 ((x5.length : Int) - 1)) ≤ (x5.length : Int) then (if 0 ≤ (rd x5 (wrap64 ((x5.length : Int) - 1))) then (if (rd x5 (wrap64 ((x5.length : Int) - 1))) < (x4.length : Int) then (if x6 < (x4.length : Int) then (spec_ahParse.l0 k x0 ((x4.set ((rd x5 (wrap64 ((x5.length : Int) - 1))) : Int).toNat x6).set (x6 : Int).toNat (rd x5 (wrap64 ((x5.length : Int) - 1)))) (x5.take ((wrap64 ((x5.length : Int) - 1)) : Int).toNat) (wrap64 (x6 + 1))) else (none)) else (none)) else (none)) else (none)) else (none)) else (none)) else (some (([] : List Int), false))) else (some (([] : List Int), false)))) else (none)) else (if (x5.length : Int) > 0 then (some (([] : List Int), false)) else (some (x4, true)))
def spec_ahParse.f (k : Nat) (a0 : ByteArray) : Option (List Int × Bool) := if (a0.size : Int) > 12 then (some (([] : List Int), false)) else (if 0 ≤ (a0.size : Int) then (if ((a0.size : Int) : Int).toNat ≤ 35184372088832 then (spec_ahParse.l0 k a0 (List.replicate ((a0.size : Int) : Int).toNat 0) ([] : List Int) 0) else (none)) else (none))
theorem spec_ahParse.calls (k : Nat) (a0 : ByteArray) (r1 : List Int) (r2 : Bool) (w : World) (h : spec_ahParse.f k a0 = some (r1, r2)) :
 Calls Try.prog 86 #[.string a0] w fun e w' => ∃ v0_ : Value, e = .returned (.tuple #[v0_, .bool r2]) ∧ Kd.R (Kd.int .i64) 3 w' w.heap.size (fun _ => True) v0_ r1 ∧ Below w.heap.size w w' := by
 have HB := am (Below.refl w.heap.size w)
 have H : (if (a0.size : Int) > 12 then (some (([] : List Int), false)) else (if 0 ≤ (a0.size : Int) then (if ((a0.size : Int) : Int).toNat ≤ 35184372088832 then (spec_ahParse.l0 k a0 (List.replicate ((a0.size : Int) : Int).toNat 0) ([] : List Int) 0) else (none)) else (none))) = some (r1, r2) := h
 clear h
 by_cases c2 : (a0.size : Int) > 12
 ·rw [if_pos c2] at H
  have c2b0 : decide (12 < (a0.size : Int)) = true := decide_eq_true c2
  have c2b1 : decide (12 < a0.size) = true := decide_eq_true (by omega)
  clear c2
  simp only [Option.some.injEq, Prod.mk.injEq] at H
  obtain ⟨rfl, rfl⟩ := H
  go_enter Try.func86, Try.ntmps86
  go_wp2
  go_ret2
  exact ⟨_, by first | rfl | (simp [*, errW_none, errW_some] <;> rfl), by first | exact Kd.R_nil _ _ _ _ _ | exact Kd.N_nil _ _ _ _ _ | exact Kd.V_nil _ _ _ _ _ | exact Kd.Q_nil _ _ _ _ _ | exact Kd.S_nil _ _ _ _ _, by repeat (with_reducible first | exact HB.out | apply bA | apply bN | apply bD)⟩
 ·rw [if_neg c2] at H
  have c2b0 : decide (12 < (a0.size : Int)) = false := decide_eq_false c2
  have c2b1 : decide (12 < a0.size) = false := decide_eq_false (by omega)
  clear c2
  by_cases c3 : 0 ≤ (a0.size : Int)
  ·rw [if_pos c3] at H
   have c3b0 := eq_true c3
   have c3b1 : decide (0 ≤ (a0.size : Int)) = true := decide_eq_true c3
   clear c3
   by_cases c4 : ((a0.size : Int) : Int).toNat ≤ 35184372088832
   ·rw [if_pos c4] at H
    have c4b0 := eq_true c4
    have c4b1 : decide (((a0.size : Int) : Int).toNat ≤ 35184372088832) = true := decide_eq_true c4
    clear c4
    obtain ⟨y162, hy162⟩ : ∃ y_ : List Int, y_ = (List.replicate ((a0.size : Int) : Int).toNat 0) := ⟨_, rfl⟩
    replace H : (spec_ahParse.l0 k a0 y162 ([] : List Int) 0) = some (r1, r2) := by first | (rw [hy162]; with_reducible exact H) | (have H2_ := (Option.bind_some _ _).symm.trans H; rw [hy162]; with_reducible exact H2_) | (have H2_ := (Option.bind_some _ _).symm.trans H; with_reducible exact H2_) | with_reducible exact H | (rw [hy162]; exact H) | exact H
    have Ny162 := am hy162
    clear hy162
    have H' := am H
    clear H
    go_enter Try.func86, Try.ntmps86
    go_wp2_with (first | ((with_reducible refine gate_dst (N := 13) rfl ?_); (try (refine gate_guard (by rfl) ?_; dsimp only)); refine Kd.R_make (Kd.int .i64) _ 3 rfl (N := 13) rfl 24 _ _ rfl (a0.size : Int) rfl rfl Try.underlying24 (.int .i64 0) 8 info3 rfl (by decide) (by omega) 0 (ok := fun _ => True) (okp := fun _ => True) rfl (fun _ hk => hk) trivial (ofd (by assumption)) (Nat.le_trans (Nat.mul_le_mul_right _ (ofd (by assumption) : (a0.size : Int).toNat ≤ 35184372088832)) (by omega)) (Below.refl _ _) (Nat.le_refl _) ?_; intro v163 w5 ho6 hb hg_ hnew_; clear hg_ hnew_; (first | rw [← Ny162.out] at ho6 | (simp only [Int.reduceToNat] at ho6; rw [← Ny162.out] at ho6)); have HO164 := am (Kd.R_lower ho6 (below_size (by repeat (with_reducible first | exact HB.out | apply bA | apply bN | apply bD)))); replace HB := am (below_step (by repeat (with_reducible first | exact HB.out | apply bA | apply bN | apply bD)) hb); clear hb ho6))
    go_loopg [5, 6] k (fun kq v5 v6 w' => ∃ (x4_1 : List Int) (x5_1 : List Int) (x6_1 : Int), v6 = .int .i64 x6_1 ∧ Aside0 (spec_ahParse.l0 kq a0 x4_1 x5_1 x6_1 = some (r1, r2)) ∧ Aside0 (kq ≤ k) ∧ Aside0 (Kd.R (Kd.int .i64) 3 w' w.heap.size (fun k_ => some k_ ≠ (v5 : Value).ownBlock) v163 x4_1) ∧ Aside0 (Kd.R (Kd.int .i64) 3 w' w.heap.size (fun k_ => some k_ ≠ (v163 : Value).ownBlock) v5 x5_1) ∧ Aside0 (Below w.heap.size w w'))
    case atStart => exact ⟨(y162), (([] : List Int)), (0), (by first | rfl | (simp; done) | (simp [*]; done)), H', ⟨Nat.le_refl _⟩, ⟨by (with_reducible repeat (first | apply rA | apply rN | apply rD)); exact Kd.R_mono HO164.out (fun _ hk => (by simp [Value.ownBlock]))⟩, ⟨by first | exact Kd.R_nil _ _ _ _ _ | exact Kd.N_nil _ _ _ _ _ | exact Kd.V_nil _ _ _ _ _ | exact Kd.Q_nil _ _ _ _ _ | exact Kd.S_nil _ _ _ _ _⟩, ⟨by repeat (with_reducible first | exact HB.out | apply bA | apply bN | apply bD)⟩⟩
    case round =>
     clear H'
     try clear p2
     obtain ⟨x4_1, x5_1, x6_1, rfl, HA, HK1, HO_4, HO_5, HB⟩ := hrel
     cases gk with
     | zero => exact absurd HA.out (by simp [spec_ahParse.l0])
     | succ k1 =>
      have H := HA.out
      clear HA
      simp only [spec_ahParse.l0] at H
      by_cases c7 : x6_1 < (a0.size : Int)
      ·rw [if_pos c7] at H
       have c7b0 : decide (x6_1 < (a0.size : Int)) = true := decide_eq_true c7
       clear c7
       by_cases c8 : 0 ≤ x6_1
       ·rw [if_pos c8] at H
        have c8b0 : decide (0 ≤ x6_1) = true := decide_eq_true c8
        clear c8
        by_cases c10 : (bt a0 x6_1) = 40
        ·rw [if_pos c10] at H
         have c10b0 : ((bt a0 x6_1) == 40) = true := beq_iff_eq.mpr c10
         have c10b1 : ((bt a0 x6_1) != 40) = false := bne_eq_false_iff_eq.mpr c10
         clear c10
         by_cases c11 : x5_1.length < 17592186044416
         ·rw [if_pos c11] at H
          have LMc11 := am c11
          clear c11
          obtain ⟨y165, hy165⟩ : ∃ y_ : List Int, y_ = (x5_1 ++ [x6_1]) := ⟨_, rfl⟩
          replace H : (spec_ahParse.l0 k1 a0 x4_1 y165 (wrap64 (x6_1 + 1))) = some (r1, r2) := by first | (rw [hy165]; with_reducible exact H) | (have H2_ := (Option.bind_some _ _).symm.trans H; rw [hy165]; with_reducible exact H2_) | (have H2_ := (Option.bind_some _ _).symm.trans H; with_reducible exact H2_) | with_reducible exact H | (rw [hy165]; exact H) | exact H
          have Ny165 := am hy165
          clear hy165
          have H' := am H
          clear H
          have p9 : 0 ≤ (x6_1 : Int) := ofd (by assumption)
          have q9 : x6_1 < (a0.size : Int) := ofd (by assumption)
          have hx9 := bt_at a0 x6_1
          replace p9 := eq_true p9
          replace q9 := eq_true q9
          go_wp2_with (first | ((with_reducible refine gate_builtin (b := .append) (xs := #[.tmp 25, .tmp 27]) rfl ?_); (try (refine gate_guard (by rfl) ?_; dsimp only)); at_builtin; refine Kd.R_append (Kd.int .i64) (w0 := w) w.heap.size rfl (.tmp 25) (.tmp 27) 24 3 (.int .i64 0) 8 rfl Try.underlying24 info3 rfl (by decide) (by omega) u5 x5_1 x6_1 [.int .i64 x6_1] (fun k_ => some k_ ≠ (v163 : Value).ownBlock) (fun _ => False) rfl rfl ?aP (fun _ hk => hk.elim) ?aF ?aO ?aB ?aS ?aL ?_; (case aP => exact rfl); (case aB => exact (by repeat (with_reducible first | exact HB.out | apply bA | apply bN | apply bD))); (case aF => exact (fun k_ hk => Kd.fresh' (Kd.R_lt (by (with_reducible repeat (first | apply rA | apply rN | apply rD)); exact HO_4.out)) k_ hk)); (case aO => exact (by (with_reducible repeat (first | apply rA | apply rN | apply rD)); exact HO_5.out)); (case aS => exact (below_size (by repeat (with_reducible first | exact HB.out | apply bA | apply bN | apply bD)))); (case aL => have := LMc11.out; omega); intro v166 w12 ho hb hg hat; rw [← Ny165.out] at ho; replace HO_4 := am (Kd.R_after (ok := (fun _ => True)) (by (with_reducible repeat (first | apply rA | apply rN | apply rD)); exact Kd.R_mono HO_4.out (fun _ hk => ⟨trivial, hk⟩)) hg hat); replace HB := am (hb); have HO167 := am (ho); clear HO_5; clear ho hb hg hat))
          go_roundg k1
          case measure => have := HK1.out; omega
          case rel => exact ⟨(x4_1), (y165), (wrap64 (x6_1 + 1)), (by first | rfl | (simp; done) | (simp [*]; done)), H', ⟨by have := HK1.out; omega⟩, ⟨by (with_reducible repeat (first | apply rA | apply rN | apply rD)); exact Kd.R_mono HO_4.out (fun _ hk => hk.2)⟩, ⟨by (with_reducible repeat (first | apply rA | apply rN | apply rD)); exact HO167.out⟩, ⟨by repeat (with_reducible first | exact HB.out | apply bA | apply bN | apply bD)⟩⟩
         ·rw [if_neg c11] at H
          exact absurd H (by simp)
        ·rw [if_neg c10] at H
         have c10b0 : ((bt a0 x6_1) == 40) = false := beq_eq_false_iff_ne.mpr c10
         have c10b1 : ((bt a0 x6_1) != 40) = true := bne_iff_ne.mpr c10
         by_cases c14 : (bt a0 x6_1) = 41
         ·rw [if_pos c14] at H
          have c14b0 : ((bt a0 x6_1) == 41) = true := beq_iff_eq.mpr c14
          have c14b1 : ((bt a0 x6_1) != 41) = false := bne_eq_false_iff_eq.mpr c14
          clear c14
          by_cases c15 : (x5_1.length : Int) > 0
          ·rw [if_pos c15] at H
           have c15b0 : decide (0 < (x5_1.length : Int)) = true := decide_eq_true c15
           have c15b1 : decide (0 < x5_1.length) = true := decide_eq_true (by omega)
           clear c15
           obtain ⟨ji16, hji16⟩ : ∃ j_ : Int, (wrap64 ((x5_1.length : Int) - 1)) = j_ := ⟨_, rfl⟩
           replace H : (if 0 ≤ (ji16) then (if (ji16) < (x5_1.length : Int) then (if (ji16) ≤ (x5_1.length : Int) then (if 0 ≤ (rd x5_1 (ji16)) then (if (rd x5_1 (ji16)) < (x4_1.length : Int) then (if x6_1 < (x4_1.length : Int) then (spec_ahParse.l0 k1 a0 ((x4_1.set ((rd x5_1 (ji16)) : Int).toNat x6_1).set (x6_1 : Int).toNat (rd x5_1 (ji16))) (x5_1.take ((ji16) : Int).toNat) (wrap64 (x6_1 + 1))) else (none)) else (none)) else (none)) else (none)) else (none)) else (none)) = some (r1, r2) := by first | (rw [hji16] at H; exact H) | (simp only [hji16] at H ⊢; exact H)
           have hji16w : (IntKind.i64.wrap ((x5_1.length : Int) - 1)) = ji16 := (i64_w _).trans hji16
           by_cases c17 : 0 ≤ (ji16)
           ·rw [if_pos c17] at H
            have c17b0 : decide (0 ≤ (ji16)) = true := decide_eq_true c17
            clear c17
            by_cases c18 : (ji16) < (x5_1.length : Int)
            ·rw [if_pos c18] at H
             have c18b0 : decide ((ji16) < (x5_1.length : Int)) = true := decide_eq_true c18
             clear c18
             by_cases c19 : (ji16) ≤ (x5_1.length : Int)
             ·rw [if_pos c19] at H
              have c19b0 := eq_true c19
              have c19b1 : decide ((ji16) ≤ (x5_1.length : Int)) = true := decide_eq_true c19
              clear c19
              obtain ⟨y169, hy169⟩ : ∃ y_ : List Int, y_ = (x5_1.take ((ji16) : Int).toNat) := ⟨_, rfl⟩
              replace H : (if 0 ≤ (rd x5_1 (ji16)) then (if (rd x5_1 (ji16)) < (x4_1.length : Int) then (if x6_1 < (x4_1.length : Int) then (spec_ahParse.l0 k1 a0 ((x4_1.set ((rd x5_1 (ji16)) : Int).toNat x6_1).set (x6_1 : Int).toNat (rd x5_1 (ji16))) y169 (wrap64 (x6_1 + 1))) else (none)) else (none)) else (none)) = some (r1, r2) := by first | (rw [hy169]; with_reducible exact H) | (have H2_ := (Option.bind_some _ _).symm.trans H; rw [hy169]; with_reducible exact H2_) | (have H2_ := (Option.bind_some _ _).symm.trans H; with_reducible exact H2_) | with_reducible exact H | (rw [hy169]; exact H) | exact H
              have Ny169 := am hy169
              clear hy169
              by_cases c20 : 0 ≤ (rd x5_1 (ji16))
              ·rw [if_pos c20] at H
               have c20b0 : decide (0 ≤ (rd x5_1 (ji16))) = true := decide_eq_true c20
               clear c20
               by_cases c21 : (rd x5_1 (ji16)) < (x4_1.length : Int)
               ·rw [if_pos c21] at H
                have c21b0 : decide ((rd x5_1 (ji16)) < (x4_1.length : Int)) = true := decide_eq_true c21
                clear c21
                obtain ⟨y172, hy172⟩ : ∃ y_ : List Int, y_ = (x4_1.set ((rd x5_1 (ji16)) : Int).toNat x6_1) := ⟨_, rfl⟩
                replace H : (if x6_1 < (x4_1.length : Int) then (spec_ahParse.l0 k1 a0 (y172.set (x6_1 : Int).toNat (rd x5_1 (ji16))) y169 (wrap64 (x6_1 + 1))) else (none)) = some (r1, r2) := by first | (rw [hy172]; with_reducible exact H) | (have H2_ := (Option.bind_some _ _).symm.trans H; rw [hy172]; with_reducible exact H2_) | (have H2_ := (Option.bind_some _ _).symm.trans H; with_reducible exact H2_) | with_reducible exact H | (rw [hy172]; exact H) | exact H
                have Ny172 := am hy172
                clear hy172
                by_cases c23 : x6_1 < (x4_1.length : Int)
                ·rw [if_pos c23] at H
                 have c23b0 : decide (x6_1 < (x4_1.length : Int)) = true := decide_eq_true c23
                 clear c23
                 obtain ⟨y173, hy173⟩ : ∃ y_ : List Int, y_ = (y172.set (x6_1 : Int).toNat (rd x5_1 (ji16))) := ⟨_, rfl⟩
                 replace H : (spec_ahParse.l0 k1 a0 y173 y169 (wrap64 (x6_1 + 1))) = some (r1, r2) := by first | (rw [hy173]; with_reducible exact H) | (have H2_ := (Option.bind_some _ _).symm.trans H; rw [hy173]; with_reducible exact H2_) | (have H2_ := (Option.bind_some _ _).symm.trans H; with_reducible exact H2_) | with_reducible exact H | (rw [hy173]; exact H) | exact H
                 have Ny173 := am hy173
                 clear hy173
                 have H' := am H
                 clear H
                 have p9 : 0 ≤ (x6_1 : Int) := ofd (by assumption)
                 have q9 : x6_1 < (a0.size : Int) := ofd (by assumption)
                 have hx9 := bt_at a0 x6_1
                 replace p9 := eq_true p9
                 replace q9 := eq_true q9
                 have p13 : 0 ≤ (x6_1 : Int) := ofd (by assumption)
                 have q13 : x6_1 < (a0.size : Int) := ofd (by assumption)
                 have hx13 := bt_at a0 x6_1
                 replace p13 := eq_true p13
                 replace q13 := eq_true q13
                 obtain ⟨Ao25, co25, eo25⟩ := Kd.R_slice HO_5.out
                 subst eo25
                 have p168 : 0 ≤ ((ji16) : Int) := ofd (by assumption)
                 have q168 : (ji16) < (x5_1.length : Int) := ofd (by assumption)
                 obtain ⟨ad168, e168, hx168_0⟩ := Kd.at_int (Kd.R_reads' HO_5.out).2.2 (ji16) p168 q168
                 cases e168
                 replace p168 := eq_true p168
                 replace q168 := eq_true q168
                 have q26 : ((ji16) : Int) ≤ ((x5_1.length : Int) : Int) := ofd (by assumption)
                 obtain ⟨i026, hi026, _, hsz26, _⟩ := info_parts info3
                 have hcut26 := cut_to (P := Try.prog) 24 3 .i64 Try.underlying24 hi026 (some ad168) x5_1.length co25 (ji16) (ofd (by assumption)) q26 (Kd.R_reads' HO_5.out).2.1
                 have hr26 := Kd.R_take (m := ((ji16) : Int).toNat) HO_5.out (by omega)
                 have hy26 : y169.length = ((ji16) : Int).toNat := (by rw [Ny169.out, List.length_take]; omega)
                 rw [← Ny169.out] at hr26
                 rw [← hy26] at hr26 hcut26
                 clear hy26 hi026 hsz26 HO_5
                 have HO171 := am hr26
                 clear hr26
                 replace q26 := eq_true q26
                 have p22 : 0 ≤ ((rd x5_1 (ji16)) : Int) := ofd (by assumption)
                 have q22 : ((rd x5_1 (ji16)) : Int) < ((x4_1.length : Int) : Int) := ofd (by assumption)
                 obtain ⟨go22, co22, eo22, gb22, gl22, cl22, HG22⟩ := Kd.R_form HO_4.out (by omega)
                 (first | cases eo22 | (injection eo22 with ea_ en_ ec_; (first | subst ea_ | (injection ea_ with ea_; subst ea_)); subst ec_; clear en_))
                 have GB22 := am gb22
                 have GG22 := am HG22
                 clear gb22 gl22 HG22
                 obtain ⟨hx22_0, hf22_0⟩ := Kd.R_celln 0 HO_4.out ((rd x5_1 (ji16)) : Int) p22 q22
                 replace p22 := eq_true p22
                 replace q22 := eq_true q22
                 have HP27 := Kd.R_putg HO_4.out ((rd x5_1 (ji16)) : Int) x6_1
                 go_wp2_with (first | ((with_reducible refine gate_store (t := 3) (p := 53) rfl ?_); refine store_event (t := 3) (p := 53) (v := ?vo_w28) (w1 := (wr.setCell ⟨go22, ((rd x5_1 (ji16)) : Int).toNat, none⟩ (.int .i64 x6_1))) ?hg ?ho ?hn ?hr ?_; (case ho => rfl); (case hg => rfl); (case hn => rfl); (case hr => first | (go_simp; done) | (go_simp; rfl)); intro w28 hw; have hg : wr.grownBy w28 (some go22) := (by rw [hw]; exact HP27.2); have hp_ : Kd.R (Kd.int .i64) 3 w28 w.heap.size (fun k_ => some k_ ≠ (.slice (some ad168) y169.length co25 : Value).ownBlock) (.slice (some ⟨go22, 0, none⟩) x4_1.length co22) y172 := (by rw [hw, Ny172.out]; exact HP27.1); clear HP27; replace HO_4 := am (hp_); replace HO171 := am (Kd.R_after (v := (.slice (some ⟨go22, 0, none⟩) x4_1.length co22)) (v1 := (.slice (some ⟨go22, 0, none⟩) x4_1.length co22)) (ok := (fun _ => True)) (by (with_reducible repeat (first | apply rA | apply rN | apply rD)); exact Kd.R_mono HO171.out (fun _ hk => ⟨trivial, hk⟩)) hg (.inl rfl)); replace HB := am ((by rw [hw]; exact bS (HB.out) GB22.out : Below w.heap.size w w28)); clear hg hw hp_; have p24 : 0 ≤ (x6_1 : Int) := ofd (by assumption); have q24 : (x6_1 : Int) < ((x4_1.length : Int) : Int) := ofd (by assumption); obtain ⟨hx24_0, hf24_0⟩ := Kd.R_celln 0 HO_4.out (x6_1 : Int) p24 q24; replace p24 := eq_true p24; replace q24 := eq_true q24; obtain ⟨hy29_, hz29_⟩ := Kd.R_celln 0 HO_4.out (x6_1 : Int) (ofd (by assumption)) (ofd (by assumption)); have HP29 := Kd.R_putg HO_4.out (x6_1 : Int) (rd x5_1 (ji16))) | ((with_reducible refine gate_store (t := 3) (p := 57) rfl ?_); refine store_event (t := 3) (p := 57) (v := ?vo_w30) (w1 := (w28.setCell ⟨go22, (x6_1 : Int).toNat, none⟩ (.int .i64 (rd x5_1 (ji16))))) ?hg ?ho ?hn ?hr ?_; (case ho => rfl); (case hg => rfl); (case hn => rfl); (case hr => first | (go_simp; done) | (go_simp; rfl)); intro w30 hw; have hg : w28.grownBy w30 (some go22) := (by rw [hw]; exact HP29.2); have hp_ : Kd.R (Kd.int .i64) 3 w30 w.heap.size (fun k_ => some k_ ≠ (.slice (some ad168) y169.length co25 : Value).ownBlock) (.slice (some ⟨go22, 0, none⟩) x4_1.length co22) y173 := (by rw [hw, Ny173.out]; exact HP29.1); clear HP29; replace HO_4 := am (hp_); replace HO171 := am (Kd.R_after (v := (.slice (some ⟨go22, 0, none⟩) x4_1.length co22)) (v1 := (.slice (some ⟨go22, 0, none⟩) x4_1.length co22)) (ok := (fun _ => True)) (by (with_reducible repeat (first | apply rA | apply rN | apply rD)); exact HO171.out) hg (.inl rfl)); replace HB := am ((by rw [hw]; exact bS (HB.out) GB22.out : Below w.heap.size w w30)); clear hg hw hp_))
                 go_roundg k1
                 case measure => have := HK1.out; omega
                 case rel => exact ⟨(y173), (y169), (wrap64 (x6_1 + 1)), (by first | rfl | (simp; done) | (simp [*]; done)), H', ⟨by have := HK1.out; omega⟩, ⟨by (with_reducible repeat (first | apply rA | apply rN | apply rD)); exact HO_4.out⟩, ⟨by (with_reducible repeat (first | apply rA | apply rN | apply rD)); exact Kd.R_mono HO171.out (fun _ hk => hk.2)⟩, ⟨by repeat (with_reducible first | exact HB.out | apply bA | apply bN | apply bD)⟩⟩
                ·rw [if_neg c23] at H
                 exact absurd H (by simp)
               ·rw [if_neg c21] at H
                exact absurd H (by simp)
              ·rw [if_neg c20] at H
               exact absurd H (by simp)
             ·rw [if_neg c19] at H
              exact absurd H (by simp)
            ·rw [if_neg c18] at H
             exact absurd H (by simp)
           ·rw [if_neg c17] at H
            exact absurd H (by simp)
          ·rw [if_neg c15] at H
           have c15b0 : decide (0 < (x5_1.length : Int)) = false := decide_eq_false c15
           have c15b1 : decide (0 < x5_1.length) = false := decide_eq_false (by omega)
           clear c15
           simp only [Option.some.injEq, Prod.mk.injEq] at H
           obtain ⟨rfl, rfl⟩ := H
           have p9 : 0 ≤ (x6_1 : Int) := ofd (by assumption)
           have q9 : x6_1 < (a0.size : Int) := ofd (by assumption)
           have hx9 := bt_at a0 x6_1
           replace p9 := eq_true p9
           replace q9 := eq_true q9
           have p13 : 0 ≤ (x6_1 : Int) := ofd (by assumption)
           have q13 : x6_1 < (a0.size : Int) := ofd (by assumption)
           have hx13 := bt_at a0 x6_1
           replace p13 := eq_true p13
           replace q13 := eq_true q13
           obtain ⟨Ao31, co31, eo31⟩ := Kd.R_slice HO_5.out
           subst eo31
           go_wp2
           go_ret2
           exact ⟨_, by first | rfl | (simp [*, errW_none, errW_some] <;> rfl), by first | exact Kd.R_nil _ _ _ _ _ | exact Kd.N_nil _ _ _ _ _ | exact Kd.V_nil _ _ _ _ _ | exact Kd.Q_nil _ _ _ _ _ | exact Kd.S_nil _ _ _ _ _, by repeat (with_reducible first | exact HB.out | apply bA | apply bN | apply bD)⟩
         ·rw [if_neg c14] at H
          have c14b0 : ((bt a0 x6_1) == 41) = false := beq_eq_false_iff_ne.mpr c14
          have c14b1 : ((bt a0 x6_1) != 41) = true := bne_iff_ne.mpr c14
          simp only [Option.some.injEq, Prod.mk.injEq] at H
          obtain ⟨rfl, rfl⟩ := H
          have p9 : 0 ≤ (x6_1 : Int) := ofd (by assumption)
          have q9 : x6_1 < (a0.size : Int) := ofd (by assumption)
          have hx9 := bt_at a0 x6_1
          replace p9 := eq_true p9
          replace q9 := eq_true q9
          have p13 : 0 ≤ (x6_1 : Int) := ofd (by assumption)
          have q13 : x6_1 < (a0.size : Int) := ofd (by assumption)
          have hx13 := bt_at a0 x6_1
          replace p13 := eq_true p13
          replace q13 := eq_true q13
          go_wp2
          go_ret2
          exact ⟨_, by first | rfl | (simp [*, errW_none, errW_some] <;> rfl), by first | exact Kd.R_nil _ _ _ _ _ | exact Kd.N_nil _ _ _ _ _ | exact Kd.V_nil _ _ _ _ _ | exact Kd.Q_nil _ _ _ _ _ | exact Kd.S_nil _ _ _ _ _, by repeat (with_reducible first | exact HB.out | apply bA | apply bN | apply bD)⟩
       ·rw [if_neg c8] at H
        exact absurd H (by simp)
      ·rw [if_neg c7] at H
       have c7b0 : decide (x6_1 < (a0.size : Int)) = false := decide_eq_false c7
       clear c7
       by_cases c32 : (x5_1.length : Int) > 0
       ·rw [if_pos c32] at H
        have c32b0 : decide (0 < (x5_1.length : Int)) = true := decide_eq_true c32
        have c32b1 : decide (0 < x5_1.length) = true := decide_eq_true (by omega)
        clear c32
        simp only [Option.some.injEq, Prod.mk.injEq] at H
        obtain ⟨rfl, rfl⟩ := H
        obtain ⟨Ao33, co33, eo33⟩ := Kd.R_slice HO_5.out
        subst eo33
        go_wp2
        go_ret2
        exact ⟨_, by first | rfl | (simp [*, errW_none, errW_some] <;> rfl), by first | exact Kd.R_nil _ _ _ _ _ | exact Kd.N_nil _ _ _ _ _ | exact Kd.V_nil _ _ _ _ _ | exact Kd.Q_nil _ _ _ _ _ | exact Kd.S_nil _ _ _ _ _, by repeat (with_reducible first | exact HB.out | apply bA | apply bN | apply bD)⟩
       ·rw [if_neg c32] at H
        have c32b0 : decide (0 < (x5_1.length : Int)) = false := decide_eq_false c32
        have c32b1 : decide (0 < x5_1.length) = false := decide_eq_false (by omega)
        clear c32
        simp only [Option.some.injEq, Prod.mk.injEq] at H
        obtain ⟨rfl, rfl⟩ := H
        obtain ⟨Ao34, co34, eo34⟩ := Kd.R_slice HO_5.out
        subst eo34
        go_wp2
        go_ret2
        exact ⟨_, by first | rfl | (simp [*, errW_none, errW_some] <;> rfl), by (with_reducible repeat (first | apply rA | apply rN | apply rD)); exact Kd.R_mono HO_4.out (fun _ hk => trivial), by repeat (with_reducible first | exact HB.out | apply bA | apply bN | apply bD)⟩
   ·rw [if_neg c4] at H
    exact absurd H (by simp)
  ·rw [if_neg c3] at H
   exact absurd H (by simp)
def spec_l1Cur_sure.l0 : Nat → Int → ByteArray → Int → Int → Int → List Int → Int → Int → Option (List Int × Int × Int)
 | 0, _, _, _, _, _, _, _, _ => none
 | k + 1, x1, x5, x6, x7, x8, x1000, x1001, x1002 => if x8 < (wrap64 (2 * x1)) then (if x7 > 0 then (if x6 = 0 then (if x5.size + 1 ≤ 9223372036854775807 then (spec_l1Cur_sure.l0 k x1 (x5 ++ (⟨#[40]⟩ : ByteArray)) (wrap64 (x6 + 1)) (wrap64 (x7 - 1)) (wrap64 (x8 + 1)) x1000 x1001 x1002) else (none)) else ((spec_l1Cur_one.f x1000 x1001 x1002 2).bind fun bt174 => (if bt174.1 = true then (if x5.size + 1 ≤ 9223372036854775807 then (spec_l1Cur_sure.l0 k x1 (x5 ++ (⟨#[40]⟩ : ByteArray)) (wrap64 (x6 + 1)) (wrap64 (x7 - 1)) (wrap64 (x8 + 1)) x1000 bt174.2.1 bt174.2.2) else (none)) else (if x5.size + 1 ≤ 9223372036854775807 then (spec_l1Cur_sure.l0 k x1 (x5 ++ (⟨#[41]⟩ : ByteArray)) (wrap64 (x6 - 1)) x7 (wrap64 (x8 + 1)) x1000 bt174.2.1 bt174.2.2) else (none))))) else (if x5.size + 1 ≤ 9223372036854775807 then (spec_l1Cur_sure.l0 k x1 (x5 ++ (⟨#[41]⟩ : ByteArray)) (wrap64 (x6 - 1)) x7 (wrap64 (x8 + 1)) x1000 x1001 x1002) else (none))) else ((spec_ahParse.f k x5).bind fun bt177 => (some (bt177.1, x1001, x1002)))
def spec_l1Cur_sure.f (k : Nat) (s0_0 : List Int) (s0_1 : Int) (s0_2 : Int) (a1 : Int) : Option (List Int × Int × Int) := spec_l1Cur_sure.l0 k a1 (⟨#[]⟩ : ByteArray) 0 a1 0 s0_0 s0_1 s0_2
theorem spec_l1Cur_sure.calls (k : Nat) (g : Nat) (s0_0 : List Int) (s0_1 : Int) (s0_2 : Int) (a1 : Int) (r1 : List Int) (r2 : Int) (r3 : Int) (w0 w : World) (hI : IsS64 w0 w g s0_0 s0_1 s0_2) (hB : Below w0.heap.size w0 w) (h : spec_l1Cur_sure.f k s0_0 s0_1 s0_2 a1 = some (r1, r2, r3)) :
 Calls Try.prog 67 #[.pointer (some ⟨g, 0, none⟩), .int .i64 a1] w fun e w' => ∃ v0_ : Value, e = .returned (v0_) ∧ Kd.R (Kd.int .i64) 3 w' w.heap.size (fun _ => True) v0_ r1 ∧ IsS64 w0 w' g s0_0 r2 r3 ∧ Below w0.heap.size w0 w' ∧ KeepBut w w' g none := by
 have HI0 := am hI
 have HK := am (KeepBut.refl w g none)
 have HL := am hB.size
 clear hI
 have HW0 := am hB.size
 have HB := am hB
 clear hB
 have H : (spec_l1Cur_sure.l0 k a1 (⟨#[]⟩ : ByteArray) 0 a1 0 s0_0 s0_1 s0_2) = some (r1, r2, r3) := h
 clear h
 have H' := am H
 clear H
 go_enter Try.func67, Try.ntmps67
 go_wp2
 go_loopg [5, 6, 7, 8] k (fun kq v5 v6 v7 v8 w' => ∃ (x5_1 : ByteArray) (x6_1 : Int) (x7_1 : Int) (x8_1 : Int) (x1001_1 : Int) (x1002_1 : Int), v5 = .string x5_1 ∧ v6 = .int .i64 x6_1 ∧ v7 = .int .i64 x7_1 ∧ v8 = .int .i64 x8_1 ∧ Aside0 (spec_l1Cur_sure.l0 kq a1 x5_1 x6_1 x7_1 x8_1 s0_0 x1001_1 x1002_1 = some (r1, r2, r3)) ∧ Aside0 (kq ≤ k) ∧ Aside0 (IsS64 w0 w' g s0_0 x1001_1 x1002_1) ∧ Aside0 (KeepBut w w' g none) ∧ Aside0 (Below w0.heap.size w0 w'))
 case atStart => exact ⟨((⟨#[]⟩ : ByteArray)), (0), (a1), (0), (s0_1), (s0_2), (by first | rfl | (simp; done) | (simp [*]; done)), (by first | rfl | (simp; done) | (simp [*]; done)), (by first | rfl | (simp; done) | (simp [*]; done)), (by first | rfl | (simp; done) | (simp [*]; done)), H', ⟨Nat.le_refl _⟩, ⟨by repeat (first | exact HI0.out | apply iA | apply iN | apply iD | apply i1 | apply i2)⟩, ⟨by repeat (first | exact HK.out | apply kS | apply kN | apply kD | apply kA)⟩, ⟨by repeat (with_reducible first | exact HB.out | apply bA | apply bN | apply bD | refine bS ?_ (iG HI0.out))⟩⟩
 case round =>
  clear H'
  try clear p2
  obtain ⟨x5_1, x6_1, x7_1, x8_1, x1001_1, x1002_1, rfl, rfl, rfl, rfl, HA, HK1, HI0, HK, HB⟩ := hrel
  cases gk with
  | zero => exact absurd HA.out (by simp [spec_l1Cur_sure.l0])
  | succ k1 =>
   have H := HA.out
   clear HA
   simp only [spec_l1Cur_sure.l0] at H
   by_cases c3 : x8_1 < (wrap64 (2 * a1))
   ·rw [if_pos c3] at H
    have c3b0 : decide (x8_1 < (wrap64 (2 * a1))) = true := decide_eq_true c3
    clear c3
    by_cases c4 : x7_1 > 0
    ·rw [if_pos c4] at H
     have c4b0 : decide (0 < x7_1) = true := decide_eq_true c4
     clear c4
     by_cases c5 : x6_1 = 0
     ·rw [if_pos c5] at H
      have c5b0 : (x6_1 == 0) = true := beq_iff_eq.mpr c5
      have c5b1 : (x6_1 != 0) = false := bne_eq_false_iff_eq.mpr c5
      clear c5
      by_cases c6 : x5_1.size + 1 ≤ 9223372036854775807
      ·rw [if_pos c6] at H
       have c6b0 := eq_true c6
       have c6b1 : decide (x5_1.size + 1 ≤ 9223372036854775807) = true := decide_eq_true c6
       try have c6b2 : (9223372036854775807 < x5_1.size + 1) = False := eq_false (Nat.not_lt.2 c6)
       have H' := am H
       clear H
       go_wp2
       go_roundg k1
       case measure => have := HK1.out; omega
       case rel => exact ⟨(x5_1 ++ (⟨#[40]⟩ : ByteArray)), (wrap64 (x6_1 + 1)), (wrap64 (x7_1 - 1)), (wrap64 (x8_1 + 1)), (x1001_1), (x1002_1), (by first | rfl | (simp; done) | (simp [*]; done)), (by first | rfl | (simp; done) | (simp [*]; done)), (by first | rfl | (simp; done) | (simp [*]; done)), (by first | rfl | (simp; done) | (simp [*]; done)), H', ⟨by have := HK1.out; omega⟩, ⟨by repeat (first | exact HI0.out | apply iA | apply iN | apply iD | apply i1 | apply i2)⟩, ⟨by repeat (first | exact HK.out | apply kS | apply kN | apply kD | apply kA)⟩, ⟨by repeat (with_reducible first | exact HB.out | apply bA | apply bN | apply bD | refine bS ?_ (iG HI0.out))⟩⟩
      ·rw [if_neg c6] at H
       exact absurd H (by simp)
     ·rw [if_neg c5] at H
      have c5b0 : (x6_1 == 0) = false := beq_eq_false_iff_ne.mpr c5
      have c5b1 : (x6_1 != 0) = true := bne_iff_ne.mpr c5
      replace H := Option.bind_eq_some_iff.mp H
      obtain ⟨⟨t174, t175, t176⟩, A70, H⟩ := H
      replace H : (if t174 = true then (if x5_1.size + 1 ≤ 9223372036854775807 then (spec_l1Cur_sure.l0 k1 a1 (x5_1 ++ (⟨#[40]⟩ : ByteArray)) (wrap64 (x6_1 + 1)) (wrap64 (x7_1 - 1)) (wrap64 (x8_1 + 1)) s0_0 t175 t176) else (none)) else (if x5_1.size + 1 ≤ 9223372036854775807 then (spec_l1Cur_sure.l0 k1 a1 (x5_1 ++ (⟨#[41]⟩ : ByteArray)) (wrap64 (x6_1 - 1)) x7_1 (wrap64 (x8_1 + 1)) s0_0 t175 t176) else (none))) = some (r1, r2, r3) := H
      have A7 := am A70
      clear A70
      by_cases c8 : t174 = true
      ·subst c8
       have H1 : (if x5_1.size + 1 ≤ 9223372036854775807 then (spec_l1Cur_sure.l0 k1 a1 (x5_1 ++ (⟨#[40]⟩ : ByteArray)) (wrap64 (x6_1 + 1)) (wrap64 (x7_1 - 1)) (wrap64 (x8_1 + 1)) s0_0 t175 t176) else (none)) = some (r1, r2, r3) := by rw [if_pos rfl] at H; exact H
       clear H
       have H := H1
       clear H1
       by_cases c9 : x5_1.size + 1 ≤ 9223372036854775807
       ·rw [if_pos c9] at H
        have c9b0 := eq_true c9
        have c9b1 : decide (x5_1.size + 1 ≤ 9223372036854775807) = true := decide_eq_true c9
        try have c9b2 : (9223372036854775807 < x5_1.size + 1) = False := eq_false (Nat.not_lt.2 c9)
        have H' := am H
        clear H
        go_wp2_with (first | (go_at_call 55; (with_reducible refine (spec_l1Cur_one.calls g s0_0 x1001_1 x1002_1 2 true t175 t176 w0 _ ?side1 ?side2 A7.out).mono ?_); (case side1 => repeat (first | exact HI0.out | apply iA | apply iN | apply iD | apply i1 | apply i2)); (case side2 => repeat (with_reducible first | exact HB.out | apply bA | apply bN | apply bD | refine bS ?_ (iG HI0.out))); rintro e w10 ⟨rfl, hi, hb, hk⟩; replace HK := am (KeepBut.trans (by repeat (first | exact HK.out | apply kS | apply kN | apply kD | apply kA)) hk (.inl rfl)); replace HB := am (hb); replace HI0 := am (hi); (try clear hb2); (try clear hb hk hi)))
        go_roundg k1
        case measure => have := HK1.out; omega
        case rel => exact ⟨(x5_1 ++ (⟨#[40]⟩ : ByteArray)), (wrap64 (x6_1 + 1)), (wrap64 (x7_1 - 1)), (wrap64 (x8_1 + 1)), (t175), (t176), (by first | rfl | (simp; done) | (simp [*]; done)), (by first | rfl | (simp; done) | (simp [*]; done)), (by first | rfl | (simp; done) | (simp [*]; done)), (by first | rfl | (simp; done) | (simp [*]; done)), H', ⟨by have := HK1.out; omega⟩, ⟨by repeat (first | exact HI0.out | apply iA | apply iN | apply iD | apply i1 | apply i2)⟩, ⟨by repeat (first | exact HK.out | apply kS | apply kN | apply kD | apply kA)⟩, ⟨by repeat (with_reducible first | exact HB.out | apply bA | apply bN | apply bD | refine bS ?_ (iG HI0.out))⟩⟩
       ·rw [if_neg c9] at H
        exact absurd H (by simp)
      ·replace c8 := Bool.eq_false_iff.mpr c8
       subst c8
       have H1 : (if x5_1.size + 1 ≤ 9223372036854775807 then (spec_l1Cur_sure.l0 k1 a1 (x5_1 ++ (⟨#[41]⟩ : ByteArray)) (wrap64 (x6_1 - 1)) x7_1 (wrap64 (x8_1 + 1)) s0_0 t175 t176) else (none)) = some (r1, r2, r3) := by rw [if_neg (show ¬ (false = true) by decide)] at H; exact H
       clear H
       have H := H1
       clear H1
       by_cases c11 : x5_1.size + 1 ≤ 9223372036854775807
       ·rw [if_pos c11] at H
        have c11b0 := eq_true c11
        have c11b1 : decide (x5_1.size + 1 ≤ 9223372036854775807) = true := decide_eq_true c11
        try have c11b2 : (9223372036854775807 < x5_1.size + 1) = False := eq_false (Nat.not_lt.2 c11)
        have H' := am H
        clear H
        go_wp2_with (first | (go_at_call 55; (with_reducible refine (spec_l1Cur_one.calls g s0_0 x1001_1 x1002_1 2 false t175 t176 w0 _ ?side1 ?side2 A7.out).mono ?_); (case side1 => repeat (first | exact HI0.out | apply iA | apply iN | apply iD | apply i1 | apply i2)); (case side2 => repeat (with_reducible first | exact HB.out | apply bA | apply bN | apply bD | refine bS ?_ (iG HI0.out))); rintro e w12 ⟨rfl, hi, hb, hk⟩; replace HK := am (KeepBut.trans (by repeat (first | exact HK.out | apply kS | apply kN | apply kD | apply kA)) hk (.inl rfl)); replace HB := am (hb); replace HI0 := am (hi); (try clear hb2); (try clear hb hk hi)))
        go_roundg k1
        case measure => have := HK1.out; omega
        case rel => exact ⟨(x5_1 ++ (⟨#[41]⟩ : ByteArray)), (wrap64 (x6_1 - 1)), (x7_1), (wrap64 (x8_1 + 1)), (t175), (t176), (by first | rfl | (simp; done) | (simp [*]; done)), (by first | rfl | (simp; done) | (simp [*]; done)), (by first | rfl | (simp; done) | (simp [*]; done)), (by first | rfl | (simp; done) | (simp [*]; done)), H', ⟨by have := HK1.out; omega⟩, ⟨by repeat (first | exact HI0.out | apply iA | apply iN | apply iD | apply i1 | apply i2)⟩, ⟨by repeat (first | exact HK.out | apply kS | apply kN | apply kD | apply kA)⟩, ⟨by repeat (with_reducible first | exact HB.out | apply bA | apply bN | apply bD | refine bS ?_ (iG HI0.out))⟩⟩
       ·rw [if_neg c11] at H
        exact absurd H (by simp)
    ·rw [if_neg c4] at H
     have c4b0 : decide (0 < x7_1) = false := decide_eq_false c4
     clear c4
     by_cases c13 : x5_1.size + 1 ≤ 9223372036854775807
     ·rw [if_pos c13] at H
      have c13b0 := eq_true c13
      have c13b1 : decide (x5_1.size + 1 ≤ 9223372036854775807) = true := decide_eq_true c13
      try have c13b2 : (9223372036854775807 < x5_1.size + 1) = False := eq_false (Nat.not_lt.2 c13)
      have H' := am H
      clear H
      go_wp2
      go_roundg k1
      case measure => have := HK1.out; omega
      case rel => exact ⟨(x5_1 ++ (⟨#[41]⟩ : ByteArray)), (wrap64 (x6_1 - 1)), (x7_1), (wrap64 (x8_1 + 1)), (x1001_1), (x1002_1), (by first | rfl | (simp; done) | (simp [*]; done)), (by first | rfl | (simp; done) | (simp [*]; done)), (by first | rfl | (simp; done) | (simp [*]; done)), (by first | rfl | (simp; done) | (simp [*]; done)), H', ⟨by have := HK1.out; omega⟩, ⟨by repeat (first | exact HI0.out | apply iA | apply iN | apply iD | apply i1 | apply i2)⟩, ⟨by repeat (first | exact HK.out | apply kS | apply kN | apply kD | apply kA)⟩, ⟨by repeat (with_reducible first | exact HB.out | apply bA | apply bN | apply bD | refine bS ?_ (iG HI0.out))⟩⟩
     ·rw [if_neg c13] at H
      exact absurd H (by simp)
   ·rw [if_neg c3] at H
    have c3b0 : decide (x8_1 < (wrap64 (2 * a1))) = false := decide_eq_false c3
    clear c3
    replace H := Option.bind_eq_some_iff.mp H
    obtain ⟨⟨t177, t178⟩, A140, H⟩ := H
    replace H : (some (t177, x1001_1, x1002_1)) = some (r1, r2, r3) := H
    have A14 := am A140
    clear A140
    simp only [Option.some.injEq, Prod.mk.injEq] at H
    obtain ⟨rfl, rfl, rfl⟩ := H
    go_wp2_with (first | ((with_reducible refine gate_callee (f := 86) rfl ?_); refine goesL_ (some 40) rfl rfl Try.func86 (by kernel_rfl) rfl #[.string x5_1] rfl (by (try simp only [mT, mC, mZ]); first | done | rfl) ?_; (with_reducible refine (spec_ahParse.calls k1 x5_1 t177 t178 _ A14.out).mono ?_); rintro e w15 ⟨v179, rfl, ho0, hb⟩; refine ⟨_, rfl, ?_⟩; have HO180 := am (Kd.R_lower ho0 (keep_size (w := w) (g := g) (row := none) (by repeat (first | exact HK.out | apply kS | apply kN | apply kD | apply kA)))); replace HK := am (KeepBut.trans (by repeat (first | exact HK.out | apply kS | apply kN | apply kD | apply kA)) (KeepBut.of_below hb g none) (.inl rfl)); replace HB := am (below_step (by repeat (with_reducible first | exact HB.out | apply bA | apply bN | apply bD | refine bS ?_ (iG HI0.out))) hb); replace HI0 := am (IsS64.below (by repeat (first | exact HI0.out | apply iA | apply iN | apply iD | apply i1 | apply i2)) hb); (try clear hb2); (try clear hb hk hi); (try clear ho0)))
    go_ret
    exact ⟨_, by first | rfl | (simp [*, errW_none, errW_some] <;> rfl), by (with_reducible repeat (first | apply rA | apply rN | apply rD)); exact HO180.out, by repeat (first | exact HI0.out | apply iA | apply iN | apply iD | apply i1 | apply i2), by repeat (with_reducible first | exact HB.out | apply bA | apply bN | apply bD | refine bS ?_ (iG HI0.out)), by repeat (first | exact HK.out | apply kS | apply kN | apply kD | apply kA)⟩
def spec_ahRainbow.l0 : Nat → List Int → Int → Option (List Int)
 | 0, _, _ => none
 | k + 1, x3, x4 => if x4 ≥ 0 then (if x3.length < 17592186044416 then (spec_ahRainbow.l0 k (x3 ++ [x4]) (wrap64 (x4 - 1))) else (none)) else (some x3)
def spec_ahRainbow.f (k : Nat) (a0 : Int) : Option (List Int) := spec_ahRainbow.l0 k ([] : List Int) (wrap64 ((wrap64 (2 * a0)) - 1))
theorem spec_ahRainbow.mono_l : ∀ k, (∀ y0 y1, LeO (spec_ahRainbow.l0 k y0 y1) (spec_ahRainbow.l0 (k + 1) y0 y1))
 | 0 => fun _ _ r h => by simp [spec_ahRainbow.l0] at h
 | k + 1 => by
  have ih0 := spec_ahRainbow.mono_l k
  ·intro y0 y1
   unfold spec_ahRainbow.l0
   repeat' first
    | (with_reducible first | exact ih0 _ _ | exact LeO.refl _ | exact LeO.none _ | refine LeO.ite ?_ ?_ | refine LeO.bind ?_ (fun _ => ?_))
    | exact LeO.none _
    | refine LeO.ite ?_ ?_
    | refine LeO.bind ?_ (fun _ => ?_)
theorem spec_ahRainbow.mono : ∀ a0 k, LeO (spec_ahRainbow.f k a0) (spec_ahRainbow.f (k + 1) a0) := by
 intro a0 k
 have ih0 := spec_ahRainbow.mono_l k
 unfold spec_ahRainbow.f
 repeat' first
  | (with_reducible first | exact ih0 _ _ | exact LeO.refl _ | exact LeO.none _ | refine LeO.ite ?_ ?_ | refine LeO.bind ?_ (fun _ => ?_))
  | exact LeO.none _
  | refine LeO.ite ?_ ?_
  | refine LeO.bind ?_ (fun _ => ?_)
theorem spec_ahRainbow.calls (k : Nat) (a0 : Int) (r : List Int) (w : World) (h : spec_ahRainbow.f k a0 = some r) :
 Calls Try.prog 76 #[.int .i64 a0] w fun e w' => ∃ v0_ : Value, e = .returned (v0_) ∧ Kd.R (Kd.int .i64) 3 w' w.heap.size (fun _ => True) v0_ r ∧ Below w.heap.size w w' := by
 have HB := am (Below.refl w.heap.size w)
 have H : (spec_ahRainbow.l0 k ([] : List Int) (wrap64 ((wrap64 (2 * a0)) - 1))) = some r := h
 clear h
 have H' := am H
 clear H
 go_enter Try.func76, Try.ntmps76
 go_wp2
 go_loopg [3, 4] k (fun kq v3 v4 w' => ∃ (x3_1 : List Int) (x4_1 : Int), v4 = .int .i64 x4_1 ∧ Aside0 (spec_ahRainbow.l0 kq x3_1 x4_1 = some r) ∧ Aside0 (kq ≤ k) ∧ Aside0 (Kd.R (Kd.int .i64) 3 w' w.heap.size (fun _ => True) v3 x3_1) ∧ Aside0 (Below w.heap.size w w'))
 case atStart => exact ⟨(([] : List Int)), (wrap64 ((wrap64 (2 * a0)) - 1)), (by first | rfl | (simp; done) | (simp [*]; done)), H', ⟨Nat.le_refl _⟩, ⟨by first | exact Kd.R_nil _ _ _ _ _ | exact Kd.N_nil _ _ _ _ _ | exact Kd.V_nil _ _ _ _ _ | exact Kd.Q_nil _ _ _ _ _ | exact Kd.S_nil _ _ _ _ _⟩, ⟨by repeat (with_reducible first | exact HB.out | apply bA | apply bN | apply bD)⟩⟩
 case round =>
  clear H'
  obtain ⟨x3_1, x4_1, rfl, HA, HK1, HO_3, HB⟩ := hrel
  cases gk with
  | zero => exact absurd HA.out (by simp [spec_ahRainbow.l0])
  | succ k1 =>
   have H := HA.out
   clear HA
   simp only [spec_ahRainbow.l0] at H
   by_cases c2 : x4_1 ≥ 0
   ·rw [if_pos c2] at H
    have c2b0 : decide (0 ≤ x4_1) = true := decide_eq_true c2
    clear c2
    by_cases c3 : x3_1.length < 17592186044416
    ·rw [if_pos c3] at H
     have LMc3 := am c3
     clear c3
     obtain ⟨y181, hy181⟩ : ∃ y_ : List Int, y_ = (x3_1 ++ [x4_1]) := ⟨_, rfl⟩
     replace H : (spec_ahRainbow.l0 k1 y181 (wrap64 (x4_1 - 1))) = some r := by first | (rw [hy181]; with_reducible exact H) | (have H2_ := (Option.bind_some _ _).symm.trans H; rw [hy181]; with_reducible exact H2_) | (have H2_ := (Option.bind_some _ _).symm.trans H; with_reducible exact H2_) | with_reducible exact H | (rw [hy181]; exact H) | exact H
     have Ny181 := am hy181
     clear hy181
     have H' := am H
     clear H
     go_wp2_with (first | ((with_reducible refine gate_builtin (b := .append) (xs := #[.tmp 12, .tmp 14]) rfl ?_); at_builtin; refine Kd.R_append (Kd.int .i64) (w0 := w) w.heap.size rfl (.tmp 12) (.tmp 14) 24 3 (.int .i64 0) 8 rfl Try.underlying24 info3 rfl (by decide) (by omega) u3 x3_1 x4_1 [.int .i64 x4_1] (fun _ => True) (fun _ => False) rfl rfl ?aP (fun _ hk => hk.elim) ?aF ?aO ?aB ?aS ?aL ?_; (case aP => exact rfl); (case aB => exact (by repeat (with_reducible first | exact HB.out | apply bA | apply bN | apply bD))); (case aF => exact (fun _ _ => trivial)); (case aO => exact (by (with_reducible repeat (first | apply rA | apply rN | apply rD)); exact HO_3.out)); (case aS => exact (below_size (by repeat (with_reducible first | exact HB.out | apply bA | apply bN | apply bD)))); (case aL => have := LMc3.out; omega); intro v182 w4 ho hb hg hat; rw [← Ny181.out] at ho; replace HB := am (hb); have HO183 := am (ho); clear HO_3; clear ho hb hg hat))
     go_roundg k1
     case measure => have := HK1.out; omega
     case rel => exact ⟨(y181), (wrap64 (x4_1 - 1)), (by first | rfl | (simp; done) | (simp [*]; done)), H', ⟨by have := HK1.out; omega⟩, ⟨by (with_reducible repeat (first | apply rA | apply rN | apply rD)); exact HO183.out⟩, ⟨by repeat (with_reducible first | exact HB.out | apply bA | apply bN | apply bD)⟩⟩
    ·rw [if_neg c3] at H
     exact absurd H (by simp)
   ·rw [if_neg c2] at H
    have c2b0 : decide (0 ≤ x4_1) = false := decide_eq_false c2
    clear c2
    obtain rfl := Option.some.inj H
    go_wp2
    go_ret
    exact ⟨_, by first | rfl | (simp [*, errW_none, errW_some] <;> rfl), by (with_reducible repeat (first | apply rA | apply rN | apply rD)); exact HO_3.out, by repeat (with_reducible first | exact HB.out | apply bA | apply bN | apply bD)⟩
def spec_ahFlat.l0 : Nat → Int → List Int → Int → Option (List Int)
 | 0, _, _, _ => none
 | k + 1, x0, x3, x4 => if x4 < x0 then ((some (([wrap64 ((wrap64 (2 * x4)) + 1), wrap64 (2 * x4)] : List Int) : List Int)).bind fun y184 => (if x3.length + y184.length < 17592186044416 then (spec_ahFlat.l0 k x0 (x3 ++ y184) (wrap64 (x4 + 1))) else (none))) else (some x3)
def spec_ahFlat.f (k : Nat) (a0 : Int) : Option (List Int) := spec_ahFlat.l0 k a0 ([] : List Int) 0
theorem spec_ahFlat.mono_l : ∀ k, (∀ y0 y1 y2, LeO (spec_ahFlat.l0 k y0 y1 y2) (spec_ahFlat.l0 (k + 1) y0 y1 y2))
 | 0 => fun _ _ _ r h => by simp [spec_ahFlat.l0] at h
 | k + 1 => by
  have ih0 := spec_ahFlat.mono_l k
  ·intro y0 y1 y2
   unfold spec_ahFlat.l0
   repeat' first
    | (with_reducible first | exact ih0 _ _ _ | exact LeO.refl _ | exact LeO.none _ | refine LeO.ite ?_ ?_ | refine LeO.bind ?_ (fun _ => ?_))
    | exact LeO.none _
    | refine LeO.ite ?_ ?_
    | refine LeO.bind ?_ (fun _ => ?_)
theorem spec_ahFlat.mono : ∀ a0 k, LeO (spec_ahFlat.f k a0) (spec_ahFlat.f (k + 1) a0) := by
 intro a0 k
 have ih0 := spec_ahFlat.mono_l k
 unfold spec_ahFlat.f
 repeat' first
  | (with_reducible first | exact ih0 _ _ _ | exact LeO.refl _ | exact LeO.none _ | refine LeO.ite ?_ ?_ | refine LeO.bind ?_ (fun _ => ?_))
  | exact LeO.none _
  | refine LeO.ite ?_ ?_
  | refine LeO.bind ?_ (fun _ => ?_)
theorem spec_ahFlat.calls (k : Nat) (a0 : Int) (r : List Int) (w : World) (h : spec_ahFlat.f k a0 = some r) :
 Calls Try.prog 77 #[.int .i64 a0] w fun e w' => ∃ v0_ : Value, e = .returned (v0_) ∧ Kd.R (Kd.int .i64) 3 w' w.heap.size (fun _ => True) v0_ r ∧ Below w.heap.size w w' := by
 have HB := am (Below.refl w.heap.size w)
 have H : (spec_ahFlat.l0 k a0 ([] : List Int) 0) = some r := h
 clear h
 have H' := am H
 clear H
 go_enter Try.func77, Try.ntmps77
 go_wp2
 go_loopg [3, 4] k (fun kq v3 v4 w' => ∃ (x3_1 : List Int) (x4_1 : Int), v4 = .int .i64 x4_1 ∧ Aside0 (spec_ahFlat.l0 kq a0 x3_1 x4_1 = some r) ∧ Aside0 (kq ≤ k) ∧ Aside0 (Kd.R (Kd.int .i64) 3 w' w.heap.size (fun _ => True) v3 x3_1) ∧ Aside0 (Below w.heap.size w w'))
 case atStart => exact ⟨(([] : List Int)), (0), (by first | rfl | (simp; done) | (simp [*]; done)), H', ⟨Nat.le_refl _⟩, ⟨by first | exact Kd.R_nil _ _ _ _ _ | exact Kd.N_nil _ _ _ _ _ | exact Kd.V_nil _ _ _ _ _ | exact Kd.Q_nil _ _ _ _ _ | exact Kd.S_nil _ _ _ _ _⟩, ⟨by repeat (with_reducible first | exact HB.out | apply bA | apply bN | apply bD)⟩⟩
 case round =>
  clear H'
  obtain ⟨x3_1, x4_1, rfl, HA, HK1, HO_3, HB⟩ := hrel
  cases gk with
  | zero => exact absurd HA.out (by simp [spec_ahFlat.l0])
  | succ k1 =>
   have H := HA.out
   clear HA
   simp only [spec_ahFlat.l0] at H
   by_cases c2 : x4_1 < a0
   ·rw [if_pos c2] at H
    have c2b0 : decide (x4_1 < a0) = true := decide_eq_true c2
    clear c2
    obtain ⟨y184, hy184⟩ : ∃ y_ : List Int, y_ = (([wrap64 ((wrap64 (2 * x4_1)) + 1), wrap64 (2 * x4_1)] : List Int)) := ⟨_, rfl⟩
    replace H : (if x3_1.length + y184.length < 17592186044416 then (spec_ahFlat.l0 k1 a0 (x3_1 ++ y184) (wrap64 (x4_1 + 1))) else (none)) = some r := by first | (rw [hy184]; with_reducible exact H) | (have H2_ := (Option.bind_some _ _).symm.trans H; rw [hy184]; with_reducible exact H2_) | (have H2_ := (Option.bind_some _ _).symm.trans H; with_reducible exact H2_) | with_reducible exact H | (rw [hy184]; exact H) | exact H
    have Ny184 := am hy184
    clear hy184
    by_cases c3 : x3_1.length + y184.length < 17592186044416
    ·rw [if_pos c3] at H
     have LMc3 := am c3
     clear c3
     obtain ⟨y187, hy187⟩ : ∃ y_ : List Int, y_ = (x3_1 ++ y184) := ⟨_, rfl⟩
     replace H : (spec_ahFlat.l0 k1 a0 y187 (wrap64 (x4_1 + 1))) = some r := by first | (rw [hy187]; with_reducible exact H) | (have H2_ := (Option.bind_some _ _).symm.trans H; rw [hy187]; with_reducible exact H2_) | (have H2_ := (Option.bind_some _ _).symm.trans H; with_reducible exact H2_) | with_reducible exact H | (rw [hy187]; exact H) | exact H
     have Ny187 := am hy187
     clear hy187
     have H' := am H
     clear H
     go_wp2_with (first | ((with_reducible refine gate_dst (N := 16) rfl ?_); refine Kd.R_lit (Kd.int .i64) _ 3 ?hg (N := 16) ?hd (xs := ([wrap64 ((wrap64 (2 * x4_1)) + 1), wrap64 (2 * x4_1)] : List Int)) (inner := [.int .i64 (wrap64 ((wrap64 (2 * x4_1)) + 1)), .int .i64 (wrap64 (2 * x4_1))]) (ok := fun _ => True) (okp := fun _ => True) ?hr ?hp (fun _ hk => hk) trivial (Below.refl _ _) (Nat.le_refl _) (by simp) ?_; (case hd => rfl); (case hg => rfl); (case hr => first | (go_simp; done) | (go_simp; rfl)); (case hp => exact (Reps.one (show Kd.M (Kd.int .i64) _ _ _ (wrap64 ((wrap64 (2 * x4_1)) + 1)) [.int .i64 (wrap64 ((wrap64 (2 * x4_1)) + 1))] from rfl) (Reps.one (show Kd.M (Kd.int .i64) _ _ _ (wrap64 (2 * x4_1)) [.int .i64 (wrap64 (2 * x4_1))] from rfl) (Reps.none _ _)))); intro v185 w4 ho5 hb hg_ hnew_; clear hg_ hnew_; (first | rw [← Ny184.out] at ho5 | (simp only [Int.reduceToNat] at ho5; rw [← Ny184.out] at ho5)); have HO186 := am (Kd.R_lower (Kd.R_new' ho5 (Kd.R_lt (by (with_reducible repeat (first | apply rA | apply rN | apply rD)); exact HO_3.out))) (below_size (by repeat (with_reducible first | exact HB.out | apply bA | apply bN | apply bD)))); replace HO_3 := am (Kd.R_elder' (by (with_reducible repeat (first | apply rA | apply rN | apply rD)); exact HO_3.out) (Kd.R_base ho5) hb); replace HB := am (below_step (by repeat (with_reducible first | exact HB.out | apply bA | apply bN | apply bD)) hb); clear hb ho5; obtain ⟨Ao7, co7, eo7⟩ := Kd.R_slice HO186.out; subst eo7) | ((with_reducible refine gate_builtin (b := .append) (xs := #[.tmp 10, .tmp 16]) rfl ?_); at_builtin; refine Kd.R_append_rows (Kd.int .i64) (w0 := w) w.heap.size rfl (.tmp 10) (.tmp 16) 24 3 (.int .i64 0) 8 rfl Try.underlying24 info3 rfl (by decide) (by omega) u3 x3_1 y184 _ _ _ (fun k_ => some k_ ≠ (.slice Ao7 y184.length co7 : Value).ownBlock) (fun _ => False) rfl rfl ?aO ?aR (fun _ _ h => h) (fun _ h => h.elim) ?aF ?aB ?aS ?aL ?_; (case aR => repeat (first | exact (Kd.R_reads' HO186.out).2.2 | (with_reducible first | apply cA | apply cN | apply cD))); (case aB => exact (by repeat (with_reducible first | exact HB.out | apply bA | apply bN | apply bD))); (case aF => exact (fun k_ hk => Kd.fresh' (Kd.R_lt (by (with_reducible repeat (first | apply rA | apply rN | apply rD)); exact HO186.out)) k_ hk)); (case aO => exact (by (with_reducible repeat (first | apply rA | apply rN | apply rD)); exact Kd.R_mono HO_3.out (fun _ hk => hk.2))); (case aS => exact (below_size (by repeat (with_reducible first | exact HB.out | apply bA | apply bN | apply bD)))); (case aL => have := LMc3.out; omega); intro v188 w6 ho hb hg hat; rw [← Ny187.out] at ho; replace HO186 := am (Kd.R_after (ok := (fun _ => True)) (by (with_reducible repeat (first | apply rA | apply rN | apply rD)); exact HO186.out) hg hat); replace HB := am (hb); have HO189 := am (ho); clear HO_3; clear ho hb hg hat))
     go_roundg k1
     case measure => have := HK1.out; omega
     case rel => exact ⟨(y187), (wrap64 (x4_1 + 1)), (by first | rfl | (simp; done) | (simp [*]; done)), H', ⟨by have := HK1.out; omega⟩, ⟨by (with_reducible repeat (first | apply rA | apply rN | apply rD)); exact Kd.R_mono HO189.out (fun _ hk => trivial)⟩, ⟨by repeat (with_reducible first | exact HB.out | apply bA | apply bN | apply bD)⟩⟩
    ·rw [if_neg c3] at H
     exact absurd H (by simp)
   ·rw [if_neg c2] at H
    have c2b0 : decide (x4_1 < a0) = false := decide_eq_false c2
    clear c2
    obtain rfl := Option.some.inj H
    go_wp2
    go_ret
    exact ⟨_, by first | rfl | (simp [*, errW_none, errW_some] <;> rfl), by (with_reducible repeat (first | apply rA | apply rN | apply rD)); exact HO_3.out, by repeat (with_reducible first | exact HB.out | apply bA | apply bN | apply bD)⟩
def spec_l1Cur_system.f (k : Nat) (s0_0 : List Int) (s0_1 : Int) (s0_2 : Int) (a1 : Int) : Option (List Int × Int × Int) := (spec_l1Cur_pick.f s0_0 s0_1 s0_2 (wrap64 (a1 + 1))).bind fun bt190 => ((spec_l1Cur_sure.f k s0_0 bt190.2.1 bt190.2.2 bt190.1).bind fun bt193 => ((spec_l1Cur_pick.f s0_0 bt193.2.1 bt193.2.2 16).bind fun bt198 => (if bt198.1 = 0 then (if (bt193.1.length : Int) > 0 then ((spec_l1Cur_pick.f s0_0 bt198.2.1 bt198.2.2 (bt193.1.length : Int)).bind fun bt201 => ((spec_l1Cur_pick.f s0_0 bt201.2.1 bt201.2.2 (wrap64 ((bt193.1.length : Int) + 2))).bind fun bt204 => (if 0 ≤ bt201.1 then (if bt201.1 < (bt193.1.length : Int) then (some ((bt193.1.set (bt201.1 : Int).toNat (wrap64 (bt204.1 - 1))), bt204.2.1, bt204.2.2)) else (none)) else (none)))) else (some (bt193.1, bt198.2.1, bt198.2.2))) else (if bt198.1 = 1 then (if bt193.1.length < 17592186044416 then (some ((bt193.1 ++ [wrap64 ((bt193.1.length : Int) + 1)]), bt198.2.1, bt198.2.2)) else (none)) else (if bt198.1 = 2 then ((spec_l1Cur_pick.f s0_0 bt198.2.1 bt198.2.2 2).bind fun bt211 => ((spec_ahFlat.f k (wrap64 (6 + bt211.1))).bind fun t214 => (some (t214, bt211.2.1, bt211.2.2)))) else (if bt198.1 = 3 then ((spec_l1Cur_pick.f s0_0 bt198.2.1 bt198.2.2 7).bind fun bt217 => ((spec_ahRainbow.f k bt217.1).bind fun t220 => (some (t220, bt217.2.1, bt217.2.2)))) else (some (bt193.1, bt198.2.1, bt198.2.2))))))))
theorem spec_l1Cur_system.calls (k : Nat) (g : Nat) (s0_0 : List Int) (s0_1 : Int) (s0_2 : Int) (a1 : Int) (r1 : List Int) (r2 : Int) (r3 : Int) (w0 w : World) (hI : IsS64 w0 w g s0_0 s0_1 s0_2) (hB : Below w0.heap.size w0 w) (h : spec_l1Cur_system.f k s0_0 s0_1 s0_2 a1 = some (r1, r2, r3)) :
 Calls Try.prog 75 #[.pointer (some ⟨g, 0, none⟩), .int .i64 a1] w fun e w' => ∃ v0_ : Value, e = .returned (v0_) ∧ Kd.R (Kd.int .i64) 3 w' w.heap.size (fun _ => True) v0_ r1 ∧ IsS64 w0 w' g s0_0 r2 r3 ∧ Below w0.heap.size w0 w' ∧ KeepBut w w' g none := by
 have HI0 := am hI
 have HK := am (KeepBut.refl w g none)
 have HL := am hB.size
 clear hI
 have HW0 := am hB.size
 have HB := am hB
 clear hB
 have H : ((spec_l1Cur_pick.f s0_0 s0_1 s0_2 (wrap64 (a1 + 1))).bind fun bt190 => ((spec_l1Cur_sure.f k s0_0 bt190.2.1 bt190.2.2 bt190.1).bind fun bt193 => ((spec_l1Cur_pick.f s0_0 bt193.2.1 bt193.2.2 16).bind fun bt198 => (if bt198.1 = 0 then (if (bt193.1.length : Int) > 0 then ((spec_l1Cur_pick.f s0_0 bt198.2.1 bt198.2.2 (bt193.1.length : Int)).bind fun bt201 => ((spec_l1Cur_pick.f s0_0 bt201.2.1 bt201.2.2 (wrap64 ((bt193.1.length : Int) + 2))).bind fun bt204 => (if 0 ≤ bt201.1 then (if bt201.1 < (bt193.1.length : Int) then (some ((bt193.1.set (bt201.1 : Int).toNat (wrap64 (bt204.1 - 1))), bt204.2.1, bt204.2.2)) else (none)) else (none)))) else (some (bt193.1, bt198.2.1, bt198.2.2))) else (if bt198.1 = 1 then (if bt193.1.length < 17592186044416 then (some ((bt193.1 ++ [wrap64 ((bt193.1.length : Int) + 1)]), bt198.2.1, bt198.2.2)) else (none)) else (if bt198.1 = 2 then ((spec_l1Cur_pick.f s0_0 bt198.2.1 bt198.2.2 2).bind fun bt211 => ((spec_ahFlat.f k (wrap64 (6 + bt211.1))).bind fun t214 => (some (t214, bt211.2.1, bt211.2.2)))) else (if bt198.1 = 3 then ((spec_l1Cur_pick.f s0_0 bt198.2.1 bt198.2.2 7).bind fun bt217 => ((spec_ahRainbow.f k bt217.1).bind fun t220 => (some (t220, bt217.2.1, bt217.2.2)))) else (some (bt193.1, bt198.2.1, bt198.2.2))))))))) = some (r1, r2, r3) := h
 clear h
 replace H := Option.bind_eq_some_iff.mp H
 obtain ⟨⟨t190, t191, t192⟩, A30, H⟩ := H
 replace H : ((spec_l1Cur_sure.f k s0_0 t191 t192 t190).bind fun bt193 => ((spec_l1Cur_pick.f s0_0 bt193.2.1 bt193.2.2 16).bind fun bt198 => (if bt198.1 = 0 then (if (bt193.1.length : Int) > 0 then ((spec_l1Cur_pick.f s0_0 bt198.2.1 bt198.2.2 (bt193.1.length : Int)).bind fun bt201 => ((spec_l1Cur_pick.f s0_0 bt201.2.1 bt201.2.2 (wrap64 ((bt193.1.length : Int) + 2))).bind fun bt204 => (if 0 ≤ bt201.1 then (if bt201.1 < (bt193.1.length : Int) then (some ((bt193.1.set (bt201.1 : Int).toNat (wrap64 (bt204.1 - 1))), bt204.2.1, bt204.2.2)) else (none)) else (none)))) else (some (bt193.1, bt198.2.1, bt198.2.2))) else (if bt198.1 = 1 then (if bt193.1.length < 17592186044416 then (some ((bt193.1 ++ [wrap64 ((bt193.1.length : Int) + 1)]), bt198.2.1, bt198.2.2)) else (none)) else (if bt198.1 = 2 then ((spec_l1Cur_pick.f s0_0 bt198.2.1 bt198.2.2 2).bind fun bt211 => ((spec_ahFlat.f k (wrap64 (6 + bt211.1))).bind fun t214 => (some (t214, bt211.2.1, bt211.2.2)))) else (if bt198.1 = 3 then ((spec_l1Cur_pick.f s0_0 bt198.2.1 bt198.2.2 7).bind fun bt217 => ((spec_ahRainbow.f k bt217.1).bind fun t220 => (some (t220, bt217.2.1, bt217.2.2)))) else (some (bt193.1, bt198.2.1, bt198.2.2)))))))) = some (r1, r2, r3) := H
 have A3 := am A30
 clear A30
 replace H := Option.bind_eq_some_iff.mp H
 obtain ⟨⟨t193, t196, t197⟩, A40, H⟩ := H
 replace H : ((spec_l1Cur_pick.f s0_0 t196 t197 16).bind fun bt198 => (if bt198.1 = 0 then (if (t193.length : Int) > 0 then ((spec_l1Cur_pick.f s0_0 bt198.2.1 bt198.2.2 (t193.length : Int)).bind fun bt201 => ((spec_l1Cur_pick.f s0_0 bt201.2.1 bt201.2.2 (wrap64 ((t193.length : Int) + 2))).bind fun bt204 => (if 0 ≤ bt201.1 then (if bt201.1 < (t193.length : Int) then (some ((t193.set (bt201.1 : Int).toNat (wrap64 (bt204.1 - 1))), bt204.2.1, bt204.2.2)) else (none)) else (none)))) else (some (t193, bt198.2.1, bt198.2.2))) else (if bt198.1 = 1 then (if t193.length < 17592186044416 then (some ((t193 ++ [wrap64 ((t193.length : Int) + 1)]), bt198.2.1, bt198.2.2)) else (none)) else (if bt198.1 = 2 then ((spec_l1Cur_pick.f s0_0 bt198.2.1 bt198.2.2 2).bind fun bt211 => ((spec_ahFlat.f k (wrap64 (6 + bt211.1))).bind fun t214 => (some (t214, bt211.2.1, bt211.2.2)))) else (if bt198.1 = 3 then ((spec_l1Cur_pick.f s0_0 bt198.2.1 bt198.2.2 7).bind fun bt217 => ((spec_ahRainbow.f k bt217.1).bind fun t220 => (some (t220, bt217.2.1, bt217.2.2)))) else (some (t193, bt198.2.1, bt198.2.2))))))) = some (r1, r2, r3) := H
 have A4 := am A40
 clear A40
 replace H := Option.bind_eq_some_iff.mp H
 obtain ⟨⟨t198, t199, t200⟩, A50, H⟩ := H
 replace H : (if t198 = 0 then (if (t193.length : Int) > 0 then ((spec_l1Cur_pick.f s0_0 t199 t200 (t193.length : Int)).bind fun bt201 => ((spec_l1Cur_pick.f s0_0 bt201.2.1 bt201.2.2 (wrap64 ((t193.length : Int) + 2))).bind fun bt204 => (if 0 ≤ bt201.1 then (if bt201.1 < (t193.length : Int) then (some ((t193.set (bt201.1 : Int).toNat (wrap64 (bt204.1 - 1))), bt204.2.1, bt204.2.2)) else (none)) else (none)))) else (some (t193, t199, t200))) else (if t198 = 1 then (if t193.length < 17592186044416 then (some ((t193 ++ [wrap64 ((t193.length : Int) + 1)]), t199, t200)) else (none)) else (if t198 = 2 then ((spec_l1Cur_pick.f s0_0 t199 t200 2).bind fun bt211 => ((spec_ahFlat.f k (wrap64 (6 + bt211.1))).bind fun t214 => (some (t214, bt211.2.1, bt211.2.2)))) else (if t198 = 3 then ((spec_l1Cur_pick.f s0_0 t199 t200 7).bind fun bt217 => ((spec_ahRainbow.f k bt217.1).bind fun t220 => (some (t220, bt217.2.1, bt217.2.2)))) else (some (t193, t199, t200)))))) = some (r1, r2, r3) := H
 have A5 := am A50
 clear A50
 by_cases c6 : t198 = 0
 ·rw [if_pos c6] at H
  have c6b0 : (t198 == 0) = true := beq_iff_eq.mpr c6
  have c6b1 : (t198 != 0) = false := bne_eq_false_iff_eq.mpr c6
  clear c6
  by_cases c7 : (t193.length : Int) > 0
  ·rw [if_pos c7] at H
   have c7b0 : decide (0 < (t193.length : Int)) = true := decide_eq_true c7
   have c7b1 : decide (0 < t193.length) = true := decide_eq_true (by omega)
   clear c7
   replace H := Option.bind_eq_some_iff.mp H
   obtain ⟨⟨t201, t202, t203⟩, A80, H⟩ := H
   replace H : ((spec_l1Cur_pick.f s0_0 t202 t203 (wrap64 ((t193.length : Int) + 2))).bind fun bt204 => (if 0 ≤ t201 then (if t201 < (t193.length : Int) then (some ((t193.set (t201 : Int).toNat (wrap64 (bt204.1 - 1))), bt204.2.1, bt204.2.2)) else (none)) else (none))) = some (r1, r2, r3) := H
   have A8 := am A80
   clear A80
   replace H := Option.bind_eq_some_iff.mp H
   obtain ⟨⟨t204, t205, t206⟩, A90, H⟩ := H
   replace H : (if 0 ≤ t201 then (if t201 < (t193.length : Int) then (some ((t193.set (t201 : Int).toNat (wrap64 (t204 - 1))), t205, t206)) else (none)) else (none)) = some (r1, r2, r3) := H
   have A9 := am A90
   clear A90
   by_cases c10 : 0 ≤ t201
   ·rw [if_pos c10] at H
    have c10b0 : decide (0 ≤ t201) = true := decide_eq_true c10
    clear c10
    by_cases c11 : t201 < (t193.length : Int)
    ·rw [if_pos c11] at H
     have c11b0 : decide (t201 < (t193.length : Int)) = true := decide_eq_true c11
     clear c11
     obtain ⟨y207, hy207⟩ : ∃ y_ : List Int, y_ = (t193.set (t201 : Int).toNat (wrap64 (t204 - 1))) := ⟨_, rfl⟩
     replace H : (some (y207, t205, t206)) = some (r1, r2, r3) := by first | (rw [hy207]; with_reducible exact H) | (have H2_ := (Option.bind_some _ _).symm.trans H; rw [hy207]; with_reducible exact H2_) | (have H2_ := (Option.bind_some _ _).symm.trans H; with_reducible exact H2_) | with_reducible exact H | (rw [hy207]; exact H) | exact H
     have Ny207 := am hy207
     clear hy207
     simp only [Option.some.injEq, Prod.mk.injEq] at H
     obtain ⟨rfl, rfl, rfl⟩ := H
     go_enter Try.func75, Try.ntmps75
     go_wp2_with (first | ((with_reducible refine gate_callee (f := 46) rfl ?_); refine goesL_ (some 10) rfl rfl Try.func46 (by kernel_rfl) rfl #[.pointer (some ⟨g, 0, none⟩), .int .i64 (wrap64 (a1 + 1))] rfl (by (try simp only [mT, mC, mZ]); first | done | rfl) ?_; (with_reducible refine (spec_l1Cur_pick.calls g s0_0 s0_1 s0_2 (wrap64 (a1 + 1)) t190 t191 t192 w0 _ ?side1 ?side2 A3.out).mono ?_); (case side1 => repeat (first | exact HI0.out | apply iA | apply iN | apply iD | apply i1 | apply i2)); (case side2 => repeat (with_reducible first | exact HB.out | apply bA | apply bN | apply bD | refine bS ?_ (iG HI0.out))); rintro e w13 ⟨rfl, hi, hb, hk⟩; refine ⟨_, rfl, ?_⟩; replace HK := am (KeepBut.trans (by repeat (first | exact HK.out | apply kS | apply kN | apply kD | apply kA)) hk (.inl rfl)); replace HB := am (hb); replace HI0 := am (hi); (try clear hb2); (try clear hb hk hi)) | ((with_reducible refine gate_callee (f := 67) rfl ?_); refine goesL_ (some 11) rfl rfl Try.func67 (by kernel_rfl) rfl #[.pointer (some ⟨g, 0, none⟩), .int .i64 t190] rfl (by (try simp only [mT, mC, mZ]); first | done | rfl) ?_; (with_reducible refine (spec_l1Cur_sure.calls k g s0_0 t191 t192 t190 t193 t196 t197 w0 _ ?side1 ?side2 A4.out).mono ?_); (case side1 => repeat (first | exact HI0.out | apply iA | apply iN | apply iD | apply i1 | apply i2)); (case side2 => repeat (with_reducible first | exact HB.out | apply bA | apply bN | apply bD | refine bS ?_ (iG HI0.out))); rintro e w14 ⟨v194, rfl, ho0, hi, hb, hk⟩; refine ⟨_, rfl, ?_⟩; have HO195 := am (Kd.R_lower ho0 (keep_size (w := w) (g := g) (row := none) (by repeat (first | exact HK.out | apply kS | apply kN | apply kD | apply kA)))); replace HK := am (KeepBut.trans (by repeat (first | exact HK.out | apply kS | apply kN | apply kD | apply kA)) hk (.inl rfl)); replace HB := am (hb); replace HI0 := am (hi); (try clear hb2); (try clear hb hk hi); (try clear ho0)) | ((with_reducible refine gate_callee (f := 46) rfl ?_); refine goesL_ (some 13) rfl rfl Try.func46 (by kernel_rfl) rfl #[.pointer (some ⟨g, 0, none⟩), .int .i64 16] rfl (by (try simp only [mT, mC, mZ]); first | done | rfl) ?_; (with_reducible refine (spec_l1Cur_pick.calls g s0_0 t196 t197 16 t198 t199 t200 w0 _ ?side1 ?side2 A5.out).mono ?_); (case side1 => repeat (first | exact HI0.out | apply iA | apply iN | apply iD | apply i1 | apply i2)); (case side2 => repeat (with_reducible first | exact HB.out | apply bA | apply bN | apply bD | refine bS ?_ (iG HI0.out))); rintro e w15 ⟨rfl, hi, hb, hk⟩; refine ⟨_, rfl, ?_⟩; replace HO195 := am (Kd.R_mono (Kd.R_keep (IsS64.apart (show IsS64 w0 _ g s0_0 t196 t197 from by repeat (first | exact HI0.out | apply iA | apply iN | apply iD | apply i1 | apply i2)) (by (with_reducible repeat (first | apply rA | apply rN | apply rD)); exact HO195.out) (by decide)) hk (fun _ h => h.2)) (fun _ h => h.1)); replace HK := am (KeepBut.trans (by repeat (first | exact HK.out | apply kS | apply kN | apply kD | apply kA)) hk (.inl rfl)); replace HB := am (hb); replace HI0 := am (hi); (try clear hb2); (try clear hb hk hi); obtain ⟨Ao16, co16, eo16⟩ := Kd.R_slice HO195.out; subst eo16) | ((with_reducible refine gate_callee (f := 46) rfl ?_); refine goesL_ (some 23) rfl rfl Try.func46 (by kernel_rfl) rfl #[.pointer (some ⟨g, 0, none⟩), .int .i64 (t193.length : Int)] rfl (by (try simp only [mT, mC, mZ]); first | done | rfl) ?_; (with_reducible refine (spec_l1Cur_pick.calls g s0_0 t199 t200 (t193.length : Int) t201 t202 t203 w0 _ ?side1 ?side2 A8.out).mono ?_); (case side1 => repeat (first | exact HI0.out | apply iA | apply iN | apply iD | apply i1 | apply i2)); (case side2 => repeat (with_reducible first | exact HB.out | apply bA | apply bN | apply bD | refine bS ?_ (iG HI0.out))); rintro e w17 ⟨rfl, hi, hb, hk⟩; refine ⟨_, rfl, ?_⟩; replace HO195 := am (Kd.R_mono (Kd.R_keep (IsS64.apart (show IsS64 w0 _ g s0_0 t199 t200 from by repeat (first | exact HI0.out | apply iA | apply iN | apply iD | apply i1 | apply i2)) (by (with_reducible repeat (first | apply rA | apply rN | apply rD)); exact HO195.out) (by decide)) hk (fun _ h => h.2)) (fun _ h => h.1)); replace HK := am (KeepBut.trans (by repeat (first | exact HK.out | apply kS | apply kN | apply kD | apply kA)) hk (.inl rfl)); replace HB := am (hb); replace HI0 := am (hi); (try clear hb2); (try clear hb hk hi)) | ((with_reducible refine gate_callee (f := 46) rfl ?_); refine goesL_ (some 28) rfl rfl Try.func46 (by kernel_rfl) rfl #[.pointer (some ⟨g, 0, none⟩), .int .i64 (wrap64 ((t193.length : Int) + 2))] rfl (by (try simp only [mT, mC, mZ]); first | done | rfl) ?_; (with_reducible refine (spec_l1Cur_pick.calls g s0_0 t202 t203 (wrap64 ((t193.length : Int) + 2)) t204 t205 t206 w0 _ ?side1 ?side2 A9.out).mono ?_); (case side1 => repeat (first | exact HI0.out | apply iA | apply iN | apply iD | apply i1 | apply i2)); (case side2 => repeat (with_reducible first | exact HB.out | apply bA | apply bN | apply bD | refine bS ?_ (iG HI0.out))); rintro e w18 ⟨rfl, hi, hb, hk⟩; refine ⟨_, rfl, ?_⟩; replace HO195 := am (Kd.R_mono (Kd.R_keep (IsS64.apart (show IsS64 w0 _ g s0_0 t202 t203 from by repeat (first | exact HI0.out | apply iA | apply iN | apply iD | apply i1 | apply i2)) (by (with_reducible repeat (first | apply rA | apply rN | apply rD)); exact HO195.out) (by decide)) hk (fun _ h => h.2)) (fun _ h => h.1)); replace HK := am (KeepBut.trans (by repeat (first | exact HK.out | apply kS | apply kN | apply kD | apply kA)) hk (.inl rfl)); replace HB := am (hb); replace HI0 := am (hi); (try clear hb2); (try clear hb hk hi); have p12 : 0 ≤ (t201 : Int) := ofd (by assumption); have q12 : (t201 : Int) < ((t193.length : Int) : Int) := ofd (by assumption); obtain ⟨go12, co12, eo12, gb12, gl12, cl12, HG12⟩ := Kd.R_form HO195.out (by omega); (first | cases eo12 | (injection eo12 with ea_ en_ ec_; (first | subst ea_ | (injection ea_ with ea_; subst ea_)); subst ec_; clear en_)); have GB12 := am gb12; have GG12 := am HG12; clear gb12 gl12 HG12; obtain ⟨hx12_0, hf12_0⟩ := Kd.R_celln 0 HO195.out (t201 : Int) p12 q12; replace p12 := eq_true p12; replace q12 := eq_true q12; obtain ⟨hy19_, hz19_⟩ := Kd.R_celln 0 HO195.out (t201 : Int) (ofd (by assumption)) (ofd (by assumption)); have HP19 := Kd.R_putg HO195.out (t201 : Int) (wrap64 (t204 - 1))) | ((with_reducible refine gate_store (t := 3) (p := 30) rfl ?_); refine store_event (t := 3) (p := 30) (v := ?vo_w20) (w1 := (w18.setCell ⟨go12, (t201 : Int).toNat, none⟩ (.int .i64 (wrap64 (t204 - 1))))) ?hg ?ho ?hn ?hr ?_; (case ho => rfl); (case hg => rfl); (case hn => rfl); (case hr => first | (go_simp; done) | (go_simp; rfl)); intro w20 hw; have hg : w18.grownBy w20 (some go12) := (by rw [hw]; exact HP19.2); have hp_ : Kd.R (Kd.int .i64) 3 w20 w.heap.size (fun _ => True) (.slice (some ⟨go12, 0, none⟩) t193.length co16) y207 := (by rw [hw, Ny207.out]; exact HP19.1); clear HP19; replace HI0 := am (IsS64.grown (by repeat (first | exact HI0.out | apply iA | apply iN | apply iD | apply i1 | apply i2)) hg (IsS64.own_ne HI0.out HO195.out (by decide))); replace HB := am ((by rw [hw]; exact bS (HB.out) (Nat.le_trans HL.out GB12.out) : Below w0.heap.size w0 w20)); replace HK := am (KeepBut.trans (by repeat (first | exact HK.out | apply kS | apply kN | apply kD | apply kA)) (KeepBut.of_grown hg g) (Kd.R_base2 HO195.out)); replace HO195 := am (hp_); clear hg hw hp_))
     go_ret
     exact ⟨_, by first | rfl | (simp [*, errW_none, errW_some] <;> rfl), by (with_reducible repeat (first | apply rA | apply rN | apply rD)); exact HO195.out, by repeat (first | exact HI0.out | apply iA | apply iN | apply iD | apply i1 | apply i2), by repeat (with_reducible first | exact HB.out | apply bA | apply bN | apply bD | refine bS ?_ (iG HI0.out)), by repeat (first | exact HK.out | apply kS | apply kN | apply kD | apply kA)⟩
    ·rw [if_neg c11] at H
     exact absurd H (by simp)
   ·rw [if_neg c10] at H
    exact absurd H (by simp)
  ·rw [if_neg c7] at H
   have c7b0 : decide (0 < (t193.length : Int)) = false := decide_eq_false c7
   have c7b1 : decide (0 < t193.length) = false := decide_eq_false (by omega)
   clear c7
   simp only [Option.some.injEq, Prod.mk.injEq] at H
   obtain ⟨rfl, rfl, rfl⟩ := H
   go_enter Try.func75, Try.ntmps75
   go_wp2_with (first | ((with_reducible refine gate_callee (f := 46) rfl ?_); refine goesL_ (some 10) rfl rfl Try.func46 (by kernel_rfl) rfl #[.pointer (some ⟨g, 0, none⟩), .int .i64 (wrap64 (a1 + 1))] rfl (by (try simp only [mT, mC, mZ]); first | done | rfl) ?_; (with_reducible refine (spec_l1Cur_pick.calls g s0_0 s0_1 s0_2 (wrap64 (a1 + 1)) t190 t191 t192 w0 _ ?side1 ?side2 A3.out).mono ?_); (case side1 => repeat (first | exact HI0.out | apply iA | apply iN | apply iD | apply i1 | apply i2)); (case side2 => repeat (with_reducible first | exact HB.out | apply bA | apply bN | apply bD | refine bS ?_ (iG HI0.out))); rintro e w21 ⟨rfl, hi, hb, hk⟩; refine ⟨_, rfl, ?_⟩; replace HK := am (KeepBut.trans (by repeat (first | exact HK.out | apply kS | apply kN | apply kD | apply kA)) hk (.inl rfl)); replace HB := am (hb); replace HI0 := am (hi); (try clear hb2); (try clear hb hk hi)) | ((with_reducible refine gate_callee (f := 67) rfl ?_); refine goesL_ (some 11) rfl rfl Try.func67 (by kernel_rfl) rfl #[.pointer (some ⟨g, 0, none⟩), .int .i64 t190] rfl (by (try simp only [mT, mC, mZ]); first | done | rfl) ?_; (with_reducible refine (spec_l1Cur_sure.calls k g s0_0 t191 t192 t190 t193 t196 t197 w0 _ ?side1 ?side2 A4.out).mono ?_); (case side1 => repeat (first | exact HI0.out | apply iA | apply iN | apply iD | apply i1 | apply i2)); (case side2 => repeat (with_reducible first | exact HB.out | apply bA | apply bN | apply bD | refine bS ?_ (iG HI0.out))); rintro e w22 ⟨v194, rfl, ho0, hi, hb, hk⟩; refine ⟨_, rfl, ?_⟩; have HO195 := am (Kd.R_lower ho0 (keep_size (w := w) (g := g) (row := none) (by repeat (first | exact HK.out | apply kS | apply kN | apply kD | apply kA)))); replace HK := am (KeepBut.trans (by repeat (first | exact HK.out | apply kS | apply kN | apply kD | apply kA)) hk (.inl rfl)); replace HB := am (hb); replace HI0 := am (hi); (try clear hb2); (try clear hb hk hi); (try clear ho0)) | ((with_reducible refine gate_callee (f := 46) rfl ?_); refine goesL_ (some 13) rfl rfl Try.func46 (by kernel_rfl) rfl #[.pointer (some ⟨g, 0, none⟩), .int .i64 16] rfl (by (try simp only [mT, mC, mZ]); first | done | rfl) ?_; (with_reducible refine (spec_l1Cur_pick.calls g s0_0 t196 t197 16 t198 t199 t200 w0 _ ?side1 ?side2 A5.out).mono ?_); (case side1 => repeat (first | exact HI0.out | apply iA | apply iN | apply iD | apply i1 | apply i2)); (case side2 => repeat (with_reducible first | exact HB.out | apply bA | apply bN | apply bD | refine bS ?_ (iG HI0.out))); rintro e w23 ⟨rfl, hi, hb, hk⟩; refine ⟨_, rfl, ?_⟩; replace HO195 := am (Kd.R_mono (Kd.R_keep (IsS64.apart (show IsS64 w0 _ g s0_0 t196 t197 from by repeat (first | exact HI0.out | apply iA | apply iN | apply iD | apply i1 | apply i2)) (by (with_reducible repeat (first | apply rA | apply rN | apply rD)); exact HO195.out) (by decide)) hk (fun _ h => h.2)) (fun _ h => h.1)); replace HK := am (KeepBut.trans (by repeat (first | exact HK.out | apply kS | apply kN | apply kD | apply kA)) hk (.inl rfl)); replace HB := am (hb); replace HI0 := am (hi); (try clear hb2); (try clear hb hk hi); obtain ⟨Ao24, co24, eo24⟩ := Kd.R_slice HO195.out; subst eo24))
   go_ret
   exact ⟨_, by first | rfl | (simp [*, errW_none, errW_some] <;> rfl), by (with_reducible repeat (first | apply rA | apply rN | apply rD)); exact HO195.out, by repeat (first | exact HI0.out | apply iA | apply iN | apply iD | apply i1 | apply i2), by repeat (with_reducible first | exact HB.out | apply bA | apply bN | apply bD | refine bS ?_ (iG HI0.out)), by repeat (first | exact HK.out | apply kS | apply kN | apply kD | apply kA)⟩
 ·rw [if_neg c6] at H
  have c6b0 : (t198 == 0) = false := beq_eq_false_iff_ne.mpr c6
  have c6b1 : (t198 != 0) = true := bne_iff_ne.mpr c6
  by_cases c25 : t198 = 1
  ·rw [if_pos c25] at H
   have c25b0 : (t198 == 1) = true := beq_iff_eq.mpr c25
   have c25b1 : (t198 != 1) = false := bne_eq_false_iff_eq.mpr c25
   clear c25
   by_cases c26 : t193.length < 17592186044416
   ·rw [if_pos c26] at H
    have LMc26 := am c26
    clear c26
    obtain ⟨y208, hy208⟩ : ∃ y_ : List Int, y_ = (t193 ++ [wrap64 ((t193.length : Int) + 1)]) := ⟨_, rfl⟩
    replace H : (some (y208, t199, t200)) = some (r1, r2, r3) := by first | (rw [hy208]; with_reducible exact H) | (have H2_ := (Option.bind_some _ _).symm.trans H; rw [hy208]; with_reducible exact H2_) | (have H2_ := (Option.bind_some _ _).symm.trans H; with_reducible exact H2_) | with_reducible exact H | (rw [hy208]; exact H) | exact H
    have Ny208 := am hy208
    clear hy208
    simp only [Option.some.injEq, Prod.mk.injEq] at H
    obtain ⟨rfl, rfl, rfl⟩ := H
    go_enter Try.func75, Try.ntmps75
    go_wp2_with (first | ((with_reducible refine gate_callee (f := 46) rfl ?_); refine goesL_ (some 10) rfl rfl Try.func46 (by kernel_rfl) rfl #[.pointer (some ⟨g, 0, none⟩), .int .i64 (wrap64 (a1 + 1))] rfl (by (try simp only [mT, mC, mZ]); first | done | rfl) ?_; (with_reducible refine (spec_l1Cur_pick.calls g s0_0 s0_1 s0_2 (wrap64 (a1 + 1)) t190 t191 t192 w0 _ ?side1 ?side2 A3.out).mono ?_); (case side1 => repeat (first | exact HI0.out | apply iA | apply iN | apply iD | apply i1 | apply i2)); (case side2 => repeat (with_reducible first | exact HB.out | apply bA | apply bN | apply bD | refine bS ?_ (iG HI0.out))); rintro e w27 ⟨rfl, hi, hb, hk⟩; refine ⟨_, rfl, ?_⟩; replace HK := am (KeepBut.trans (by repeat (first | exact HK.out | apply kS | apply kN | apply kD | apply kA)) hk (.inl rfl)); replace HB := am (hb); replace HI0 := am (hi); (try clear hb2); (try clear hb hk hi)) | ((with_reducible refine gate_callee (f := 67) rfl ?_); refine goesL_ (some 11) rfl rfl Try.func67 (by kernel_rfl) rfl #[.pointer (some ⟨g, 0, none⟩), .int .i64 t190] rfl (by (try simp only [mT, mC, mZ]); first | done | rfl) ?_; (with_reducible refine (spec_l1Cur_sure.calls k g s0_0 t191 t192 t190 t193 t196 t197 w0 _ ?side1 ?side2 A4.out).mono ?_); (case side1 => repeat (first | exact HI0.out | apply iA | apply iN | apply iD | apply i1 | apply i2)); (case side2 => repeat (with_reducible first | exact HB.out | apply bA | apply bN | apply bD | refine bS ?_ (iG HI0.out))); rintro e w28 ⟨v194, rfl, ho0, hi, hb, hk⟩; refine ⟨_, rfl, ?_⟩; have HO195 := am (Kd.R_lower ho0 (keep_size (w := w) (g := g) (row := none) (by repeat (first | exact HK.out | apply kS | apply kN | apply kD | apply kA)))); replace HK := am (KeepBut.trans (by repeat (first | exact HK.out | apply kS | apply kN | apply kD | apply kA)) hk (.inl rfl)); replace HB := am (hb); replace HI0 := am (hi); (try clear hb2); (try clear hb hk hi); (try clear ho0)) | ((with_reducible refine gate_callee (f := 46) rfl ?_); refine goesL_ (some 13) rfl rfl Try.func46 (by kernel_rfl) rfl #[.pointer (some ⟨g, 0, none⟩), .int .i64 16] rfl (by (try simp only [mT, mC, mZ]); first | done | rfl) ?_; (with_reducible refine (spec_l1Cur_pick.calls g s0_0 t196 t197 16 t198 t199 t200 w0 _ ?side1 ?side2 A5.out).mono ?_); (case side1 => repeat (first | exact HI0.out | apply iA | apply iN | apply iD | apply i1 | apply i2)); (case side2 => repeat (with_reducible first | exact HB.out | apply bA | apply bN | apply bD | refine bS ?_ (iG HI0.out))); rintro e w29 ⟨rfl, hi, hb, hk⟩; refine ⟨_, rfl, ?_⟩; replace HO195 := am (Kd.R_mono (Kd.R_keep (IsS64.apart (show IsS64 w0 _ g s0_0 t196 t197 from by repeat (first | exact HI0.out | apply iA | apply iN | apply iD | apply i1 | apply i2)) (by (with_reducible repeat (first | apply rA | apply rN | apply rD)); exact HO195.out) (by decide)) hk (fun _ h => h.2)) (fun _ h => h.1)); replace HK := am (KeepBut.trans (by repeat (first | exact HK.out | apply kS | apply kN | apply kD | apply kA)) hk (.inl rfl)); replace HB := am (hb); replace HI0 := am (hi); (try clear hb2); (try clear hb hk hi); obtain ⟨Ao30, co30, eo30⟩ := Kd.R_slice HO195.out; subst eo30) | ((with_reducible refine gate_builtin (b := .append) (xs := #[.tmp 33, .tmp 37]) rfl ?_); at_builtin; refine Kd.R_append (Kd.int .i64) w.heap.size rfl (.tmp 33) (.tmp 37) 24 3 (.int .i64 0) 8 rfl Try.underlying24 info3 rfl (by decide) (by omega) (.slice Ao30 t193.length co30) t193 (wrap64 ((t193.length : Int) + 1)) [.int .i64 (wrap64 ((t193.length : Int) + 1))] (fun _ => True) (fun _ => False) rfl rfl ?aP (fun _ hk => hk.elim) ?aF ?aO (Below.refl _ _) ?aS ?aL ?_; (case aP => exact rfl); (case aF => exact (fun _ _ => trivial)); (case aO => exact (by (with_reducible repeat (first | apply rA | apply rN | apply rD)); exact HO195.out)); (case aS => exact (keep_size (w := w) (g := g) (row := none) (by repeat (first | exact HK.out | apply kS | apply kN | apply kD | apply kA)))); (case aL => have := LMc26.out; omega); intro v209 w31 ho hb hg hat; rw [← Ny208.out] at ho; replace HB := am (below_weaken (by repeat (with_reducible first | exact HB.out | apply bA | apply bN | apply bD | refine bS ?_ (iG HI0.out))) HL.out hb); replace HI0 := am (IsS64.grown (by repeat (first | exact HI0.out | apply iA | apply iN | apply iD | apply i1 | apply i2)) hg (IsS64.own_ne HI0.out HO195.out (by decide))); replace HK := am (KeepBut.trans (by repeat (first | exact HK.out | apply kS | apply kN | apply kD | apply kA)) (KeepBut.of_grown hg g) (Kd.R_base2 HO195.out)); have HO210 := am (ho); clear HO195; clear ho hb hg hat))
    go_ret
    exact ⟨_, by first | rfl | (simp [*, errW_none, errW_some] <;> rfl), by (with_reducible repeat (first | apply rA | apply rN | apply rD)); exact HO210.out, by repeat (first | exact HI0.out | apply iA | apply iN | apply iD | apply i1 | apply i2), by repeat (with_reducible first | exact HB.out | apply bA | apply bN | apply bD | refine bS ?_ (iG HI0.out)), by repeat (first | exact HK.out | apply kS | apply kN | apply kD | apply kA)⟩
   ·rw [if_neg c26] at H
    exact absurd H (by simp)
  ·rw [if_neg c25] at H
   have c25b0 : (t198 == 1) = false := beq_eq_false_iff_ne.mpr c25
   have c25b1 : (t198 != 1) = true := bne_iff_ne.mpr c25
   by_cases c32 : t198 = 2
   ·rw [if_pos c32] at H
    have c32b0 : (t198 == 2) = true := beq_iff_eq.mpr c32
    have c32b1 : (t198 != 2) = false := bne_eq_false_iff_eq.mpr c32
    clear c32
    replace H := Option.bind_eq_some_iff.mp H
    obtain ⟨⟨t211, t212, t213⟩, A330, H⟩ := H
    replace H : ((spec_ahFlat.f k (wrap64 (6 + t211))).bind fun t214 => (some (t214, t212, t213))) = some (r1, r2, r3) := H
    have A33 := am A330
    clear A330
    replace H := Option.bind_eq_some_iff.mp H
    obtain ⟨t214, A340, H⟩ := H
    replace H : (some (t214, t212, t213)) = some (r1, r2, r3) := H
    have A34 := am A340
    clear A340
    simp only [Option.some.injEq, Prod.mk.injEq] at H
    obtain ⟨rfl, rfl, rfl⟩ := H
    go_enter Try.func75, Try.ntmps75
    go_wp2_with (first | ((with_reducible refine gate_callee (f := 46) rfl ?_); refine goesL_ (some 10) rfl rfl Try.func46 (by kernel_rfl) rfl #[.pointer (some ⟨g, 0, none⟩), .int .i64 (wrap64 (a1 + 1))] rfl (by (try simp only [mT, mC, mZ]); first | done | rfl) ?_; (with_reducible refine (spec_l1Cur_pick.calls g s0_0 s0_1 s0_2 (wrap64 (a1 + 1)) t190 t191 t192 w0 _ ?side1 ?side2 A3.out).mono ?_); (case side1 => repeat (first | exact HI0.out | apply iA | apply iN | apply iD | apply i1 | apply i2)); (case side2 => repeat (with_reducible first | exact HB.out | apply bA | apply bN | apply bD | refine bS ?_ (iG HI0.out))); rintro e w35 ⟨rfl, hi, hb, hk⟩; refine ⟨_, rfl, ?_⟩; replace HK := am (KeepBut.trans (by repeat (first | exact HK.out | apply kS | apply kN | apply kD | apply kA)) hk (.inl rfl)); replace HB := am (hb); replace HI0 := am (hi); (try clear hb2); (try clear hb hk hi)) | ((with_reducible refine gate_callee (f := 67) rfl ?_); refine goesL_ (some 11) rfl rfl Try.func67 (by kernel_rfl) rfl #[.pointer (some ⟨g, 0, none⟩), .int .i64 t190] rfl (by (try simp only [mT, mC, mZ]); first | done | rfl) ?_; (with_reducible refine (spec_l1Cur_sure.calls k g s0_0 t191 t192 t190 t193 t196 t197 w0 _ ?side1 ?side2 A4.out).mono ?_); (case side1 => repeat (first | exact HI0.out | apply iA | apply iN | apply iD | apply i1 | apply i2)); (case side2 => repeat (with_reducible first | exact HB.out | apply bA | apply bN | apply bD | refine bS ?_ (iG HI0.out))); rintro e w36 ⟨v194, rfl, ho0, hi, hb, hk⟩; refine ⟨_, rfl, ?_⟩; have HO195 := am (Kd.R_lower ho0 (keep_size (w := w) (g := g) (row := none) (by repeat (first | exact HK.out | apply kS | apply kN | apply kD | apply kA)))); replace HK := am (KeepBut.trans (by repeat (first | exact HK.out | apply kS | apply kN | apply kD | apply kA)) hk (.inl rfl)); replace HB := am (hb); replace HI0 := am (hi); (try clear hb2); (try clear hb hk hi); (try clear ho0)) | ((with_reducible refine gate_callee (f := 46) rfl ?_); refine goesL_ (some 13) rfl rfl Try.func46 (by kernel_rfl) rfl #[.pointer (some ⟨g, 0, none⟩), .int .i64 16] rfl (by (try simp only [mT, mC, mZ]); first | done | rfl) ?_; (with_reducible refine (spec_l1Cur_pick.calls g s0_0 t196 t197 16 t198 t199 t200 w0 _ ?side1 ?side2 A5.out).mono ?_); (case side1 => repeat (first | exact HI0.out | apply iA | apply iN | apply iD | apply i1 | apply i2)); (case side2 => repeat (with_reducible first | exact HB.out | apply bA | apply bN | apply bD | refine bS ?_ (iG HI0.out))); rintro e w37 ⟨rfl, hi, hb, hk⟩; refine ⟨_, rfl, ?_⟩; replace HO195 := am (Kd.R_mono (Kd.R_keep (IsS64.apart (show IsS64 w0 _ g s0_0 t196 t197 from by repeat (first | exact HI0.out | apply iA | apply iN | apply iD | apply i1 | apply i2)) (by (with_reducible repeat (first | apply rA | apply rN | apply rD)); exact HO195.out) (by decide)) hk (fun _ h => h.2)) (fun _ h => h.1)); replace HK := am (KeepBut.trans (by repeat (first | exact HK.out | apply kS | apply kN | apply kD | apply kA)) hk (.inl rfl)); replace HB := am (hb); replace HI0 := am (hi); (try clear hb2); (try clear hb hk hi)) | ((with_reducible refine gate_callee (f := 46) rfl ?_); refine goesL_ (some 42) rfl rfl Try.func46 (by kernel_rfl) rfl #[.pointer (some ⟨g, 0, none⟩), .int .i64 2] rfl (by (try simp only [mT, mC, mZ]); first | done | rfl) ?_; (with_reducible refine (spec_l1Cur_pick.calls g s0_0 t199 t200 2 t211 t212 t213 w0 _ ?side1 ?side2 A33.out).mono ?_); (case side1 => repeat (first | exact HI0.out | apply iA | apply iN | apply iD | apply i1 | apply i2)); (case side2 => repeat (with_reducible first | exact HB.out | apply bA | apply bN | apply bD | refine bS ?_ (iG HI0.out))); rintro e w38 ⟨rfl, hi, hb, hk⟩; refine ⟨_, rfl, ?_⟩; replace HO195 := am (Kd.R_mono (Kd.R_keep (IsS64.apart (show IsS64 w0 _ g s0_0 t199 t200 from by repeat (first | exact HI0.out | apply iA | apply iN | apply iD | apply i1 | apply i2)) (by (with_reducible repeat (first | apply rA | apply rN | apply rD)); exact HO195.out) (by decide)) hk (fun _ h => h.2)) (fun _ h => h.1)); replace HK := am (KeepBut.trans (by repeat (first | exact HK.out | apply kS | apply kN | apply kD | apply kA)) hk (.inl rfl)); replace HB := am (hb); replace HI0 := am (hi); (try clear hb2); (try clear hb hk hi)) | ((with_reducible refine gate_callee (f := 77) rfl ?_); refine goesL_ (some 44) rfl rfl Try.func77 (by kernel_rfl) rfl #[.int .i64 (wrap64 (6 + t211))] rfl (by (try simp only [mT, mC, mZ]); first | done | rfl) ?_; (with_reducible refine (spec_ahFlat.calls k (wrap64 (6 + t211)) t214 _ A34.out).mono ?_); rintro e w39 ⟨v215, rfl, ho0, hb⟩; refine ⟨_, rfl, ?_⟩; have HO216 := am (Kd.R_lower (Kd.R_new' ho0 (Kd.R_lt (by (with_reducible repeat (first | apply rA | apply rN | apply rD)); exact HO195.out))) (keep_size (w := w) (g := g) (row := none) (by repeat (first | exact HK.out | apply kS | apply kN | apply kD | apply kA)))); replace HO195 := am (Kd.R_elder' (by (with_reducible repeat (first | apply rA | apply rN | apply rD)); exact HO195.out) (Kd.R_base ho0) hb); replace HK := am (KeepBut.trans (by repeat (first | exact HK.out | apply kS | apply kN | apply kD | apply kA)) (KeepBut.of_below hb g none) (.inl rfl)); replace HB := am (below_step (by repeat (with_reducible first | exact HB.out | apply bA | apply bN | apply bD | refine bS ?_ (iG HI0.out))) hb); replace HI0 := am (IsS64.below (by repeat (first | exact HI0.out | apply iA | apply iN | apply iD | apply i1 | apply i2)) hb); (try clear hb2); (try clear hb hk hi); (try clear ho0)))
    go_ret
    exact ⟨_, by first | rfl | (simp [*, errW_none, errW_some] <;> rfl), by (with_reducible repeat (first | apply rA | apply rN | apply rD)); exact Kd.R_mono HO216.out (fun _ hk => trivial), by repeat (first | exact HI0.out | apply iA | apply iN | apply iD | apply i1 | apply i2), by repeat (with_reducible first | exact HB.out | apply bA | apply bN | apply bD | refine bS ?_ (iG HI0.out)), by repeat (first | exact HK.out | apply kS | apply kN | apply kD | apply kA)⟩
   ·rw [if_neg c32] at H
    have c32b0 : (t198 == 2) = false := beq_eq_false_iff_ne.mpr c32
    have c32b1 : (t198 != 2) = true := bne_iff_ne.mpr c32
    by_cases c40 : t198 = 3
    ·rw [if_pos c40] at H
     have c40b0 : (t198 == 3) = true := beq_iff_eq.mpr c40
     have c40b1 : (t198 != 3) = false := bne_eq_false_iff_eq.mpr c40
     clear c40
     replace H := Option.bind_eq_some_iff.mp H
     obtain ⟨⟨t217, t218, t219⟩, A410, H⟩ := H
     replace H : ((spec_ahRainbow.f k t217).bind fun t220 => (some (t220, t218, t219))) = some (r1, r2, r3) := H
     have A41 := am A410
     clear A410
     replace H := Option.bind_eq_some_iff.mp H
     obtain ⟨t220, A420, H⟩ := H
     replace H : (some (t220, t218, t219)) = some (r1, r2, r3) := H
     have A42 := am A420
     clear A420
     simp only [Option.some.injEq, Prod.mk.injEq] at H
     obtain ⟨rfl, rfl, rfl⟩ := H
     go_enter Try.func75, Try.ntmps75
     go_wp2_with (first | ((with_reducible refine gate_callee (f := 46) rfl ?_); refine goesL_ (some 10) rfl rfl Try.func46 (by kernel_rfl) rfl #[.pointer (some ⟨g, 0, none⟩), .int .i64 (wrap64 (a1 + 1))] rfl (by (try simp only [mT, mC, mZ]); first | done | rfl) ?_; (with_reducible refine (spec_l1Cur_pick.calls g s0_0 s0_1 s0_2 (wrap64 (a1 + 1)) t190 t191 t192 w0 _ ?side1 ?side2 A3.out).mono ?_); (case side1 => repeat (first | exact HI0.out | apply iA | apply iN | apply iD | apply i1 | apply i2)); (case side2 => repeat (with_reducible first | exact HB.out | apply bA | apply bN | apply bD | refine bS ?_ (iG HI0.out))); rintro e w43 ⟨rfl, hi, hb, hk⟩; refine ⟨_, rfl, ?_⟩; replace HK := am (KeepBut.trans (by repeat (first | exact HK.out | apply kS | apply kN | apply kD | apply kA)) hk (.inl rfl)); replace HB := am (hb); replace HI0 := am (hi); (try clear hb2); (try clear hb hk hi)) | ((with_reducible refine gate_callee (f := 67) rfl ?_); refine goesL_ (some 11) rfl rfl Try.func67 (by kernel_rfl) rfl #[.pointer (some ⟨g, 0, none⟩), .int .i64 t190] rfl (by (try simp only [mT, mC, mZ]); first | done | rfl) ?_; (with_reducible refine (spec_l1Cur_sure.calls k g s0_0 t191 t192 t190 t193 t196 t197 w0 _ ?side1 ?side2 A4.out).mono ?_); (case side1 => repeat (first | exact HI0.out | apply iA | apply iN | apply iD | apply i1 | apply i2)); (case side2 => repeat (with_reducible first | exact HB.out | apply bA | apply bN | apply bD | refine bS ?_ (iG HI0.out))); rintro e w44 ⟨v194, rfl, ho0, hi, hb, hk⟩; refine ⟨_, rfl, ?_⟩; have HO195 := am (Kd.R_lower ho0 (keep_size (w := w) (g := g) (row := none) (by repeat (first | exact HK.out | apply kS | apply kN | apply kD | apply kA)))); replace HK := am (KeepBut.trans (by repeat (first | exact HK.out | apply kS | apply kN | apply kD | apply kA)) hk (.inl rfl)); replace HB := am (hb); replace HI0 := am (hi); (try clear hb2); (try clear hb hk hi); (try clear ho0)) | ((with_reducible refine gate_callee (f := 46) rfl ?_); refine goesL_ (some 13) rfl rfl Try.func46 (by kernel_rfl) rfl #[.pointer (some ⟨g, 0, none⟩), .int .i64 16] rfl (by (try simp only [mT, mC, mZ]); first | done | rfl) ?_; (with_reducible refine (spec_l1Cur_pick.calls g s0_0 t196 t197 16 t198 t199 t200 w0 _ ?side1 ?side2 A5.out).mono ?_); (case side1 => repeat (first | exact HI0.out | apply iA | apply iN | apply iD | apply i1 | apply i2)); (case side2 => repeat (with_reducible first | exact HB.out | apply bA | apply bN | apply bD | refine bS ?_ (iG HI0.out))); rintro e w45 ⟨rfl, hi, hb, hk⟩; refine ⟨_, rfl, ?_⟩; replace HO195 := am (Kd.R_mono (Kd.R_keep (IsS64.apart (show IsS64 w0 _ g s0_0 t196 t197 from by repeat (first | exact HI0.out | apply iA | apply iN | apply iD | apply i1 | apply i2)) (by (with_reducible repeat (first | apply rA | apply rN | apply rD)); exact HO195.out) (by decide)) hk (fun _ h => h.2)) (fun _ h => h.1)); replace HK := am (KeepBut.trans (by repeat (first | exact HK.out | apply kS | apply kN | apply kD | apply kA)) hk (.inl rfl)); replace HB := am (hb); replace HI0 := am (hi); (try clear hb2); (try clear hb hk hi)) | ((with_reducible refine gate_callee (f := 46) rfl ?_); refine goesL_ (some 48) rfl rfl Try.func46 (by kernel_rfl) rfl #[.pointer (some ⟨g, 0, none⟩), .int .i64 7] rfl (by (try simp only [mT, mC, mZ]); first | done | rfl) ?_; (with_reducible refine (spec_l1Cur_pick.calls g s0_0 t199 t200 7 t217 t218 t219 w0 _ ?side1 ?side2 A41.out).mono ?_); (case side1 => repeat (first | exact HI0.out | apply iA | apply iN | apply iD | apply i1 | apply i2)); (case side2 => repeat (with_reducible first | exact HB.out | apply bA | apply bN | apply bD | refine bS ?_ (iG HI0.out))); rintro e w46 ⟨rfl, hi, hb, hk⟩; refine ⟨_, rfl, ?_⟩; replace HO195 := am (Kd.R_mono (Kd.R_keep (IsS64.apart (show IsS64 w0 _ g s0_0 t199 t200 from by repeat (first | exact HI0.out | apply iA | apply iN | apply iD | apply i1 | apply i2)) (by (with_reducible repeat (first | apply rA | apply rN | apply rD)); exact HO195.out) (by decide)) hk (fun _ h => h.2)) (fun _ h => h.1)); replace HK := am (KeepBut.trans (by repeat (first | exact HK.out | apply kS | apply kN | apply kD | apply kA)) hk (.inl rfl)); replace HB := am (hb); replace HI0 := am (hi); (try clear hb2); (try clear hb hk hi)) | ((with_reducible refine gate_callee (f := 76) rfl ?_); refine goesL_ (some 49) rfl rfl Try.func76 (by kernel_rfl) rfl #[.int .i64 t217] rfl (by (try simp only [mT, mC, mZ]); first | done | rfl) ?_; (with_reducible refine (spec_ahRainbow.calls k t217 t220 _ A42.out).mono ?_); rintro e w47 ⟨v221, rfl, ho0, hb⟩; refine ⟨_, rfl, ?_⟩; have HO222 := am (Kd.R_lower (Kd.R_new' ho0 (Kd.R_lt (by (with_reducible repeat (first | apply rA | apply rN | apply rD)); exact HO195.out))) (keep_size (w := w) (g := g) (row := none) (by repeat (first | exact HK.out | apply kS | apply kN | apply kD | apply kA)))); replace HO195 := am (Kd.R_elder' (by (with_reducible repeat (first | apply rA | apply rN | apply rD)); exact HO195.out) (Kd.R_base ho0) hb); replace HK := am (KeepBut.trans (by repeat (first | exact HK.out | apply kS | apply kN | apply kD | apply kA)) (KeepBut.of_below hb g none) (.inl rfl)); replace HB := am (below_step (by repeat (with_reducible first | exact HB.out | apply bA | apply bN | apply bD | refine bS ?_ (iG HI0.out))) hb); replace HI0 := am (IsS64.below (by repeat (first | exact HI0.out | apply iA | apply iN | apply iD | apply i1 | apply i2)) hb); (try clear hb2); (try clear hb hk hi); (try clear ho0)))
     go_ret
     exact ⟨_, by first | rfl | (simp [*, errW_none, errW_some] <;> rfl), by (with_reducible repeat (first | apply rA | apply rN | apply rD)); exact Kd.R_mono HO222.out (fun _ hk => trivial), by repeat (first | exact HI0.out | apply iA | apply iN | apply iD | apply i1 | apply i2), by repeat (with_reducible first | exact HB.out | apply bA | apply bN | apply bD | refine bS ?_ (iG HI0.out)), by repeat (first | exact HK.out | apply kS | apply kN | apply kD | apply kA)⟩
    ·rw [if_neg c40] at H
     have c40b0 : (t198 == 3) = false := beq_eq_false_iff_ne.mpr c40
     have c40b1 : (t198 != 3) = true := bne_iff_ne.mpr c40
     simp only [Option.some.injEq, Prod.mk.injEq] at H
     obtain ⟨rfl, rfl, rfl⟩ := H
     go_enter Try.func75, Try.ntmps75
     go_wp2_with (first | ((with_reducible refine gate_callee (f := 46) rfl ?_); refine goesL_ (some 10) rfl rfl Try.func46 (by kernel_rfl) rfl #[.pointer (some ⟨g, 0, none⟩), .int .i64 (wrap64 (a1 + 1))] rfl (by (try simp only [mT, mC, mZ]); first | done | rfl) ?_; (with_reducible refine (spec_l1Cur_pick.calls g s0_0 s0_1 s0_2 (wrap64 (a1 + 1)) t190 t191 t192 w0 _ ?side1 ?side2 A3.out).mono ?_); (case side1 => repeat (first | exact HI0.out | apply iA | apply iN | apply iD | apply i1 | apply i2)); (case side2 => repeat (with_reducible first | exact HB.out | apply bA | apply bN | apply bD | refine bS ?_ (iG HI0.out))); rintro e w48 ⟨rfl, hi, hb, hk⟩; refine ⟨_, rfl, ?_⟩; replace HK := am (KeepBut.trans (by repeat (first | exact HK.out | apply kS | apply kN | apply kD | apply kA)) hk (.inl rfl)); replace HB := am (hb); replace HI0 := am (hi); (try clear hb2); (try clear hb hk hi)) | ((with_reducible refine gate_callee (f := 67) rfl ?_); refine goesL_ (some 11) rfl rfl Try.func67 (by kernel_rfl) rfl #[.pointer (some ⟨g, 0, none⟩), .int .i64 t190] rfl (by (try simp only [mT, mC, mZ]); first | done | rfl) ?_; (with_reducible refine (spec_l1Cur_sure.calls k g s0_0 t191 t192 t190 t193 t196 t197 w0 _ ?side1 ?side2 A4.out).mono ?_); (case side1 => repeat (first | exact HI0.out | apply iA | apply iN | apply iD | apply i1 | apply i2)); (case side2 => repeat (with_reducible first | exact HB.out | apply bA | apply bN | apply bD | refine bS ?_ (iG HI0.out))); rintro e w49 ⟨v194, rfl, ho0, hi, hb, hk⟩; refine ⟨_, rfl, ?_⟩; have HO195 := am (Kd.R_lower ho0 (keep_size (w := w) (g := g) (row := none) (by repeat (first | exact HK.out | apply kS | apply kN | apply kD | apply kA)))); replace HK := am (KeepBut.trans (by repeat (first | exact HK.out | apply kS | apply kN | apply kD | apply kA)) hk (.inl rfl)); replace HB := am (hb); replace HI0 := am (hi); (try clear hb2); (try clear hb hk hi); (try clear ho0)) | ((with_reducible refine gate_callee (f := 46) rfl ?_); refine goesL_ (some 13) rfl rfl Try.func46 (by kernel_rfl) rfl #[.pointer (some ⟨g, 0, none⟩), .int .i64 16] rfl (by (try simp only [mT, mC, mZ]); first | done | rfl) ?_; (with_reducible refine (spec_l1Cur_pick.calls g s0_0 t196 t197 16 t198 t199 t200 w0 _ ?side1 ?side2 A5.out).mono ?_); (case side1 => repeat (first | exact HI0.out | apply iA | apply iN | apply iD | apply i1 | apply i2)); (case side2 => repeat (with_reducible first | exact HB.out | apply bA | apply bN | apply bD | refine bS ?_ (iG HI0.out))); rintro e w50 ⟨rfl, hi, hb, hk⟩; refine ⟨_, rfl, ?_⟩; replace HO195 := am (Kd.R_mono (Kd.R_keep (IsS64.apart (show IsS64 w0 _ g s0_0 t196 t197 from by repeat (first | exact HI0.out | apply iA | apply iN | apply iD | apply i1 | apply i2)) (by (with_reducible repeat (first | apply rA | apply rN | apply rD)); exact HO195.out) (by decide)) hk (fun _ h => h.2)) (fun _ h => h.1)); replace HK := am (KeepBut.trans (by repeat (first | exact HK.out | apply kS | apply kN | apply kD | apply kA)) hk (.inl rfl)); replace HB := am (hb); replace HI0 := am (hi); (try clear hb2); (try clear hb hk hi)))
     go_ret
     exact ⟨_, by first | rfl | (simp [*, errW_none, errW_some] <;> rfl), by (with_reducible repeat (first | apply rA | apply rN | apply rD)); exact HO195.out, by repeat (first | exact HI0.out | apply iA | apply iN | apply iD | apply i1 | apply i2), by repeat (with_reducible first | exact HB.out | apply bA | apply bN | apply bD | refine bS ?_ (iG HI0.out)), by repeat (first | exact HK.out | apply kS | apply kN | apply kD | apply kA)⟩
end Go.Proofs.Ytfencncopkeobaa.QFnPairsMoved
