-- The law by LX (my own text).
import Derived.Test.YtfencncopkeobaaQFnPairsMovedx0
import Derived.Test.YtfencncopkeobaaQFnPairsMovedx1
import Derived.Test.YtfencncopkeobaaQFnPairsMovedx2
import Derived.Test.YtfencncopkeobaaQFnPairsMovedx3
import Derived.Test.YtfencncopkeobaaQFnPairsMovedx4
import Derived.Test.YtfencncopkeobaaQFnPairsMovedx5
import Derived.Test.YtfencncopkeobaaQFnPairsMovedx6
import Derived.Test.YtfencncopkeobaaQFnPairsMovedx7
import Derived.Test.YtfencncopkeobaaQFnPairsMovedx8
import Derived.Test.YtfencncopkeobaaQFnPairsMovedx9
import Derived.Test.YtfencncopkeobaaQFnPairsMovedx10
import Derived.Test.YtfencncopkeobaaQFnPairsMovedx11
import Derived.Test.YtfencncopkeobaaQFnPairsMovedx12
import Derived.Test.YtfencncopkeobaaLX
namespace Go.Proofs.Ytfencncopkeobaa.QFnPairsMoved
open Go.RowKit Go.Proofs.YtfencncopkeobaaW.PrintWords Go.Proofs.YtfencncopkeobaaW.PrintLast Go.Proofs.YtfencncopkeobaaW.PrintMore
attribute [local go_sem] max2_int min2_int max_two min_two max_three min_three max_four min_four
set_option linter.unusedVariables false
inductive Lf where
 | by (s : List Int)
 | pr (p : List Int × List Int)
structure PV (w : World) (x y : Value) (p : List Int × List Int) : Prop where
 l : ∃ A c, x = .slice A p.1.length c ∧ p.1.length ≤ c ∧ (Kd.int .i64).C w A p.1.length p.1
 r : ∃ A c, y = .slice A p.2.length c ∧ p.2.length ≤ c ∧ (Kd.int .i64).C w A p.2.length p.2
theorem PV.below {w w1 : World} {x y : Value} {p : List Int × List Int} (h : PV w x y p) (hb : Below w.heap.size w w1) : PV w1 x y p := by
 obtain ⟨⟨A, c, e, l, r⟩, ⟨B, d, f, m, s⟩⟩ := h
 exact ⟨⟨A, c, e, l, Kd.C_below r hb⟩, ⟨B, d, f, m, Kd.C_below s hb⟩⟩
theorem PV.of_R {w : World} {x y : Value} {a b : List Int} {b0 b1 : Nat} {ok ok1 : Nat → Prop} (h : (Kd.int .i64).R 3 w b0 ok x a) (h1 : (Kd.int .i64).R 3 w b1 ok1 y b) : PV w x y (a, b) := by
 obtain ⟨A, c, e⟩ := Kd.R_slice h
 obtain ⟨B, d, f⟩ := Kd.R_slice h1
 rw [e] at h
 rw [f] at h1
 exact ⟨⟨A, c, e, (Kd.R_reads' h).2.1, (Kd.R_reads' h).2.2⟩, ⟨B, d, f, (Kd.R_reads' h1).2.1, (Kd.R_reads' h1).2.2⟩⟩
def Lf.Rel (l : Lf) (w : World) (v : Value) : Prop :=
 match l with
 | .by s => ∃ A c, v = .slice A s.length c ∧ s.length ≤ c ∧ (Kd.int .u8).C w A s.length s
 | .pr p => ∃ x y, v = .agg #[x, y] ∧ PV w x y p
def Lf.fits : Lf → Nat → Bool
 | .pr _, t => Nat.beq t 26
 | _, _ => false
def boxes (t : Nat) : Option Nat := bif Nat.beq t 26 then some 2 else none
theorem boxes_eq {t n : Nat} (h : boxes t = some n) : t = 26 ∧ n = 2 := by
 unfold boxes at h
 cases hb : Nat.beq t 26 with
 | false => rw [hb] at h; cases h
 | true => rw [hb] at h; cases h; exact ⟨Nat.eq_of_beq_eq_true hb, rfl⟩
theorem two_of {ds : Array Value} (h : ds.size = 2) : ∃ x y, ds = #[x, y] := by
 obtain ⟨l⟩ := ds
 match l, h with
 | [x, y], _ => exact ⟨x, y, rfl⟩
def lore : LX.Lore Try.prog Lf where
 Rel := Lf.Rel
 mono := by
  intro l w w1 v h hb
  cases l with
  | «by» s => obtain ⟨A, c, e, hl, hr⟩ := h; exact ⟨A, c, e, hl, Kd.C_below hr hb⟩
  | pr p => obtain ⟨x, y, e, hp⟩ := h; exact ⟨x, y, e, hp.below hb⟩
 bool4 := Try.underlying4
 box := boxes
 fits := Lf.fits
 shape := by
  intro l w v t n h hf hb
  obtain ⟨rfl, rfl⟩ := boxes_eq hb
  cases l with
  | «by» s => cases hf
  | pr p =>
   obtain ⟨x, y, rfl, ⟨⟨A, c, rfl, _, _⟩, ⟨B, d, rfl, _, _⟩⟩⟩ := h
   exact ⟨_, rfl, rfl, fun c hc => by simp at hc; rcases hc with rfl | rfl <;> rfl⟩
 alloc := by
  intro t n hb
  obtain ⟨rfl, rfl⟩ := boxes_eq hb
  exact ⟨_, rfl, LX.box_alloc Try.zeroValue26⟩
 load := by
  intro t n hb w g cs hc hn
  obtain ⟨rfl, rfl⟩ := boxes_eq hb
  exact LX.box_load Try.underlying26 (by kernel_rfl) hc hn
 store := by
  intro t n hb w g cs ds hc hn hd h1
  obtain ⟨rfl, rfl⟩ := boxes_eq hb
  exact LX.box_store (by kernel_rfl) hc hn hd h1
abbrev FA := LX.Fact Lf
abbrev vB (b : Bool) : LX.A0 Lf := .v (.bool b)
abbrev vI (n : Int) : LX.A0 Lf := .v (.int .i64 n)
abbrev vS (s : ByteArray) : LX.A0 Lf := .v (.string s)
abbrev vP (p : List Int × List Int) : LX.A0 Lf := .l (.pr p)
abbrev OK (f : FA) : Prop := f.OK lore
theorem rv2 {bs : List Nat} {w : World} {a b : Value} {x y : LX.A0 Lf} (h : LX.R0 lore w a x) (k : LX.R0 lore w b y) : LX.RV lore bs w (.tuple #[a, b]) (.t [x, y]) :=
 ⟨[a, b], rfl, fun i z hz => by
  match i, hz with
  | 0, hz => cases hz; exact ⟨a, rfl, h⟩
  | 1, hz => cases hz; exact ⟨b, rfl, k⟩⟩
theorem rp {w : World} {x y : Value} {p : List Int × List Int} (h : PV w x y p) : LX.R0 lore w (.agg #[x, y]) (vP p) := ⟨x, y, rfl, h⟩
theorem rpR {w : World} {x y : Value} {a b : List Int} {b0 b1 : Nat} {ok ok1 : Nat → Prop} (h : (Kd.int .i64).R 3 w b0 ok x a) (h1 : (Kd.int .i64).R 3 w b1 ok1 y b) : LX.R0 lore w (.agg #[x, y]) (vP (a, b)) := rp (PV.of_R h h1)
theorem all1 {w : World} {vs : List Value} {x : LX.A0 Lf} (h : LX.All2 lore w vs [x]) : ∃ a, vs = [a] ∧ LX.R0 lore w a x := by
 match vs, h with
 | [a], h => exact ⟨a, rfl, h.1⟩
theorem all2 {w : World} {vs : List Value} {x y : LX.A0 Lf} (h : LX.All2 lore w vs [x, y]) : ∃ a b, vs = [a, b] ∧ LX.R0 lore w a x ∧ LX.R0 lore w b y := by
 match vs, h with
 | [a, b], h => exact ⟨a, b, rfl, h.1, h.2.1⟩
theorem pairF {f : FuncId} {p q : List Int × List Int} {b : Bool} (hf : ∃ fn, Try.prog.funcs[f]? = some fn ∧ (fn.name == "runtime.NumGoroutine") = false ∧ fn.body.isSome = true)
  (h : ∀ A c B d w, (Kd.int .i64).C w A p.1.length p.1 → p.1.length ≤ c → (Kd.int .i64).C w B p.2.length p.2 → p.2.length ≤ d →
   Calls Try.prog f #[.agg #[.slice A p.1.length c, .slice B p.2.length d]] w fun e w' => ∃ x y : Value, e = .returned (.tuple #[.agg #[x, y], .bool b]) ∧ (Kd.int .i64).R 3 w' w.heap.size (fun k => some k ≠ y.ownBlock) x q.1 ∧ (Kd.int .i64).R 3 w' w.heap.size (fun k => some k ≠ x.ownBlock) y q.2 ∧ Below w.heap.size w w') :
  OK (.call f [vP p] (.t [vP q, vB b])) := by
 refine ⟨hf, fun w vs hv => ?_⟩
 obtain ⟨a, rfl, x, y, rfl, ⟨A, c, rfl, h1, h2⟩, ⟨B, d, rfl, h3, h4⟩⟩ := all1 hv
 refine (h A c B d w h2 h1 h4 h3).mono ?_
 rintro e w' ⟨x', y', rfl, r1, r2, hb⟩
 exact ⟨_, rfl, rv2 (rpR r1 r2) rfl, hb⟩
theorem ok25 {k : Nat} {p q : List Int × List Int} {b : Bool} (h : impl_FlipMeander.f k p.1 p.2 = some (q.1, q.2, b)) : OK (.call 25 [vP p] (.t [vP q, vB b])) := by
 exact pairF ⟨_, Try.func25, by kernel_rfl, rfl⟩ fun A c B d w r l m s => impl_FlipMeander.calls k A c p.1 B d p.2 q.1 q.2 b w r l m s h
theorem ok26 {k : Nat} {p q : List Int × List Int} {b : Bool} (h : spec_FlipMeander.f k p.1 p.2 = some (q.1, q.2, b)) : OK (.call 26 [vP p] (.t [vP q, vB b])) := by
 exact pairF ⟨_, Try.func26, by kernel_rfl, rfl⟩ fun A c B d w r l m s => spec_FlipMeander.calls k A c p.1 B d p.2 q.1 q.2 b w r l m s h
theorem ok27 {k : Nat} {p q : List Int × List Int} {b : Bool} (h : impl_MirrorMeander.f k p.1 p.2 = some (q.1, q.2, b)) : OK (.call 27 [vP p] (.t [vP q, vB b])) := by
 exact pairF ⟨_, Try.func27, by kernel_rfl, rfl⟩ fun A c B d w r l m s => impl_MirrorMeander.calls k A c p.1 B d p.2 q.1 q.2 b w r l m s h
theorem ok28 {k : Nat} {p q : List Int × List Int} {b : Bool} (h : spec_MirrorMeander.f k p.1 p.2 = some (q.1, q.2, b)) : OK (.call 28 [vP p] (.t [vP q, vB b])) := by
 exact pairF ⟨_, Try.func28, by kernel_rfl, rfl⟩ fun A c B d w r l m s => spec_MirrorMeander.calls k A c p.1 B d p.2 q.1 q.2 b w r l m s h
theorem ok23 {k : Nat} {p q : List Int × List Int} {t : Int} {b : Bool} (h : impl_TurnMeander.f k p.1 p.2 t = some (q.1, q.2, b)) : OK (.call 23 [vP p, vI t] (.t [vP q, vB b])) := by
 refine ⟨⟨_, Try.func23, by kernel_rfl, rfl⟩, fun w vs hv => ?_⟩
 obtain ⟨a, _, rfl, ⟨x, y, rfl, ⟨A, c, rfl, l, r⟩, ⟨B, d, rfl, m, s⟩⟩, rfl⟩ := all2 hv
 refine (impl_TurnMeander.calls k A c p.1 B d p.2 t q.1 q.2 b w r l s m h).mono ?_
 rintro e w' ⟨x', y', rfl, r1, r2, hb⟩
 exact ⟨_, rfl, rv2 (rpR r1 r2) rfl, hb⟩
theorem ok24 {k : Nat} {p q : List Int × List Int} {t : Int} {b : Bool} (h : spec_TurnMeander.f k p.1 p.2 t = some (q.1, q.2, b)) : OK (.call 24 [vP p, vI t] (.t [vP q, vB b])) := by
 refine ⟨⟨_, Try.func24, by kernel_rfl, rfl⟩, fun w vs hv => ?_⟩
 obtain ⟨a, _, rfl, ⟨x, y, rfl, ⟨A, c, rfl, l, r⟩, ⟨B, d, rfl, m, s⟩⟩, rfl⟩ := all2 hv
 refine (spec_TurnMeander.calls k A c p.1 B d p.2 t q.1 q.2 b w r l s m h).mono ?_
 rintro e w' ⟨x', y', rfl, r1, r2, hb⟩
 exact ⟨_, rfl, rv2 (rpR r1 r2) rfl, hb⟩
theorem ok31 {k : Nat} {p p2 q : List Int × List Int} {b : Bool} (h : impl_JoinMeanders.f k p.1 p.2 p2.1 p2.2 = some (q.1, q.2, b)) : OK (.call 31 [vP p, vP p2] (.t [vP q, vB b])) := by
 refine ⟨⟨_, Try.func31, by kernel_rfl, rfl⟩, fun w vs hv => ?_⟩
 obtain ⟨_, _, rfl, ⟨x, y, rfl, ⟨A, c, rfl, l, r⟩, ⟨B, d, rfl, m, s⟩⟩, ⟨x2, y2, rfl, ⟨C, f, rfl, n, t⟩, ⟨D, g, rfl, o, u⟩⟩⟩ := all2 hv
 refine (impl_JoinMeanders.calls k A c p.1 B d p.2 C f p2.1 D g p2.2 q.1 q.2 b w r l s m t n u o h).mono ?_
 rintro e w' ⟨x', y', rfl, r1, r2, hb⟩
 exact ⟨_, rfl, rv2 (rpR r1 r2) rfl, hb⟩
theorem ok32 {k : Nat} {p p2 q : List Int × List Int} {b : Bool} (h : spec_JoinMeanders.f k p.1 p.2 p2.1 p2.2 = some (q.1, q.2, b)) : OK (.call 32 [vP p, vP p2] (.t [vP q, vB b])) := by
 refine ⟨⟨_, Try.func32, by kernel_rfl, rfl⟩, fun w vs hv => ?_⟩
 obtain ⟨_, _, rfl, ⟨x, y, rfl, ⟨A, c, rfl, l, r⟩, ⟨B, d, rfl, m, s⟩⟩, ⟨x2, y2, rfl, ⟨C, f, rfl, n, t⟩, ⟨D, g, rfl, o, u⟩⟩⟩ := all2 hv
 refine (spec_JoinMeanders.calls k A c p.1 B d p.2 C f p2.1 D g p2.2 q.1 q.2 b w r l s m t n u o h).mono ?_
 rintro e w' ⟨x', y', rfl, r1, r2, hb⟩
 exact ⟨_, rfl, rv2 (rpR r1 r2) rfl, hb⟩
theorem ok29 {k : Nat} {p p2 : List Int × List Int} {b : Bool} (h : laws_sSamePair.f k p.1 p.2 p2.1 p2.2 = some b) : OK (.call 29 [vP p, vP p2] (.a (vB b))) := by
 refine ⟨⟨_, Try.func29, by kernel_rfl, rfl⟩, fun w vs hv => ?_⟩
 obtain ⟨_, _, rfl, ⟨x, y, rfl, ⟨A, c, rfl, l, r⟩, ⟨B, d, rfl, m, s⟩⟩, ⟨x2, y2, rfl, ⟨C, f, rfl, n, t⟩, ⟨D, g, rfl, o, u⟩⟩⟩ := all2 hv
 refine (laws_sSamePair.calls k A c p.1 B d p.2 C f p2.1 D g p2.2 b w r l s m t n u o h).mono ?_
 rintro e w' ⟨rfl, hb⟩
 exact ⟨_, rfl, rfl, hb⟩
theorem ok34 {k : Nat} {a : ByteArray} {q : List Int × List Int} {b : Bool} (h : impl_ParseMeander.f k a = some (q.1, q.2, b)) : OK (.call 34 [vS a] (.t [vP q, vB b])) := by
 refine ⟨⟨_, Try.func34, by kernel_rfl, rfl⟩, fun w vs hv => ?_⟩
 obtain ⟨_, rfl, rfl⟩ := all1 hv
 refine (impl_ParseMeander.calls k a q.1 q.2 b w h).mono ?_
 rintro e w' ⟨x', y', rfl, r1, r2, hb⟩
 exact ⟨_, rfl, rv2 (rpR r1 r2) rfl, hb⟩
theorem ok35 {k : Nat} {a : ByteArray} {q : List Int × List Int} {b : Bool} (h : spec_ParseMeander.f k a = some (q.1, q.2, b)) : OK (.call 35 [vS a] (.t [vP q, vB b])) := by
 refine ⟨⟨_, Try.func35, by kernel_rfl, rfl⟩, fun w vs hv => ?_⟩
 obtain ⟨_, rfl, rfl⟩ := all1 hv
 refine (spec_ParseMeander.calls k a q.1 q.2 b w h).mono ?_
 rintro e w' ⟨x', y', rfl, r1, r2, hb⟩
 exact ⟨_, rfl, rv2 (rpR r1 r2) rfl, hb⟩
theorem ok9 {k : Nat} {p : List Int × List Int} {n : Int} {b : Bool} (h : impl_ComponentsOf.f k p.1 p.2 = some (n, b)) : OK (.call 9 [vP p] (.t [vI n, vB b])) := by
 refine ⟨⟨_, Try.func9, by kernel_rfl, rfl⟩, fun w vs hv => ?_⟩
 obtain ⟨a, rfl, x, y, rfl, ⟨A, c, rfl, l, r⟩, ⟨B, d, rfl, m, s⟩⟩ := all1 hv
 refine (impl_ComponentsOf.calls k A c p.1 B d p.2 n b w r l s m h).mono ?_
 rintro e w' ⟨rfl, hb⟩
 exact ⟨_, rfl, rv2 rfl rfl, hb⟩
theorem ok36 {k : Nat} {p : List Int × List Int} {t : ByteArray} {b : Bool} (h : impl_MeanderText.f k p.1 p.2 = some (t, b)) : OK (.call 36 [vP p] (.t [vS t, vB b])) := by
 refine ⟨⟨_, Try.func36, by kernel_rfl, rfl⟩, fun w vs hv => ?_⟩
 obtain ⟨a, rfl, x, y, rfl, ⟨A, c, rfl, l, r⟩, ⟨B, d, rfl, m, s⟩⟩ := all1 hv
 refine (impl_MeanderText.calls k A c p.1 B d p.2 t b w r l s m h).mono ?_
 rintro e w' ⟨rfl, hb⟩
 exact ⟨_, rfl, rv2 rfl rfl, hb⟩
theorem ok38 {k : Nat} {p : List Int × List Int} {t : ByteArray} {b : Bool} (h : spec_MeanderText.f k p.1 p.2 = some (t, b)) : OK (.call 38 [vP p] (.t [vS t, vB b])) := by
 refine ⟨⟨_, Try.func38, by kernel_rfl, rfl⟩, fun w vs hv => ?_⟩
 obtain ⟨a, rfl, x, y, rfl, ⟨A, c, rfl, l, r⟩, ⟨B, d, rfl, m, s⟩⟩ := all1 hv
 refine (spec_MeanderText.calls k A c p.1 B d p.2 t b w r l s m h).mono ?_
 rintro e w' ⟨rfl, hb⟩
 exact ⟨_, rfl, rv2 rfl rfl, hb⟩
theorem ok22 {k : Nat} {s : List Int} {p : List Int × List Int} {t : Int} (h : spec_DrawTurnMeander.f k s = some (p.1, p.2, t)) : OK (.call 22 [.l (.by s)] (.t [vP p, vI t])) := by
 refine ⟨⟨_, Try.func22, by kernel_rfl, rfl⟩, fun w vs hv => ?_⟩
 obtain ⟨_, rfl, A, c, rfl, l, r⟩ := all1 hv
 refine (spec_DrawTurnMeander.calls k A c s p.1 p.2 t w r l h).mono ?_
 rintro e w' ⟨x', y', rfl, r1, r2, hb⟩
 exact ⟨_, rfl, rv2 (rpR r1 r2) rfl, hb⟩
theorem ok37 {k : Nat} {s : List Int} {p : List Int × List Int} (h : spec_DrawMeanderText.f k s = some (p.1, p.2)) : OK (.call 37 [.l (.by s)] (.a (vP p))) := by
 refine ⟨⟨_, Try.func37, by kernel_rfl, rfl⟩, fun w vs hv => ?_⟩
 obtain ⟨_, rfl, A, c, rfl, l, r⟩ := all1 hv
 refine (spec_DrawMeanderText.calls k A c s p.1 p.2 w r l h).mono ?_
 rintro e w' ⟨x', y', rfl, r1, r2, hb⟩
 exact ⟨_, rfl, rpR r1 r2, hb⟩
theorem ok30 {k : Nat} {s : List Int} {p q : List Int × List Int} (h : spec_DrawJoinMeanders.f k s = some (p.1, p.2, q.1, q.2)) : OK (.call 30 [.l (.by s)] (.t [vP p, vP q])) := by
 refine ⟨⟨_, Try.func30, by kernel_rfl, rfl⟩, fun w vs hv => ?_⟩
 obtain ⟨_, rfl, A, c, rfl, l, r⟩ := all1 hv
 refine (spec_DrawJoinMeanders.calls k A c s p.1 p.2 q.1 q.2 w r l h).mono ?_
 rintro e w' ⟨v0, v1, v2, v3, rfl, h0, h1, h2, h3, hb⟩
 exact ⟨_, rfl, rv2 (rpR h0 h1) (rpR h2 h3), hb⟩
theorem ok33 {k : Nat} {s : List Int} {t : ByteArray} (h : spec_DrawParseMeander.f k s = some t) : OK (.call 33 [.l (.by s)] (.a (vS t))) := by
 refine ⟨⟨_, Try.func33, by kernel_rfl, rfl⟩, fun w vs hv => ?_⟩
 obtain ⟨_, rfl, A, c, rfl, l, r⟩ := all1 hv
 refine (spec_DrawParseMeander.calls k A c s t w r l h).mono ?_
 rintro e w' ⟨rfl, hb⟩
 exact ⟨_, rfl, rfl, hb⟩
theorem ok5 {s t : List Int} {b : Bool} (h : laws_big.f s t = some b) : OK (.call 5 [.l (.by s), .l (.by t)] (.a (vB b))) := by
 refine ⟨⟨_, Try.func5, by kernel_rfl, rfl⟩, fun w vs hv => ?_⟩
 obtain ⟨_, _, rfl, ⟨A, c, rfl, l, r⟩, ⟨B, d, rfl, m, u⟩⟩ := all2 hv
 refine (laws_big.calls A c s B d t b w r l u m h).mono ?_
 rintro e w' ⟨rfl, ⟨nd, rfl⟩⟩
 exact ⟨_, rfl, rfl, pw_below_drewN (Below.refl _ _) nd⟩
theorem ne_same (n : Int) : OK (.bin .neq 3 3 (.int .i64 n) (.int .i64 n) (.bool false)) := by
 intro ρ w d p q hd hp hq
 unfold execOp
 simp [hd, hp, hq, eqGuard, binOp, Op.intCmp]
theorem ne_text (s : ByteArray) : OK (.bin .neq 9 9 (.string s) (.string s) (.bool false)) := by
 intro ρ w d p q hd hp hq
 unfold execOp
 simp [hd, hp, hq, eqGuard, binOp, Op.stringOp]
theorem neg_ok (n : Int) : OK (.un .neg 3 (.int .i64 n) (.int .i64 (wrap64 (-n)))) := by
 intro ρ w d p hd hp
 unfold execOp
 simp [hd, hp, Op.unary, Op.intArith, i64_w]
theorem add_ok (m n : Int) : OK (.bin .add 3 3 (.int .i64 m) (.int .i64 n) (.int .i64 (wrap64 (m + n)))) := by
 intro ρ w d p q hd hp hq
 unfold execOp
 simp [hd, hp, hq, eqGuard, binOp, Op.intArith, i64_w]
def cnd (b : Bool) (l : List FA) : List FA := match b with | true => l | false => []
def AllOK : List FA → Prop
 | [] => True
 | f :: r => OK f ∧ AllOK r
theorem AllOK.mem : ∀ {l : List FA}, AllOK l → ∀ f ∈ l, f.OK lore
 | [], _, f, h => by cases h
 | g :: r, h, f, hf => by
  rcases List.mem_cons.1 hf with rfl | hf
  ·exact h.1
  ·exact AllOK.mem h.2 f hf
theorem ck {f : FA} {l : List FA} (h : OK f) (k : AllOK l) : AllOK (f :: l) := ⟨h, k⟩
theorem nk : AllOK [] := trivial
theorem AllOK.app : ∀ {l r : List FA}, AllOK l → AllOK r → AllOK (l ++ r)
 | [], _, _, k => k
 | _ :: _, _, h, k => ⟨h.1, AllOK.app h.2 k⟩
theorem AllOK.cnd {b : Bool} {l : List FA} (h : b = true → AllOK l) : AllOK (cnd b l) := by
 cases b
 ·trivial
 ·exact h rfl
def F0 (s0 s1 : List Int) (m q fl mi : List Int × List Int) (t : Int) (ok one thr : Bool) : List FA :=
 [.call 5 [.l (.by s0), .l (.by s1)] (.a (vB false)), .call 22 [.l (.by s0)] (.t [vP m, vI t]), .call 23 [vP m, vI t] (.t [vP q, vB ok]), .call 24 [vP m, vI t] (.t [vP q, vB ok]),
 .call 25 [vP m] (.t [vP fl, vB one]), .call 26 [vP m] (.t [vP fl, vB one]), .call 27 [vP m] (.t [vP mi, vB thr]), .call 28 [vP m] (.t [vP mi, vB thr]), .call 29 [vP q, vP q] (.a (vB true)), .call 29 [vP fl, vP fl] (.a (vB true)), .call 29 [vP mi, vP mi] (.a (vB true))]
def NE (n : Int) : FA := .bin .neq 3 3 (.int .i64 n) (.int .i64 n) (.bool false)
def NS (s : ByteArray) : FA := .bin .neq 9 9 (.string s) (.string s) (.bool false)
def F1 (m fl mi : List Int × List Int) (n : Int) : List FA :=
 [.call 9 [vP m] (.t [vI n, vB true]), .call 9 [vP fl] (.t [vI n, vB true]), .call 9 [vP mi] (.t [vI n, vB true]), .call 25 [vP fl] (.t [vP m, vB true]), .call 27 [vP mi] (.t [vP m, vB true]), NE n, NE n, .call 29 [vP m, vP m] (.a (vB true)), .call 29 [vP m, vP m] (.a (vB true))]
def F2 (m q : List Int × List Int) (t n : Int) : List FA :=
 [.call 9 [vP q] (.t [vI n, vB true]), .un .neg 3 (.int .i64 t) (.int .i64 (wrap64 (-t))), .call 23 [vP q, vI (wrap64 (-t))] (.t [vP m, vB true]), NE n, .call 29 [vP m, vP m] (.a (vB true))]
def F3 (s1 : List Int) (a b j : List Int × List Int) (told : Bool) : List FA :=
 [.call 30 [.l (.by s1)] (.t [vP a, vP b]), .call 31 [vP a, vP b] (.t [vP j, vB told]), .call 32 [vP a, vP b] (.t [vP j, vB told]), .call 29 [vP j, vP j] (.a (vB true))]
def F4 (a b j : List Int × List Int) (n1 n2 : Int) : List FA :=
 [.call 9 [vP a] (.t [vI n1, vB true]), .call 9 [vP b] (.t [vI n2, vB true]), .call 9 [vP j] (.t [vI (wrap64 (n1 + n2)), vB true]), .bin .add 3 3 (.int .i64 n1) (.int .i64 n2) (.int .i64 (wrap64 (n1 + n2))), NE (wrap64 (n1 + n2))]
def F5 (s1 : List Int) (s : ByteArray) (r : List Int × List Int) (twelve : Bool) : List FA :=
 [.call 33 [.l (.by s1)] (.a (vS s)), .call 34 [vS s] (.t [vP r, vB twelve]), .call 35 [vS s] (.t [vP r, vB twelve]), .call 29 [vP r, vP r] (.a (vB true))]
def F6 (s : ByteArray) (r : List Int × List Int) : List FA := [.call 36 [vP r] (.t [vS s, vB true]), NS s]
def F7 (s0 : List Int) (u : List Int × List Int) (tx : ByteArray) (yes : Bool) : List FA := [.call 37 [.l (.by s0)] (.a (vP u)), .call 36 [vP u] (.t [vS tx, vB yes]), .call 38 [vP u] (.t [vS tx, vB yes]), NS tx]
def F8 (u : List Int × List Int) (tx : ByteArray) : List FA := [.call 34 [vS tx] (.t [vP u, vB true]), .call 29 [vP u, vP u] (.a (vB true))]
def Told (s0 s1 : List Int) : Prop :=
 ∃ (k : Nat) (m q fl mi a b j r u : List Int × List Int) (t n n1 n2 : Int) (ok one thr told twelve yes : Bool) (s tx : ByteArray),
  (laws_big.f s0 s1 = some false ∧ spec_DrawTurnMeander.f k s0 = some (m.1, m.2, t) ∧ impl_TurnMeander.f k m.1 m.2 t = some (q.1, q.2, ok) ∧ spec_TurnMeander.f k m.1 m.2 t = some (q.1, q.2, ok) ∧
   impl_FlipMeander.f k m.1 m.2 = some (fl.1, fl.2, one) ∧ spec_FlipMeander.f k m.1 m.2 = some (fl.1, fl.2, one) ∧ impl_MirrorMeander.f k m.1 m.2 = some (mi.1, mi.2, thr) ∧ spec_MirrorMeander.f k m.1 m.2 = some (mi.1, mi.2, thr) ∧
   laws_sSamePair.f k q.1 q.2 q.1 q.2 = some true ∧ laws_sSamePair.f k fl.1 fl.2 fl.1 fl.2 = some true ∧ laws_sSamePair.f k mi.1 mi.2 mi.1 mi.2 = some true) ∧
  (one = true → impl_ComponentsOf.f k m.1 m.2 = some (n, true) ∧ impl_ComponentsOf.f k fl.1 fl.2 = some (n, true) ∧ impl_ComponentsOf.f k mi.1 mi.2 = some (n, true) ∧ impl_FlipMeander.f k fl.1 fl.2 = some (m.1, m.2, true) ∧ impl_MirrorMeander.f k mi.1 mi.2 = some (m.1, m.2, true) ∧ laws_sSamePair.f k m.1 m.2 m.1 m.2 = some true ∧
   (ok = true → impl_ComponentsOf.f k q.1 q.2 = some (n, true) ∧ impl_TurnMeander.f k q.1 q.2 (wrap64 (-t)) = some (m.1, m.2, true))) ∧
  (spec_DrawJoinMeanders.f k s1 = some (a.1, a.2, b.1, b.2) ∧ impl_JoinMeanders.f k a.1 a.2 b.1 b.2 = some (j.1, j.2, told) ∧ spec_JoinMeanders.f k a.1 a.2 b.1 b.2 = some (j.1, j.2, told) ∧ laws_sSamePair.f k j.1 j.2 j.1 j.2 = some true) ∧
  (told = true → impl_ComponentsOf.f k a.1 a.2 = some (n1, true) ∧ impl_ComponentsOf.f k b.1 b.2 = some (n2, true) ∧ impl_ComponentsOf.f k j.1 j.2 = some (wrap64 (n1 + n2), true)) ∧
  (spec_DrawParseMeander.f k s1 = some s ∧ impl_ParseMeander.f k s = some (r.1, r.2, twelve) ∧ spec_ParseMeander.f k s = some (r.1, r.2, twelve) ∧ laws_sSamePair.f k r.1 r.2 r.1 r.2 = some true) ∧
  (twelve = true → impl_MeanderText.f k r.1 r.2 = some (s, true)) ∧
  (spec_DrawMeanderText.f k s0 = some (u.1, u.2) ∧ impl_MeanderText.f k u.1 u.2 = some (tx, yes) ∧ spec_MeanderText.f k u.1 u.2 = some (tx, yes)) ∧
  (yes = true → impl_ParseMeander.f k tx = some (u.1, u.2, true) ∧ laws_sSamePair.f k u.1 u.2 u.1 u.2 = some true)
theorem big_run (s0 s1 : List Int) : (LX.runs lore.fits lore.box Try.f4 [.l (.by s0), .l (.by s1)] [.call 5 [.l (.by s0), .l (.by s1)] (.a (vB true))]).bind (fun s => LX.look s.env 4) = some (.a (.v (.bool true))) ∧
  (LX.runs lore.fits lore.box Try.f4 [.l (.by s0), .l (.by s1)] [.call 5 [.l (.by s0), .l (.by s1)] (.a (vB true))]).map (·.el) = (LX.runs lore.fits lore.box Try.f4 [.l (.by s0), .l (.by s1)] [.call 5 [.l (.by s0), .l (.by s1)] (.a (vB true))]).map (·.er) := ⟨by kernel_rfl, by kernel_rfl⟩
def FF (s0 s1 : List Int) (m q fl mi a b j r u : List Int × List Int) (t n n1 n2 : Int) (ok one thr told twelve yes : Bool) (s tx : ByteArray) : List FA :=
 F0 s0 s1 m q fl mi t ok one thr ++ (cnd one (F1 m fl mi n ++ cnd ok (F2 m q t n)) ++ (F3 s1 a b j told ++ (cnd told (F4 a b j n1 n2) ++ (F5 s1 s r twelve ++ (cnd twelve (F6 s r) ++ (F7 s0 u tx yes ++ cnd yes (F8 u tx)))))))
theorem told_run (s0 s1 : List Int) (m q fl mi a b j r u : List Int × List Int) (t n n1 n2 : Int) (ok one thr told twelve yes : Bool) (s tx : ByteArray) :
  (LX.runs lore.fits lore.box Try.f4 [.l (.by s0), .l (.by s1)] (FF s0 s1 m q fl mi a b j r u t n n1 n2 ok one thr told twelve yes s tx)).bind (fun s => LX.look s.env 4) = some (.a (.v (.bool true))) := by
 cases one <;> cases ok <;> cases thr <;> cases told <;> cases twelve <;> cases yes <;> kernel_rfl
theorem told_eq (s0 s1 : List Int) (m q fl mi a b j r u : List Int × List Int) (t n n1 n2 : Int) (ok one thr told twelve yes : Bool) (s tx : ByteArray) :
  (LX.runs lore.fits lore.box Try.f4 [.l (.by s0), .l (.by s1)] (FF s0 s1 m q fl mi a b j r u t n n1 n2 ok one thr told twelve yes s tx)).map (·.el) = (LX.runs lore.fits lore.box Try.f4 [.l (.by s0), .l (.by s1)] (FF s0 s1 m q fl mi a b j r u t n n1 n2 ok one thr told twelve yes s tx)).map (·.er) := by
 cases one <;> cases ok <;> cases thr <;> cases told <;> cases twelve <;> cases yes <;> kernel_rfl
theorem law_calls (s0 s1 : List Int) (h : laws_big.f s0 s1 = some true ∨ Told s0 s1) {A0 A1 : Option Addr} {c0 c1 : Nat} {w : World} (hr0 : (Kd.int .u8).C w A0 s0.length s0) (hc0 : s0.length ≤ c0) (hr1 : (Kd.int .u8).C w A1 s1.length s1) (hc1 : s1.length ≤ c1) :
  Calls Try.prog 4 #[.slice A0 s0.length c0, .slice A1 s1.length c1] w fun e w' => e = .returned (.bool true) ∧ Below w.heap.size w w' := by
 have hargs : LX.All2 lore w [.slice A0 s0.length c0, .slice A1 s1.length c1] [.l (.by s0), .l (.by s1)] := ⟨⟨A0, c0, rfl, hc0, hr0⟩, ⟨A1, c1, rfl, hc1, hr1⟩, trivial⟩
 rcases h with h | ⟨k, m, q, fl, mi, a, b, j, r, u, t, n, n1, n2, ok, one, thr, told, twelve, yes, s, tx, ⟨a1, a2, a3, a4, a5, a6, a7, a8, a9, a10, a11⟩, hone, ⟨b1, b2, b3, b4⟩, htold, ⟨d1, d2, d3, d4⟩, htw, ⟨e1, e2, e3⟩, hyes⟩
 ·exact LX.law_ok lore Try.func4 (by kernel_rfl) (by kernel_rfl) (by kernel_rfl) w hargs (AllOK.mem (ck (ok5 h) <| nk)) (big_run s0 s1).1 (big_run s0 s1).2
 ·refine LX.law_ok lore Try.func4 (by kernel_rfl) (by kernel_rfl) (by kernel_rfl) w hargs (AllOK.mem ?_) (told_run s0 s1 m q fl mi a b j r u t n n1 n2 ok one thr told twelve yes s tx) (told_eq s0 s1 m q fl mi a b j r u t n n1 n2 ok one thr told twelve yes s tx)
  refine AllOK.app (ck (ok5 a1) <| ck (ok22 a2) <| ck (ok23 a3) <| ck (ok24 a4) <| ck (ok25 a5) <| ck (ok26 a6) <| ck (ok27 a7) <| ck (ok28 a8) <| ck (ok29 a9) <| ck (ok29 a10) <| ck (ok29 a11) <| nk) (AllOK.app (AllOK.cnd fun ho => ?_) (AllOK.app (ck (ok30 b1) <| ck (ok31 b2) <| ck (ok32 b3) <| ck (ok29 b4) <| nk) (AllOK.app (AllOK.cnd fun ht => ?_) (AllOK.app (ck (ok33 d1) <| ck (ok34 d2) <| ck (ok35 d3) <| ck (ok29 d4) <| nk) (AllOK.app (AllOK.cnd fun h12 => (ck (ok36 (htw h12)) <| ck (ne_text s) <| nk)) (AllOK.app (ck (ok37 e1) <| ck (ok36 e2) <| ck (ok38 e3) <| ck (ne_text tx) <| nk) (AllOK.cnd fun hy => (ck (ok34 (hyes hy).1) <| ck (ok29 (hyes hy).2) <| nk))))))))
  ·obtain ⟨c1, c2, c3, c4, c5, c6, hok⟩ := hone ho
   refine AllOK.app (ck (ok9 c1) <| ck (ok9 c2) <| ck (ok9 c3) <| ck (ok25 c4) <| ck (ok27 c5) <| ck (ne_same n) <| ck (ne_same n) <| ck (ok29 c6) <| ck (ok29 c6) <| nk) (AllOK.cnd fun hk => (ck (ok9 (hok hk).1) <| ck (neg_ok t) <| ck (ok23 (hok hk).2) <| ck (ne_same n) <| ck (ok29 c6) <| nk))
  ·obtain ⟨c1, c2, c3⟩ := htold ht
   exact (ck (ok9 c1) <| ck (ok9 c2) <| ck (ok9 c3) <| ck (add_ok n1 n2) <| ck (ne_same _) <| nk)
def laws_FnPairsMoved.Pure : Prop := ∀ (l0 : List Int) (l1 : List Int), l0.length ≤ maxLen → l0.length * 1 ≤ 140737488351232 → (∀ x ∈ l0, (Lit.int .u8 x).wf = true) → l1.length ≤ maxLen → l1.length * 1 ≤ 140737488351232 → (∀ x ∈ l1, (Lit.int .u8 x).wf = true) → laws_big.f l0 l1 = some true ∨ Told l0 l1
theorem laws_FnPairsMoved.walk (P : laws_FnPairsMoved.Pure) (a0 : Option Addr) (len0 cap0 : Nat) (z0 : List Int) (a1 : Option Addr) (len1 cap1 : Nat) (z1 : List Int) (w : World) (w0 : (a0 = none ∧ len0 = 0 ∧ cap0 = 0 ∧ z0 = []) ∨ ∃ x, a0 = some x ∧ len0 ≤ cap0 ∧ cap0 ≤ maxLen ∧ z0.length = cap0 ∧ (∀ i, i < z0.length → w.cell? (x.add i) = some (.int .u8 (z0.getD i 0))) ∧ ∀ n ∈ z0, (Lit.int .u8 n).wf = true) (y0 : len0 * 1 ≤ 140737488351232)
  (w1 : (a1 = none ∧ len1 = 0 ∧ cap1 = 0 ∧ z1 = []) ∨ ∃ x, a1 = some x ∧ len1 ≤ cap1 ∧ cap1 ≤ maxLen ∧ z1.length = cap1 ∧ (∀ i, i < z1.length → w.cell? (x.add i) = some (.int .u8 (z1.getD i 0))) ∧ ∀ n ∈ z1, (Lit.int .u8 n).wf = true) (y1 : len1 * 1 ≤ 140737488351232) :
  Calls Try.prog 4 #[.slice a0 len0 cap0, .slice a1 len1 cap1] w fun e w' => e = .returned (.bool true) ∧ Below w.heap.size w w' := by
 obtain ⟨l0, rfl, hr0, hm0, hw0, hc0⟩ := ReadsInt.ofRowC w0
 obtain ⟨l1, rfl, hr1, hm1, hw1, hc1⟩ := ReadsInt.ofRowC w1
 exact law_calls l0 l1 (P l0 l1 hm0 y0 hw0 hm1 y1 hw1) (Kd.C_of_reads (d := (0 : Int)) (h1 := fun _ => rfl) hr0) hc0 (Kd.C_of_reads (d := (0 : Int)) (h1 := fun _ => rfl) hr1) hc1
end Go.Proofs.Ytfencncopkeobaa.QFnPairsMoved
