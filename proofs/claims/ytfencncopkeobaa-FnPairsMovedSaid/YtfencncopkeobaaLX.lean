/- A law's body run in the kernel: a run of told values answers for the machine's. Conditions: as each statement bears them. -/
import Derived.Test.YtfencncopkeobaaWWords
import Derived.Test.YtfencncopkeobaaWLast
namespace Go.Proofs.Ytfencncopkeobaa.LX
open Go.RowKit Go.Proofs.YtfencncopkeobaaW.PrintWords Go.Proofs.YtfencncopkeobaaW.PrintLast
set_option linter.unusedVariables false
inductive A0 (L : Type) where
 | v (x : Value)
 | l (x : L)
inductive AV (L : Type) where
 | a (x : A0 L)
 | t (xs : List (A0 L))
 | b (i : Nat)
inductive Fact (L : Type) where
 | call (f : FuncId) (args : List (A0 L)) (r : AV L)
 | bin (b : BinOp) (t u : Nat) (x y r : Value)
 | un (b : UnOp) (t : Nat) (x r : Value)
inductive Qu (L : Type) where
 | call (xs : List (A0 L))
 | bin (b : BinOp) (t u : Nat) (xs : List (A0 L))
 | un (b : UnOp) (t : Nat) (xs : List (A0 L))
structure St (L : Type) where
 env : List (Nat × AV L)
 bx : List (Nat × Option (A0 L))
 ask : List (Fact L)
 el : List (Qu L)
 er : List (Qu L)
structure Lore (P : Program) (L : Type) where
 Rel : L → World → Value → Prop
 mono : ∀ {l : L} {w w1 : World} {v : Value}, Rel l w v → Below w.heap.size w w1 → Rel l w1 v
 bool4 : P.underlying 4 = some .bool
 box : Nat → Option Nat
 fits : L → Nat → Bool
 shape : ∀ {l : L} {w : World} {v : Value} {t n : Nat}, Rel l w v → fits l t = true → box t = some n → ∃ cs : Array Value, v = .agg cs ∧ cs.size = n ∧ ∀ c ∈ cs, c.oneCell' = true
 alloc : ∀ {t n : Nat}, box t = some n → ∃ z : Array Value, z.size = n ∧ ∀ w, (Instr.alloc t true (.tuple #[])).run P w = .ok (.pointer (some ⟨w.heap.size, 0, none⟩)) (w.alloc (.cells z t (0, 0)))
 load : ∀ {t n : Nat}, box t = some n → ∀ {w : World} {g : Nat} {cs : Array Value}, w.heap[g]? = some (.cells cs t (0, 0)) → cs.size = n → (Instr.loadAt t (.pointer (some ⟨g, 0, none⟩))).run P w = .ok (.agg cs) w
 store : ∀ {t n : Nat}, box t = some n → ∀ {w : World} {g : Nat} {cs ds : Array Value}, w.heap[g]? = some (.cells cs t (0, 0)) → cs.size = n → ds.size = n → (∀ c ∈ ds, c.oneCell' = true) → ∃ w1, (Instr.storeAt t (.pointer (some ⟨g, 0, none⟩)) (.agg ds)).run P w = .ok () w1 ∧ w1.heap[g]? = some (.cells ds t (0, 0)) ∧ (∀ k, k ≠ g → w1.heap[k]? = w.heap[k]?) ∧ Below g w w1
section
variable {P : Program} {L : Type} (T : Lore P L)
def R0 (w : World) (v : Value) : A0 L → Prop
 | .v x => v = x
 | .l x => T.Rel x w v
def RV (bs : List Nat) (w : World) (v : Value) : AV L → Prop
 | .a x => R0 T w v x
 | .t xs => ∃ vs : List Value, v = .tuple vs.toArray ∧ ∀ (i : Nat) (x : A0 L), xs[i]? = some x → ∃ y, vs[i]? = some y ∧ R0 T w y x
 | .b i => ∃ g, bs[i]? = some g ∧ v = .pointer (some ⟨g, 0, none⟩)
theorem R0.mono {w w1 : World} {v : Value} {x : A0 L} (h : R0 T w v x) (hb : Below w.heap.size w w1) : R0 T w1 v x := by
 cases x with
 | v x => exact h
 | l x => exact T.mono h hb
theorem RV.mono {bs : List Nat} {w w1 : World} {v : Value} {x : AV L} (h : RV T bs w v x) (hb : Below w.heap.size w w1) : RV T bs w1 v x := by
 cases x with
 | a x => exact R0.mono T h hb
 | t xs =>
  obtain ⟨vs, e, h⟩ := h
  refine ⟨vs, e, fun i x hx => ?_⟩
  obtain ⟨y, hy, hr⟩ := h i x hx
  exact ⟨y, hy, R0.mono T hr hb⟩
 | b i => exact h
theorem RV.more {bs : List Nat} {g : Nat} {w : World} {v : Value} {x : AV L} (h : RV T bs w v x) : RV T (bs ++ [g]) w v x := by
 cases x with
 | a x => exact h
 | t xs => exact h
 | b i =>
  obtain ⟨k, hk, e⟩ := h
  refine ⟨k, ?_, e⟩
  rw [List.getElem?_append_left (List.getElem?_eq_some_iff.1 hk).1]
  exact hk
def All2 (w : World) : List Value → List (A0 L) → Prop
 | [], [] => True
 | v :: vs, x :: xs => R0 T w v x ∧ All2 w vs xs
 | _, _ => False
def Fact.OK : Fact L → Prop
 | .call f args r => (∃ fn, P.funcs[f]? = some fn ∧ (fn.name == "runtime.NumGoroutine") = false ∧ fn.body.isSome = true) ∧
   ∀ (w : World) (vs : List Value), All2 T w vs args → Calls P f vs.toArray w fun e w' => ∃ v, e = .returned v ∧ RV T [] w' v r ∧ Below w.heap.size w w'
 | .bin b t u x y r => ∀ (ρ : Operand → Value) (w : World) (d : Oper) (p q : Operand), d.op = .binOp b t p q u → ρ p = x → ρ q = y → (execOp ρ d).run P w = .ok (.value r) w
 | .un b t x r => ∀ (ρ : Operand → Value) (w : World) (d : Oper) (p : Operand), d.op = .unOp b t p → ρ p = x → (execOp ρ d).run P w = .ok (.value r) w
def AV.dry : AV L → Bool
 | .b _ => false
 | _ => true
theorem RV.dry {bs cs : List Nat} {w : World} {v : Value} {x : AV L} (hd : x.dry = true) (h : RV T bs w v x) : RV T cs w v x := by
 cases x with
 | a x => exact h
 | t xs => exact h
 | b i => simp [AV.dry] at hd
end
section
variable {L : Type}
def look : List (Nat × AV L) → Nat → Option (AV L)
 | [], _ => none
 | (k, x) :: r, t => bif Nat.beq k t then some x else look r t
def St.opd (s : St L) : Operand → Option (AV L)
 | .tmp t => look s.env t
 | .const v => some (.a (.v v))
 | .func f => some (.a (.v (.func (.func f) #[] #[])))
 | .global _ => none
def St.put (n : Nat) (s : St L) (d : Option Nat) (x : AV L) : Option (St L) :=
 match d with
 | none => some s
 | some d => bif Nat.blt d n then some { s with env := (d, x) :: s.env } else none
def St.vals (s : St L) : List Operand → Option (List (A0 L))
 | [] => some []
 | o :: r => match s.opd o with
  | some (.a x) => (s.vals r).map (x :: ·)
  | _ => none
def full : List (Nat × Option (A0 L)) → Bool
 | [] => true
 | (_, none) :: _ => false
 | (_, some _) :: r => full r
def dstNone : Option Nat → Bool
 | none => true
 | some _ => false
def fit (fits : L → Nat → Bool) (x : A0 L) (t : Nat) : Bool :=
 match x with
 | .v _ => false
 | .l x => fits x t
def told (n : Nat) (o : Oper) (s : St L) : Option (St L) :=
 match s.ask with
 | .call f xs r :: rest => match o.op with
  | .call { callee := .value (.func f'), args := as, .. } => match s.vals as.toList with
   | some ys => bif Nat.beq f f' && (full s.bx && r.dry) then St.put n { s with ask := rest, el := .call ys :: s.el, er := .call xs :: s.er } o.dst r else none
   | none => none
  | _ => none
 | .bin b t u x y r :: rest => match o.op with
  | .binOp b' t' p q u' => match s.vals [p, q] with
   | some ys => St.put n { s with ask := rest, el := .bin b' t' u' ys :: s.el, er := .bin b t u [.v x, .v y] :: s.er } o.dst (.a (.v r))
   | none => none
  | _ => none
 | .un b t x r :: rest => match o.op with
  | .unOp b' t' p => match s.vals [p] with
   | some ys => St.put n { s with ask := rest, el := .un b' t' ys :: s.el, er := .un b t [.v x] :: s.er } o.dst (.a (.v r))
   | none => none
  | _ => none
 | [] => none
def exec1 (fits : L → Nat → Bool) (box : Nat → Option Nat) (n : Nat) (o : Oper) (s : St L) : Option (St L) :=
 match o.op with
 | .move x => (s.opd x).bind fun v => s.put n o.dst v
 | .assign x => (s.opd x).bind fun v => s.put n o.dst v
 | .pick c x y => match s.opd c with
  | some (.a (.v (.bool true))) => (s.opd x).bind fun v => s.put n o.dst v
  | some (.a (.v (.bool false))) => (s.opd y).bind fun v => s.put n o.dst v
  | _ => none
 | .extract x i => match s.opd x with
  | some (.t xs) => (xs[i]?).bind fun v => s.put n o.dst (.a v)
  | _ => none
 | .alloc t => bif (box t).isSome then St.put n { s with bx := s.bx ++ [(t, none)] } o.dst (.b s.bx.length) else none
 | .store t (.tmp p) x => match s.opd (.tmp p), s.opd x with
  | some (.b i), some (.a v) => match s.bx[i]? with
   | some (u, none) => bif Nat.beq t u && (fit fits v t && dstNone o.dst) then some { s with bx := s.bx.set i (t, some v) } else none
   | _ => none
  | _, _ => none
 | .load t x => match s.opd x with
  | some (.b i) => match s.bx[i]? with
   | some (u, some v) => bif Nat.beq t u then s.put n o.dst (.a v) else none
   | _ => none
  | _ => none
 | .unOp .not _ x => match s.opd x with
  | some (.a (.v (.bool b))) => s.put n o.dst (.a (.v (.bool (!b))))
  | _ => none
 | .binOp .neq 4 x y 4 => match s.opd x, s.opd y with
  | some (.a (.v (.bool b))), some (.a (.v (.bool c))) => s.put n o.dst (.a (.v (.bool (b != c))))
  | _, _ => none
 | _ => told n o s
def wantd (ops : Array Oper) (o : Oper) (s : St L) : Option Bool :=
 match o.guard with
 | none => some true
 | some (j, want) => match (ops[j]?).bind (·.dst) with
  | some d => match look s.env d with
   | some (.a (.v (.bool b))) => some (b == want)
   | some (.a (.v (.tuple _))) => some false
   | _ => none
  | none => none
def execOps (fits : L → Nat → Bool) (box : Nat → Option Nat) (n : Nat) (ops : Array Oper) : List Oper → St L → Option (St L)
 | [], s => some s
 | o :: r, s => match wantd ops o s with
  | some true => (exec1 fits box n o s).bind (execOps fits box n ops r)
  | some false => (s.put n o.dst (.a (.v undef))).bind (execOps fits box n ops r)
  | none => none
inductive Ex where
 | go
 | out (id : Nat)
 | ret
def exec (fits : L → Nat → Bool) (box : Nat → Option Nat) (n : Nat) : Code → St L → Option (Ex × St L)
 | .skip, s => some (.go, s)
 | .region _ ops false, s => (execOps fits box n ops ops.toList s).map ((.go, ·))
 | .seq a b, s => match exec fits box n a s with
  | some (.go, s1) => exec fits box n b s1
  | some (.out id, s1) => some (.out id, s1)
  | some (.ret, s1) => some (.ret, s1)
  | none => none
 | .cond c a b, s => match s.opd c with
  | some (.a (.v (.bool true))) => exec fits box n a s
  | some (.a (.v (.bool false))) => exec fits box n b s
  | _ => none
 | .block id c, s => match exec fits box n c s with
  | some (.out k, s1) => bif Nat.beq k id then some (.go, s1) else some (.out k, s1)
  | some (.go, s1) => some (.go, s1)
  | some (.ret, s1) => some (.ret, s1)
  | none => none
 | .exit id, s => some (.out id, s)
 | .ret, s => some (.ret, s)
 | _, _ => none
end
section
variable {P : Program} {L : Type} (T : Lore P L)
structure Sim (n : Nat) (w0 : World) (s : St L) (bs : List Nat) (wS : World) (a : Act) (w : World) : Prop where
 size : a.tmps.size = n
 defers : a.defers = []
 below : Below w0.heap.size w0 wS
 now : Below wS.heap.size wS w
 len : bs.length = s.bx.length
 apart : ∀ i j g : Nat, bs[i]? = some g → bs[j]? = some g → i = j
 env : ∀ t x, look s.env t = some x → RV T bs wS (a.tmps.getD t undef) x
 open_ : ∀ i t : Nat, s.bx[i]? = some (t, none) → ∃ g m, ∃ cs : Array Value, bs[i]? = some g ∧ T.box t = some m ∧ cs.size = m ∧ wS.heap.size ≤ g ∧ w.heap[g]? = some (.cells cs t (0, 0))
 shut : ∀ (i t : Nat) (x : A0 L), s.bx[i]? = some (t, some x) → ∃ g m, ∃ cs : Array Value, bs[i]? = some g ∧ T.box t = some m ∧ cs.size = m ∧ w.heap[g]? = some (.cells cs t (0, 0)) ∧ R0 T wS (.agg cs) x
 facts : ∀ f ∈ s.ask, f.OK T
variable {T} {n : Nat} {w0 : World} {s : St L} {bs : List Nat} {wS : World} {a : Act} {w : World}
theorem Sim.opd (h : Sim T n w0 s bs wS a w) {o : Operand} {x : AV L} (ho : s.opd o = some x) : RV T bs wS (a.eval o) x := by
 cases o with
 | tmp t => exact h.env t x ho
 | const v => cases ho; rfl
 | func f => cases ho; rfl
 | global g => cases ho
theorem Sim.vals (h : Sim T n w0 s bs wS a w) : ∀ {os : List Operand} {xs : List (A0 L)}, s.vals os = some xs → All2 T wS (os.map a.eval) xs
 | [], xs, e => by cases e; trivial
 | o :: r, xs, e => by
  unfold St.vals at e
  split at e
  ·rename_i x hx
   obtain ⟨ys, hy, rfl⟩ := Option.map_eq_some_iff.1 e
   exact ⟨h.opd hx, h.vals hy⟩
  ·cases e
theorem All2.mono {w1 : World} : ∀ {vs : List Value} {xs : List (A0 L)}, All2 T w vs xs → Below w.heap.size w w1 → All2 T w1 vs xs
 | [], [], _, _ => trivial
 | _ :: _, _ :: _, h, hb => ⟨R0.mono T h.1 hb, h.2.mono hb⟩
 | [], _ :: _, h, _ => h.elim
 | _ :: _, [], h, _ => h.elim
theorem All2.vals : ∀ {vs : List Value} {xs : List Value}, All2 T w vs (xs.map .v) → vs = xs
 | [], [], _ => rfl
 | v :: vs, x :: xs, h => by
  have h1 : v = x := h.1
  rw [h1, h.2.vals]
 | [], _ :: _, h => h.elim
 | _ :: _, [], h => h.elim
theorem getD_put (a : Act) (d t : Nat) (v : Value) (hd : d < a.tmps.size) : (a.put (some d) v).tmps.getD t undef = if d = t then v else a.tmps.getD t undef := by
 unfold Act.put
 simp only [Array.getD_eq_getD_getElem?, Array.getElem?_setIfInBounds]
 by_cases e : d = t
 ·subst e; simp [hd]
 ·simp [e]
theorem Sim.put (h : Sim T n w0 s bs wS a w) {d : Option Nat} {x : AV L} {s1 : St L} (hp : s.put n d x = some s1) {v : Value} (hv : RV T bs wS v x) : Sim T n w0 s1 bs wS (a.put d v) w ∧ s1.el = s.el ∧ s1.er = s.er := by
 unfold St.put at hp
 cases d with
 | none => cases hp; exact ⟨h, rfl, rfl⟩
 | some d =>
  dsimp only at hp
  cases hlt : Nat.blt d n with
  | false => rw [hlt] at hp; cases hp
  | true =>
   rw [hlt] at hp
   cases hp
   have hd : d < a.tmps.size := by rw [h.size]; simpa [Nat.blt_eq] using hlt
   refine ⟨⟨?_, h.defers, h.below, h.now, h.len, h.apart, ?_, h.open_, h.shut, h.facts⟩, rfl, rfl⟩
   ·show (a.tmps.setIfInBounds d v).size = n
    rw [Array.size_setIfInBounds, h.size]
   ·intro t x' hx
    rw [getD_put a d t v hd]
    unfold look at hx
    cases hk : Nat.beq d t with
    | true =>
     rw [hk] at hx
     cases hx
     rw [if_pos (Nat.eq_of_beq_eq_true hk)]
     exact hv
    | false =>
     rw [hk] at hx
     rw [if_neg (Nat.ne_of_beq_eq_false hk)]
     exact h.env t x' hx
end
section
variable {P : Program} {L : Type} {T : Lore P L} {n : Nat} {w0 : World} {s s1 : St L} {bs : List Nat} {wS : World} {a : Act} {w : World} {K : Act → World → Prop} {Q : Exit → Act → World → Prop} {o : Oper}
theorem put_eq {d : Option Nat} {x : AV L} (h : s.put n d x = some s1) : s1.el = s.el ∧ s1.er = s.er ∧ s1.ask = s.ask ∧ s1.bx = s.bx := by
 unfold St.put at h
 cases d with
 | none => cases h; exact ⟨rfl, rfl, rfl, rfl⟩
 | some d =>
  dsimp only at h
  cases hlt : Nat.blt d n with
  | false => rw [hlt] at h; cases h
  | true => rw [hlt] at h; cases h; exact ⟨rfl, rfl, rfl, rfl⟩
theorem put_back {d : Option Nat} {x : AV L} (h : s.put n d x = some s1) (e : s1.el = s1.er) : s.el = s.er := by
 obtain ⟨e1, e2, _, _⟩ := put_eq h
 rw [← e1, ← e2]; exact e
theorem told_back (h : told n o s = some s1) (e : s1.el = s1.er) : s.el = s.er := by
 unfold told at h
 split at h
 ·split at h
  ·split at h
   ·rename_i ys _
    cases hc : (Nat.beq _ _ && (full s.bx && AV.dry _) : Bool) with
    | false => rw [hc] at h; cases h
    | true =>
     rw [hc] at h
     have e1 := put_back h e
     exact (List.cons.inj e1).2
   ·cases h
  ·cases h
 ·split at h
  ·split at h
   ·have e1 := put_back h e
    exact (List.cons.inj e1).2
   ·cases h
  ·cases h
 ·split at h
  ·split at h
   ·have e1 := put_back h e
    exact (List.cons.inj e1).2
   ·cases h
  ·cases h
 ·cases h
theorem bind_back {β : Type} {x : Option β} {f : β → Option (St L)} (hf : ∀ v s2, f v = some s2 → s2.el = s2.er → s.el = s.er) (h : x.bind f = some s1) (e : s1.el = s1.er) : s.el = s.er := by
 cases x with
 | none => cases h
 | some v => exact hf v s1 h e
theorem exec1_back {fits : L → Nat → Bool} {box : Nat → Option Nat} (h : exec1 fits box n o s = some s1) (e : s1.el = s1.er) : s.el = s.er := by
 unfold exec1 at h
 split at h
 ·exact bind_back (fun v s2 hv => put_back hv) h e
 ·exact bind_back (fun v s2 hv => put_back hv) h e
 ·split at h
  ·exact bind_back (fun v s2 hv => put_back hv) h e
  ·exact bind_back (fun v s2 hv => put_back hv) h e
  ·cases h
 ·split at h
  ·exact bind_back (fun v s2 hv => put_back hv) h e
  ·cases h
 ·rename_i t _
  cases hb : (box t).isSome with
  | false => rw [hb] at h; cases h
  | true =>
   rw [hb, cond_true] at h
   obtain ⟨e1, e2, _, _⟩ := put_eq h
   rw [e1, e2] at e
   exact e
 ·split at h
  ·split at h
   ·cases hc : (Nat.beq _ _ && (fit fits _ _ && dstNone o.dst) : Bool) with
    | false => rw [hc] at h; cases h
    | true => rw [hc] at h; cases h; exact e
   ·cases h
  ·cases h
 ·split at h
  ·split at h
   ·cases hc : Nat.beq _ _ with
    | false => rw [hc] at h; cases h
    | true => rw [hc] at h; exact put_back h e
   ·cases h
  ·cases h
 ·split at h
  ·exact put_back h e
  ·cases h
 ·split at h
  ·exact put_back h e
  ·cases h
 ·exact told_back h e
end
section
variable {P : Program} {L : Type} {T : Lore P L} {n : Nat} {w0 : World} {s s1 : St L} {bs : List Nat} {wS : World} {a : Act} {w : World} {K : Act → World → Prop} {Q : Exit → Act → World → Prop} {o : Oper}
theorem full_all : ∀ {l : List (Nat × Option (A0 L))}, full l = true → ∀ (i t : Nat), l[i]? ≠ some (t, (none : Option (A0 L)))
 | [], _, i, t => by simp
 | (u, none) :: r, h, i, t => by simp [full] at h
 | (u, some x) :: r, h, i, t => by
  cases i with
  | zero => simp
  | succ i => rw [List.getElem?_cons_succ]; exact full_all (by simpa [full] using h) i t
theorem wp_value {v : Value} (hrun : (execOp a.eval o).run P w = .ok (.value v) w) (hK : K (a.put o.dst v) w) : Oper.wp P o a w K Q := by
 unfold Oper.wp
 rw [hrun]
 exact hK
theorem told_ok (h : Sim T n w0 s bs wS a w) (he : told n o s = some s1) (heq : s1.el = s1.er) (hK : ∀ a1 w1 bs1 wS1, Sim T n w0 s1 bs1 wS1 a1 w1 → K a1 w1) : Oper.wp P o a w K Q := by
 unfold told at he
 split at he
 ·rename_i f xs r rest hask
  split at he
  ·rename_i f' as ts hop
   split at he
   ·rename_i ys hys
    cases hc : (Nat.beq f f' && (full s.bx && AV.dry r) : Bool) with
    | false => rw [hc] at he; cases he
    | true =>
     rw [hc, cond_true] at he
     simp only [Bool.and_eq_true] at hc
     obtain ⟨hf, hfull, hdry⟩ := hc
     have hf := Nat.eq_of_beq_eq_true hf
     subst hf
     obtain ⟨e1, e2, _, _⟩ := put_eq he
     rw [e1, e2] at heq
     have hxy : ys = xs := Qu.call.inj (List.cons.inj heq).1
     subst hxy
     obtain ⟨⟨fn, hfn, hname, hbody⟩, hcall⟩ := (h.facts _ (by rw [hask]; exact List.mem_cons_self ..) : Fact.OK T (.call f ys r))
     have hall := (h.vals hys).mono h.now
     have hrun : (execOp a.eval o).run P w = .ok (.enter f (as.map a.eval)) w := by
      have he := enters_ (P := P) hfn hname hbody (as.map a.eval) w
      unfold execOp
      simp [hop, resolve, Deferred.ofValue, invoke, Act.eval, he]
     have hc := hcall w _ hall
     have harr : (as.toList.map a.eval).toArray = as.map a.eval := by
      apply Array.ext'
      simp
     rw [harr] at hc
     unfold Oper.wp
     rw [hrun, Oper.upon_enter]
     refine hc.mono fun e w' hh => ?_
     obtain ⟨v, rfl, hr, hb⟩ := hh
     have hbS : Below wS.heap.size wS w' := h.now.trans (hb.mono h.now.size)
     have hsim : Sim T n w0 { s with ask := rest, el := .call ys :: s.el, er := .call ys :: s.er } bs w' a w' := by
      refine ⟨h.size, h.defers, h.below.trans (hbS.mono h.below.size), Below.refl _ _, h.len, h.apart, fun t x hx => RV.mono T (h.env t x hx) hbS, ?_, ?_, fun f hf => h.facts f (by rw [hask]; exact List.mem_cons_of_mem _ hf)⟩
      ·intro i t hx
       exact absurd hx (full_all hfull i t)
      ·intro i t x hx
       obtain ⟨g, m, cs, h1, h2, h3, h4, h5⟩ := h.shut i t x hx
       exact ⟨g, m, cs, h1, h2, h3, (hb.block g (Array.getElem?_eq_some_iff.1 h4).1).trans h4, R0.mono T h5 hbS⟩
     exact hK _ _ _ _ (hsim.put he (RV.dry T hdry hr)).1
   ·cases he
  ·cases he
 ·rename_i b t u x y r rest hask
  split at he
  ·rename_i b' t' p q u' hop
   split at he
   ·rename_i ys hys
    obtain ⟨e1, e2, _, _⟩ := put_eq he
    rw [e1, e2] at heq
    obtain ⟨rfl, rfl, rfl, hxy⟩ := Qu.bin.inj (List.cons.inj heq).1
    subst hxy
    have hv := h.vals hys
    have hx : a.eval p = x := hv.1
    have hy : a.eval q = y := hv.2.1
    have hok := (h.facts _ (by rw [hask]; exact List.mem_cons_self ..) : Fact.OK T (.bin b' t' u' x y r)) a.eval w o p q hop hx hy
    have hsim : Sim T n w0 { s with ask := rest, el := .bin b' t' u' [.v x, .v y] :: s.el, er := .bin b' t' u' [.v x, .v y] :: s.er } bs wS a w :=
     ⟨h.size, h.defers, h.below, h.now, h.len, h.apart, h.env, h.open_, h.shut, fun f hf => h.facts f (by rw [hask]; exact List.mem_cons_of_mem _ hf)⟩
    exact wp_value hok (hK _ _ _ _ (hsim.put he rfl).1)
   ·cases he
  ·cases he
 ·rename_i b t x r rest hask
  split at he
  ·rename_i b' t' p hop
   split at he
   ·rename_i ys hys
    obtain ⟨e1, e2, _, _⟩ := put_eq he
    rw [e1, e2] at heq
    obtain ⟨rfl, rfl, hxy⟩ := Qu.un.inj (List.cons.inj heq).1
    subst hxy
    have hv := h.vals hys
    have hx : a.eval p = x := hv.1
    have hok := (h.facts _ (by rw [hask]; exact List.mem_cons_self ..) : Fact.OK T (.un b' t' x r)) a.eval w o p hop hx
    have hsim : Sim T n w0 { s with ask := rest, el := .un b' t' [.v x] :: s.el, er := .un b' t' [.v x] :: s.er } bs wS a w :=
     ⟨h.size, h.defers, h.below, h.now, h.len, h.apart, h.env, h.open_, h.shut, fun f hf => h.facts f (by rw [hask]; exact List.mem_cons_of_mem _ hf)⟩
    exact wp_value hok (hK _ _ _ _ (hsim.put he rfl).1)
   ·cases he
  ·cases he
 ·cases he
end
section
variable {P : Program} {L : Type} {T : Lore P L} {n : Nat} {w0 : World} {s s1 : St L} {bs : List Nat} {wS : World} {a : Act} {w : World} {K : Act → World → Prop} {Q : Exit → Act → World → Prop} {o : Oper}
theorem val_ok (h : Sim T n w0 s bs wS a w) (hK : ∀ a1 w1 bs1 wS1, Sim T n w0 s1 bs1 wS1 a1 w1 → K a1 w1) {x : AV L} {v : Value} (he : s.put n o.dst x = some s1) (hv : RV T bs wS v x) (hrun : (execOp a.eval o).run P w = .ok (.value v) w) : Oper.wp P o a w K Q :=
 wp_value hrun (hK _ _ _ _ (h.put he hv).1)
theorem exec1_ok (h : Sim T n w0 s bs wS a w) (he : exec1 T.fits T.box n o s = some s1) (heq : s1.el = s1.er) (hK : ∀ a1 w1 bs1 wS1, Sim T n w0 s1 bs1 wS1 a1 w1 → K a1 w1) : Oper.wp P o a w K Q := by
 unfold exec1 at he
 split at he
 ·rename_i x hop
  cases hx : s.opd x with
  | none => rw [hx] at he; cases he
  | some v => rw [hx] at he; exact val_ok h hK he (h.opd hx) (by unfold execOp; simp [hop])
 ·rename_i x hop
  cases hx : s.opd x with
  | none => rw [hx] at he; cases he
  | some v => rw [hx] at he; exact val_ok h hK he (h.opd hx) (by unfold execOp; simp [hop])
 ·rename_i c x y hop
  split at he
  ·rename_i hc
   have hcv : a.eval c = .bool true := h.opd hc
   cases hx : s.opd x with
   | none => rw [hx] at he; cases he
   | some v => rw [hx] at he; exact val_ok h hK he (h.opd hx) (by unfold execOp; simp [hop, hcv, asBool])
  ·rename_i hc
   have hcv : a.eval c = .bool false := h.opd hc
   cases hx : s.opd y with
   | none => rw [hx] at he; cases he
   | some v => rw [hx] at he; exact val_ok h hK he (h.opd hx) (by unfold execOp; simp [hop, hcv, asBool])
  ·cases he
 ·rename_i x i hop
  split at he
  ·rename_i xs hx
   obtain ⟨vs, hv, hvs⟩ := (h.opd hx : RV T bs wS (a.eval x) (.t xs))
   cases hi : xs[i]? with
   | none => rw [hi] at he; cases he
   | some y =>
    rw [hi] at he
    obtain ⟨z, hz, hr⟩ := hvs i y hi
    exact val_ok h hK he (v := z) hr (by unfold execOp; simp [hop, hv, Instr.extract, hz])
  ·cases he
 ·rename_i t hop
  cases hb : T.box t with
  | none => rw [hb] at he; cases he
  | some m =>
   rw [hb, Option.isSome_some, cond_true] at he
   obtain ⟨z, hz, hrun⟩ := T.alloc hb
   have hlt : ∀ g, g < w.heap.size → (w.alloc (.cells z t (0, 0))).heap[g]? = w.heap[g]? := fun g hg => Below.heap_alloc _ _ _ hg
   have hnew : (w.alloc (.cells z t (0, 0))).heap[w.heap.size]? = some (.cells z t (0, 0)) := by
    show (w.heap.push _)[w.heap.size]? = _
    rw [Array.getElem?_push, if_pos rfl]
   have hold : ∀ {i g : Nat}, bs[i]? = some g → g < w.heap.size := by
    intro i g hg
    have hi : i < s.bx.length := by rw [← h.len]; exact (List.getElem?_eq_some_iff.1 hg).1
    obtain ⟨⟨u, c⟩, hu⟩ : ∃ x, s.bx[i]? = some x := ⟨_, List.getElem?_eq_getElem hi⟩
    cases c with
    | none =>
     obtain ⟨g', _, cs, h1, _, _, _, h4⟩ := h.open_ i u hu
     rw [hg] at h1; cases h1
     exact (Array.getElem?_eq_some_iff.1 h4).1
    | some x =>
     obtain ⟨g', _, cs, h1, _, _, h4, _⟩ := h.shut i u x hu
     rw [hg] at h1; cases h1
     exact (Array.getElem?_eq_some_iff.1 h4).1
   have hsim : Sim T n w0 { s with bx := s.bx ++ [(t, none)] } (bs ++ [w.heap.size]) wS a (w.alloc (.cells z t (0, 0))) := by
    refine ⟨h.size, h.defers, h.below, below_alloc h.now _, by simp [h.len], ?_, fun t x hx => RV.more T (h.env t x hx), ?_, ?_, h.facts⟩
    ·intro i j g hi hj
     rw [List.getElem?_append] at hi hj
     split at hi <;> split at hj
     ·exact h.apart i j g hi hj
     ·have := hold hi
      rename_i h1 h2
      have hj' := (List.getElem?_eq_some_iff.1 hj).1
      simp at hj'
      rw [List.getElem?_singleton] at hj
      split at hj <;> first | (cases hj; omega) | cases hj
     ·have := hold hj
      rename_i h1 h2
      rw [List.getElem?_singleton] at hi
      split at hi <;> first | (cases hi; omega) | cases hi
     ·rename_i h1 h2
      rw [List.getElem?_singleton] at hi hj
      split at hi <;> split at hj
      ·omega
      ·cases hj
      ·cases hi
      ·cases hi
    ·intro i u hu
     rw [List.getElem?_append] at hu
     split at hu
     ·obtain ⟨g, m, cs, h1, h2, h3, h4, h5⟩ := h.open_ i u hu
      refine ⟨g, m, cs, ?_, h2, h3, h4, ?_⟩
      ·rw [List.getElem?_append_left (List.getElem?_eq_some_iff.1 h1).1]; exact h1
      ·rw [hlt g (hold h1)]; exact h5
     ·rename_i hi
      rw [List.getElem?_singleton] at hu
      split at hu
      ·rename_i h0
       cases hu
       refine ⟨w.heap.size, m, z, ?_, hb, hz, h.now.size, hnew⟩
       rw [List.getElem?_append_right (by rw [h.len]; omega), h.len, h0]; rfl
      ·cases hu
    ·intro i u x hu
     rw [List.getElem?_append] at hu
     split at hu
     ·obtain ⟨g, m, cs, h1, h2, h3, h4, h5⟩ := h.shut i u x hu
      refine ⟨g, m, cs, ?_, h2, h3, ?_, h5⟩
      ·rw [List.getElem?_append_left (List.getElem?_eq_some_iff.1 h1).1]; exact h1
      ·rw [hlt g (hold h1)]; exact h4
     ·rw [List.getElem?_singleton] at hu
      split at hu <;> cases hu
   have hp := (hsim.put (d := o.dst) he (v := .pointer (some ⟨w.heap.size, 0, none⟩)) ⟨w.heap.size, by rw [← h.len, List.getElem?_append_right (Nat.le_refl _), Nat.sub_self]; rfl, rfl⟩).1
   unfold Oper.wp
   have hr : (execOp a.eval o).run P w = .ok (.value (.pointer (some ⟨w.heap.size, 0, none⟩))) (w.alloc (.cells z t (0, 0))) := by
    have := hrun w
    unfold execOp
    simp [hop, this]
   rw [hr]
   exact hK _ _ _ _ hp
 ·rename_i t p x hop
  split at he
  ·rename_i i v hp hx
   obtain ⟨g, hg, hpv⟩ := (h.opd hp : RV T bs wS (a.eval (.tmp p)) (.b i))
   have hxv : R0 T wS (a.eval x) v := h.opd hx
   split at he
   ·rename_i u hu
    cases hc : (Nat.beq t u && (fit T.fits v t && dstNone o.dst) : Bool) with
    | false => rw [hc] at he; cases he
    | true =>
     rw [hc, cond_true] at he
     cases he
     simp only [Bool.and_eq_true] at hc
     obtain ⟨htu, hfit, hdst⟩ := hc
     have htu := Nat.eq_of_beq_eq_true htu
     subst htu
     obtain ⟨g', m, cs, h1, hb, hcs, hge, hcell⟩ := h.open_ i t hu
     rw [hg] at h1
     cases h1
     cases v with
     | v y => cases hfit
     | l y =>
      obtain ⟨ds, hds, hdn, hone⟩ := T.shape hxv hfit hb
      obtain ⟨w1, hrun, hcell1, hoth, hbel⟩ := T.store hb hcell hcs hdn hone
      have hbS : Below wS.heap.size wS w1 := h.now.trans (hbel.mono hge)
      have hr : (execOp a.eval o).run P w = .ok .skip w1 := by
       unfold execOp
       simp [hop, hpv, hds, hrun]
      unfold Oper.wp
      rw [hr, Oper.upon_skip]
      have hd : a.put o.dst undef = a := by
       cases hdd : o.dst with
       | none => rfl
       | some d => rw [hdd] at hdst; cases hdst
      rw [hd]
      have hi : i < s.bx.length := (List.getElem?_eq_some_iff.1 hu).1
      refine hK a w1 bs wS ⟨h.size, h.defers, h.below, hbS, by simp [h.len], h.apart, h.env, ?_, ?_, h.facts⟩
      ·intro j u' hj
       rw [List.getElem?_set] at hj
       split at hj
       ·cases hj
       ·rename_i hne
        obtain ⟨k, m', cs', k1, k2, k3, k4, k5⟩ := h.open_ j u' hj
        refine ⟨k, m', cs', k1, k2, k3, k4, ?_⟩
        rw [hoth k (fun e => hne (h.apart i j g hg (e ▸ k1)))]
        exact k5
      ·intro j u' x' hj
       rw [List.getElem?_set] at hj
       split at hj
       ·rename_i hij
        subst hij
        cases hj
        exact ⟨g, m, ds, hg, hb, hdn, hcell1, by rw [← hds]; exact hxv⟩
       ·rename_i hne
        obtain ⟨k, m', cs', k1, k2, k3, k4, k5⟩ := h.shut j u' x' hj
        refine ⟨k, m', cs', k1, k2, k3, ?_, k5⟩
        rw [hoth k (fun e => hne (h.apart i j g hg (e ▸ k1)))]
        exact k4
   ·cases he
  ·cases he
 ·rename_i t x hop
  split at he
  ·rename_i i hx
   obtain ⟨g, hg, hpv⟩ := (h.opd hx : RV T bs wS (a.eval x) (.b i))
   split at he
   ·rename_i u v hu
    cases hc : Nat.beq t u with
    | false => rw [hc] at he; cases he
    | true =>
     rw [hc, cond_true] at he
     have htu := Nat.eq_of_beq_eq_true hc
     subst htu
     obtain ⟨g', m, cs, h1, hb, hcs, hcell, hr⟩ := h.shut i t v hu
     rw [hg] at h1
     cases h1
     have hrun := T.load hb hcell hcs
     exact val_ok h hK he (v := .agg cs) hr (by unfold execOp; simp [hop, hpv, hrun])
   ·cases he
  ·cases he
 ·rename_i t x hop
  split at he
  ·rename_i b hx
   have hv : a.eval x = .bool b := h.opd hx
   exact val_ok h hK he (v := .bool (!b)) rfl (by unfold execOp; simp [hop, hv, Op.unary])
  ·cases he
 ·rename_i x y hop
  split at he
  ·rename_i b c hx hy
   have hv : a.eval x = .bool b := h.opd hx
   have hu : a.eval y = .bool c := h.opd hy
   exact val_ok h hK he (v := .bool (b != c)) rfl (by have := run_equalIn_bool' (P := P) w 9999 4 b c T.bool4; unfold execOp; simp [hop, hv, hu, binOp, eqGuard, Op.equal, Op.maxDepth, this]; cases b <;> cases c <;> rfl)
  ·cases he
 ·exact told_ok h he heq hK
end
section
variable {P : Program} {L : Type} {T : Lore P L} {n : Nat} {w0 : World} {s s1 : St L} {bs : List Nat} {wS : World} {a : Act} {w : World} {K : Act → World → Prop} {Q : Exit → Act → World → Prop} {o : Oper} {ops : Array Oper}
theorem execOps_back {fits : L → Nat → Bool} {box : Nat → Option Nat} : ∀ {l : List Oper} {s s1 : St L}, execOps fits box n ops l s = some s1 → s1.el = s1.er → s.el = s.er
 | [], s, s1, h, e => by cases h; exact e
 | o :: r, s, s1, h, e => by
  unfold execOps at h
  split at h
  ·cases hx : exec1 fits box n o s with
   | none => rw [hx] at h; cases h
   | some s2 => rw [hx] at h; exact exec1_back hx (execOps_back h e)
  ·cases hx : s.put n o.dst (.a (.v undef)) with
   | none => rw [hx] at h; cases h
   | some s2 => rw [hx] at h; exact put_back hx (execOps_back h e)
  ·cases h
def bof : Value → Option Bool
 | .bool b => some b
 | _ => none
theorem yielded_eq (a : Act) (j d : Nat) (hj : (ops[j]?).bind (·.dst) = some d) (v : Value) (hv : a.tmps.getD d undef = v) : yielded ops a.tmps j = bof v := by
 subst hv
 unfold yielded
 rw [hj, Option.bind_some]
 cases ht : a.tmps[d]? with
 | none => simp [Array.getD_eq_getD_getElem?, ht, undef, bof]
 | some x => simp only [Array.getD_eq_getD_getElem?, ht, Option.getD_some]; cases x <;> rfl
theorem wantd_ok (h : Sim T n w0 s bs wS a w) {b : Bool} (hw : wantd ops o s = some b) : Region.wanted o (yielded ops a.tmps) = b := by
 unfold wantd at hw
 unfold Region.wanted
 split at hw
 ·rename_i hg
  rw [hg]; cases hw; rfl
 ·rename_i j want hg
  rw [hg]
  dsimp only
  split at hw
  ·rename_i d hd
   split at hw
   ·rename_i c hc
    have hv : a.tmps.getD d undef = .bool c := h.env d _ hc
    rw [yielded_eq a j d hd _ hv]
    cases hw
    cases c <;> cases want <;> rfl
   ·rename_i vs hc
    have hv : a.tmps.getD d undef = .tuple vs := h.env d _ hc
    rw [yielded_eq a j d hd _ hv]
    cases hw
    rfl
   ·cases hw
  ·cases hw
theorem execOps_ok : ∀ {l : List Oper} {s s1 : St L} {bs : List Nat} {wS : World} {a : Act} {w : World}, Sim T n w0 s bs wS a w → execOps T.fits T.box n ops l s = some s1 → s1.el = s1.er → (∀ a1 w1 bs1 wS1, Sim T n w0 s1 bs1 wS1 a1 w1 → Q .normal a1 w1) → wpList P ops Q l a w
 | [], s, s1, bs, wS, a, w, h, he, _, hQ => by cases he; exact hQ _ _ _ _ h
 | o :: r, s, s1, bs, wS, a, w, h, he, e, hQ => by
  unfold execOps at he
  unfold wpList
  split at he
  ·rename_i hw
   rw [if_pos (wantd_ok h hw)]
   cases hx : exec1 T.fits T.box n o s with
   | none => rw [hx] at he; cases he
   | some s2 =>
    rw [hx] at he
    refine .inl (exec1_ok h hx (execOps_back he e) fun a1 w1 bs1 wS1 h1 => ?_)
    exact execOps_ok h1 he e hQ
  ·rename_i hw
   rw [if_neg (by rw [wantd_ok h hw]; simp)]
   cases hx : s.put n o.dst (.a (.v undef)) with
   | none => rw [hx] at he; cases he
   | some s2 =>
    rw [hx] at he
    exact execOps_ok (h.put hx rfl).1 he e hQ
  ·cases he
def Ex.exit : Ex → Exit
 | .go => .normal
 | .out id => .exit id
 | .ret => .ret
theorem exec_back {fits : L → Nat → Bool} {box : Nat → Option Nat} : ∀ {c : Code} {s s1 : St L} {e : Ex}, exec fits box n c s = some (e, s1) → s1.el = s1.er → s.el = s.er := by
 intro c
 induction c with
 | skip => intro s s1 e h he; cases h; exact he
 | region id ops draw =>
  intro s s1 e h he
  cases draw with
  | true => cases h
  | false =>
   obtain ⟨s2, h2, h3⟩ := Option.map_eq_some_iff.1 h
   cases h3
   exact execOps_back h2 he
 | seq a b iha ihb =>
  intro s s1 e h he
  unfold exec at h
  split at h
  ·rename_i hx; exact iha hx (ihb h he)
  ·rename_i hx; cases h; exact iha hx he
  ·rename_i hx; cases h; exact iha hx he
  ·cases h
 | cond c x y ihx ihy =>
  intro s s1 e h he
  unfold exec at h
  split at h
  ·exact ihx h he
  ·exact ihy h he
  ·cases h
 | block id c ih =>
  intro s s1 e h he
  unfold exec at h
  split at h
  ·rename_i k s2 hx
   cases hk : Nat.beq k id with
   | true => rw [hk] at h; cases h; exact ih hx he
   | false => rw [hk] at h; cases h; exact ih hx he
  ·rename_i hx; cases h; exact ih hx he
  ·rename_i hx; cases h; exact ih hx he
  ·cases h
 | exit id => intro s s1 e h he; cases h; exact he
 | ret => intro s s1 e h he; cases h; exact he
 | _ => intro s s1 e h he; cases h
theorem exec_ok : ∀ {c : Code} {Q : Exit → Act → World → Prop} {s s1 : St L} {e : Ex} {bs : List Nat} {wS : World} {a : Act} {w : World}, Sim T n w0 s bs wS a w → exec T.fits T.box n c s = some (e, s1) → s1.el = s1.er → (∀ a1 w1 bs1 wS1, Sim T n w0 s1 bs1 wS1 a1 w1 → Q e.exit a1 w1) → c.wp P Q a w := by
 intro c
 induction c with
 | skip => intro Q s s1 e bs wS a w h he eq hQ; cases he; exact wp_skip (hQ _ _ _ _ h)
 | region id ops draw =>
  intro Q s s1 e bs wS a w h he eq hQ
  cases draw with
  | true => cases he
  | false =>
   obtain ⟨s2, h2, h3⟩ := Option.map_eq_some_iff.1 he
   cases h3
   exact wp_region_list (execOps_ok h h2 eq hQ)
 | seq x y iha ihb =>
  intro Q s s1 e bs wS a w h he eq hQ
  unfold exec at he
  refine wp_seq ?_
  split at he
  ·rename_i s2 hx
   exact iha h hx (exec_back he eq) fun a1 w1 bs1 wS1 h1 => ihb h1 he eq hQ
  ·rename_i hx; cases he; exact iha h hx eq hQ
  ·rename_i hx; cases he; exact iha h hx eq hQ
  ·cases he
 | cond c x y ihx ihy =>
  intro Q s s1 e bs wS a w h he eq hQ
  unfold exec at he
  split at he
  ·rename_i hc; exact wp_cond_true (h.opd hc) (ihx h he eq hQ)
  ·rename_i hc; exact wp_cond_false (h.opd hc) (ihy h he eq hQ)
  ·cases he
 | block id c ih =>
  intro Q s s1 e bs wS a w h he eq hQ
  unfold exec at he
  refine wp_block ?_
  split at he
  ·rename_i k s2 hx
   cases hk : Nat.beq k id with
   | true =>
    rw [hk] at he; cases he
    refine ih h hx eq fun a1 w1 bs1 wS1 h1 => ?_
    show (if k = id then Q .normal a1 w1 else Q (.exit k) a1 w1)
    rw [if_pos (Nat.eq_of_beq_eq_true hk)]
    exact hQ _ _ _ _ h1
   | false =>
    rw [hk] at he; cases he
    refine ih h hx eq fun a1 w1 bs1 wS1 h1 => ?_
    show (if k = id then Q .normal a1 w1 else Q (.exit k) a1 w1)
    rw [if_neg (Nat.ne_of_beq_eq_false hk)]
    exact hQ _ _ _ _ h1
  ·rename_i hx; cases he; exact ih h hx eq hQ
  ·rename_i hx; cases he; exact ih h hx eq hQ
  ·cases he
 | exit id => intro Q s s1 e bs wS a w h he eq hQ; cases he; exact wp_exit (hQ _ _ _ _ h)
 | ret => intro Q s s1 e bs wS a w h he eq hQ; cases he; exact wp_ret (hQ _ _ _ _ h)
 | _ => intro Q s s1 e bs wS a w h he eq hQ; cases he
def init : Nat → List (A0 L) → List (Nat × AV L)
 | _, [] => []
 | k, x :: r => (k, .a x) :: init (k + 1) r
theorem init_ok {w : World} : ∀ {args : List Value} {xs : List (A0 L)} {k t : Nat} {x : AV L}, All2 T w args xs → look (init k xs) t = some x → ∃ v y, x = .a y ∧ k ≤ t ∧ args[t - k]? = some v ∧ R0 T w v y
 | [], [], k, t, x, _, h => by cases h
 | v :: vs, y :: ys, k, t, x, h, hl => by
  unfold init look at hl
  cases hk : Nat.beq k t with
  | true =>
   rw [hk] at hl
   cases hl
   have := Nat.eq_of_beq_eq_true hk
   subst this
   exact ⟨v, y, rfl, Nat.le_refl _, by simp, h.1⟩
  | false =>
   rw [hk] at hl
   obtain ⟨u, z, e, hle, hu, hr⟩ := init_ok (k := k + 1) h.2 hl
   refine ⟨u, z, e, by omega, ?_, hr⟩
   have : t - k = (t - (k + 1)) + 1 := by omega
   rw [this, List.getElem?_cons_succ]
   exact hu
 | [], _ :: _, _, _, _, h, _ => h.elim
 | _ :: _, [], _, _, _, h, _ => h.elim
theorem run_ok {f : FuncId} {fn : Func} {c : Code} {r : Tmp} {args : List Value} {xs : List (A0 L)} {facts : List (Fact L)} {v : Value} {s1 : St L}
  (hf : P.funcs[f]? = some fn) (hb : fn.body = some c) (hr : fn.results = #[.tmp r]) (hn : (args.length ≤ fn.ntmps) = True) (w : World) (hargs : All2 T w args xs) (hfacts : ∀ f ∈ facts, f.OK T)
  (he : exec T.fits T.box fn.ntmps c { env := init 0 xs, bx := [], ask := facts, el := [], er := [] } = some (.ret, s1)) (eq : s1.el = s1.er) (hv : look s1.env r = some (.a (.v v))) :
  Calls P f args.toArray w fun e w' => e = .returned v ∧ Below w.heap.size w w' := by
 refine calls_of_wp hf hb ?_
 refine exec_ok (T := T) (n := fn.ntmps) (w0 := w) (bs := []) (wS := w) ⟨?_, rfl, Below.refl _ _, Below.refl _ _, rfl, ?_, ?_, ?_, ?_, hfacts⟩ he eq ?_
 ·have := hn.mpr trivial
  simp; omega
 ·intro i j g hi; simp at hi
 ·intro t x hx
  obtain ⟨u, y, rfl, _, hu, hr⟩ := init_ok hargs hx
  have hlt := (List.getElem?_eq_some_iff.1 hu).1
  have e : (args.toArray ++ Array.replicate (fn.ntmps - args.toArray.size) undef).getD t undef = u := by
   rw [Array.getD_eq_getD_getElem?, Array.getElem?_append_left (by simpa using hlt)]
   simp at hu
   simp [hu]
  show R0 T w _ y
  rw [show ({ tmps := args.toArray ++ Array.replicate (fn.ntmps - args.toArray.size) undef, defers := [] } : Act).tmps.getD t undef = u from e]
  exact hr
 ·intro i t hi; simp at hi
 ·intro i t x hi; simp at hi
 ·intro a1 w1 bs1 wS1 h1
  have hx : a1.tmps.getD r undef = v := h1.env r _ hv
  exact bodyPost_ret (v := v) (by rw [results_tmp hr, hx]) h1.defers ⟨rfl, h1.below.trans (h1.now.mono h1.below.size)⟩
end
def final {L : Type} (x : Option (Ex × St L)) : Option (St L) :=
 match x with
 | some (.ret, s) => some s
 | _ => none
def runs {L : Type} (fits : L → Nat → Bool) (box : Nat → Option Nat) (fn : Func) (xs : List (A0 L)) (facts : List (Fact L)) : Option (St L) :=
 final (exec fits box fn.ntmps (fn.body.getD .skip) { env := init 0 xs, bx := [], ask := facts, el := [], er := [] })
theorem law_ok {P : Program} {L : Type} (T : Lore P L) {f : FuncId} {fn : Func} {r : Tmp} {args : List Value} {xs : List (A0 L)} {facts : List (Fact L)} {v : Value}
  (hf : P.funcs[f]? = some fn) (hb : fn.body.isSome = true) (hr : fn.results = #[.tmp r]) (hn : Nat.ble args.length fn.ntmps = true) (w : World) (hargs : All2 T w args xs) (hfacts : ∀ f ∈ facts, f.OK T)
  (he : (runs T.fits T.box fn xs facts).bind (fun s => look s.env r) = some (.a (.v v))) (eq : (runs T.fits T.box fn xs facts).map (·.el) = (runs T.fits T.box fn xs facts).map (·.er)) :
  Calls P f args.toArray w fun e w' => e = .returned v ∧ Below w.heap.size w w' := by
 unfold runs at he eq
 obtain ⟨c, hc⟩ := Option.isSome_iff_exists.1 hb
 rw [hc, Option.getD_some] at he eq
 cases hx : exec T.fits T.box fn.ntmps c { env := init 0 xs, bx := [], ask := facts, el := [], er := [] } with
 | none => rw [hx] at he; cases he
 | some y =>
  obtain ⟨e, s1⟩ := y
  cases e with
  | ret =>
   rw [hx] at he eq
   exact run_ok (T := T) hf hc hr (propext ⟨fun _ => trivial, fun _ => Nat.le_of_ble_eq_true hn⟩) w hargs hfacts hx (Option.some.inj eq) he
  | go => rw [hx] at he; cases he
  | out id => rw [hx] at he; cases he
section
variable {P : Program} {t n : Nat} {fs : Array Field}
theorem box_alloc {z : Array Value} (hz : ∀ w, (zeroValue t).run P w = .ok (.agg z) w) (w : World) : (Instr.alloc t true (.tuple #[])).run P w = .ok (.pointer (some ⟨w.heap.size, 0, none⟩)) (w.alloc (.cells z t (0, 0))) := by
 unfold Instr.alloc
 simp [hz w, newVar, newRow, newObj, Value.cells]; rfl
theorem box_load (hu : P.underlying t = some (.struct fs)) (hi : (P.info? t).map (·.size) = some n) {w : World} {g : Nat} {cs : Array Value} (hc : w.heap[g]? = some (.cells cs t (0, 0))) (hn : cs.size = n) : (Instr.loadAt t (.pointer (some ⟨g, 0, none⟩))).run P w = .ok (.agg cs) w := by
 have := run_loadVar_row (P := P) w g t t cs (0, 0) _ hc hu rfl (by rw [hi, hn])
 simp [Instr.loadAt, Instr.sureAddr, this]
theorem box_store (hi : (P.info? t).map (·.size) = some n) {w : World} {g : Nat} {cs ds : Array Value} (hc : w.heap[g]? = some (.cells cs t (0, 0))) (hn : cs.size = n) (hd : ds.size = n) (h1 : ∀ c ∈ ds, c.oneCell' = true) :
  ∃ w1, (Instr.storeAt t (.pointer (some ⟨g, 0, none⟩)) (.agg ds)).run P w = .ok () w1 ∧ w1.heap[g]? = some (.cells ds t (0, 0)) ∧ (∀ k, k ≠ g → w1.heap[k]? = w.heap[k]?) ∧ Below g w w1 := by
 have hst := run_storeCells_from (P := P) g t ds.toList 0 cs w hc (by simp [hn, hd]) (fun v hv => h1 v (by simpa using hv))
 have hk : ∀ k, k ≠ g → (w.setRow g ds).heap[k]? = w.heap[k]? := by
  intro k hk
  unfold World.setRow
  rw [Array.getElem?_modify, if_neg (fun e => hk e.symm)]
 refine ⟨w.setRow g ds, ?_, ?_, hk, ⟨rfl, rfl, rfl, by simp [World.setRow], fun k h => hk k (Nat.ne_of_lt h)⟩⟩
 ·obtain ⟨i, hi', hs⟩ := Option.map_eq_some_iff.1 hi
  simp at hst
  simp [Instr.storeAt, Instr.sureAddr, storeVar, sizeOf, typeInfo, hi', Value.cells, hs, hd, Sem.run_bind, hst]
 ·unfold World.setRow
  rw [Array.getElem?_modify, if_pos rfl, hc]; rfl
end
end Go.Proofs.Ytfencncopkeobaa.LX
