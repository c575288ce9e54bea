-- Written by wip/myprint.py (a program of mine round the kit's printer). Lean checks it.
import Derived.Test.YtakdhnhncmkigaaQFnExactJoinMeandersx6
namespace Go.Proofs.Ytakdhnhncmkigaa.QFnExactJoinMeanders
open Go.RowKit Go.Proofs.YtakdhnhncmkigaaW.PrintWords Go.Proofs.YtakdhnhncmkigaaW.PrintLast Go.Proofs.YtakdhnhncmkigaaW.PrintMore
attribute [local go_sem] max2_int min2_int max_two min_two max_three min_three max_four min_four   -- for this text's walks alone
set_option linter.unusedVariables false
set_option linter.unusedSimpArgs false

def laws_FnExactJoinMeanders.findRest (n : Nat) : Code → Option Code
  | .seq a b => match a with
    | .region m o d => if m = n then some (.seq (.region m o d) b) else laws_FnExactJoinMeanders.findRest n b
    | a => match laws_FnExactJoinMeanders.findRest n a with
      | some c => some c
      | none => laws_FnExactJoinMeanders.findRest n b
  | .cond _ a b => match laws_FnExactJoinMeanders.findRest n a with
    | some c => some c
    | none => laws_FnExactJoinMeanders.findRest n b
  | .block _ c => laws_FnExactJoinMeanders.findRest n c
  | .loop c => laws_FnExactJoinMeanders.findRest n c
  | .scope c => laws_FnExactJoinMeanders.findRest n c
  | _ => none
def laws_FnExactJoinMeanders.findCond (n : Nat) : Code → Option Code
  | .seq a b => match laws_FnExactJoinMeanders.findCond n a with
    | some c => some c
    | none => laws_FnExactJoinMeanders.findCond n b
  | .cond c a b => match c with
    | .tmp m => if m = n then some (.cond (.tmp m) a b) else match laws_FnExactJoinMeanders.findCond n a with
      | some c => some c
      | none => laws_FnExactJoinMeanders.findCond n b
    | _ => match laws_FnExactJoinMeanders.findCond n a with
      | some c => some c
      | none => laws_FnExactJoinMeanders.findCond n b
  | .block _ c => laws_FnExactJoinMeanders.findCond n c
  | .loop c => laws_FnExactJoinMeanders.findCond n c
  | .scope c => laws_FnExactJoinMeanders.findCond n c
  | _ => none
noncomputable def laws_FnExactJoinMeanders.rest : Code := ((Try.f3.body.bind (laws_FnExactJoinMeanders.findRest 23)).getD .skip)
noncomputable def laws_FnExactJoinMeanders.joint : Code := ((Try.f3.body.bind (laws_FnExactJoinMeanders.findCond 82)).getD .skip)
set_option maxHeartbeats 8000000 in
set_option maxRecDepth 1000000 in
theorem laws_FnExactJoinMeanders.part (k : Nat) (A0_0 : Option Addr) (c0_0 : Nat) (l0_0 : List Int) (A0_1 : Option Addr) (c0_1 : Nat) (l0_1 : List Int) (A1_0 : Option Addr) (c1_0 : Nat) (l1_0 : List Int) (A1_1 : Option Addr) (c1_1 : Nat) (l1_1 : List Int) (r : Bool) (w : World) (hr_ : r = true) (hu24 : Try.prog.underlying 24 = some (TypeDesc.struct #[{ name := "Top", type := 22, offset := 0, embedded := false, tag := "", pkgPath := "", byteOffset := 0 }, { name := "Bottom", type := 22, offset := 1, embedded := false, tag := "", pkgPath := "", byteOffset := 24 }])) (hu26 : Try.prog.underlying 26 = some (TypeDesc.struct #[{ name := "Top", type := 22, offset := 0, embedded := false, tag := "", pkgPath := "", byteOffset := 0 }, { name := "Bottom", type := 22, offset := 1, embedded := false, tag := "", pkgPath := "", byteOffset := 24 }])) (HR0_0 : Aside0 ((Kd.int IntKind.i64).C w A0_0 l0_0.length l0_0)) (HC0_0 : Aside0 (l0_0.length ≤ c0_0)) (HR0_1 : Aside0 ((Kd.int IntKind.i64).C w A0_1 l0_1.length l0_1)) (HC0_1 : Aside0 (l0_1.length ≤ c0_1)) (HR1_0 : Aside0 ((Kd.int IntKind.i64).C w A1_0 l1_0.length l1_0)) (HC1_0 : Aside0 (l1_0.length ≤ c1_0)) (HR1_1 : Aside0 ((Kd.int IntKind.i64).C w A1_1 l1_1.length l1_1)) (HC1_1 : Aside0 (l1_1.length ≤ c1_1)) (t223 : Int) (t236 : List Int) (t239 : List Int) (t242 : Bool) (t244 : List Int) (t247 : List Int) (t251 : List Int) (t254 : List Int) (t258 : List Int) (t261 : List Int) (t264 : Bool) (gb220 : Nat) (GE220 : Aside0 (w.heap.size ≤ gb220)) (gb221 : Nat) (GE221 : Aside0 (w.heap.size ≤ gb221)) (HT_ : Aside0 (rtab Region.Mode.any #[{ dst := some 28, op := Op.load 24 (Operand.tmp 2), type := 24, pos := "exact.go:1816", after := #[], guard := none }, { dst := some 29, op := Op.call { callee := Callee.value (Operand.func 6), args := #[Operand.tmp 28], argTypes := #[24] }, type := 26, pos := "exact.go:1816", after := #[{ on := 0, ground := Ground.data }], guard := none }, { dst := some 30, op := Op.load 24 (Operand.tmp 3), type := 24, pos := "exact.go:1816", after := #[], guard := none }, { dst := some 31, op := Op.call { callee := Callee.value (Operand.func 6), args := #[Operand.tmp 30], argTypes := #[24] }, type := 26, pos := "exact.go:1816", after := #[{ on := 2, ground := Ground.data }, { on := 1, ground := Ground.chain }], guard := none }, { dst := some 32, op := Op.call { callee := Callee.value (Operand.func 5), args := #[Operand.tmp 29, Operand.tmp 31], argTypes := #[26, 26] }, type := 27, pos := "exact.go:1816", after := #[{ on := 1, ground := Ground.data }, { on := 3, ground := Ground.data }, { on := 3, ground := Ground.chain }], guard := none }, { dst := some 27, op := Op.move (Operand.tmp 32), type := 27, pos := "exact.go:1816", after := #[{ on := 4, ground := Ground.data }], guard := none }, { dst := some 33, op := Op.extract (Operand.tmp 27) 0, type := 26, pos := "exact.go:1816", after := #[{ on := 5, ground := Ground.data }], guard := none }, { dst := some 34, op := Op.extract (Operand.tmp 27) 1, type := 4, pos := "exact.go:1816", after := #[{ on := 5, ground := Ground.data }, { on := 9, ground := Ground.gcOnly Departure.lateStores }], guard := none }, { dst := some 6, op := Op.alloc 26, type := 0, pos := "exact.go:1816", after := #[], guard := none }, { dst := none, op := Op.store 26 (Operand.tmp 6) (Operand.tmp 33), type := 0, pos := "exact.go:1816", after := #[{ on := 8, ground := Ground.data }, { on := 6, ground := Ground.data }, { on := 4, ground := Ground.chain }, { on := 0, ground := Ground.phase }, { on := 1, ground := Ground.phase }, { on := 2, ground := Ground.phase }, { on := 3, ground := Ground.phase }, { on := 4, ground := Ground.phase }, { on := 5, ground := Ground.phase }, { on := 6, ground := Ground.phase }, { on := 7, ground := Ground.textOnly Departure.lateStores }, { on := 8, ground := Ground.phase }], guard := none }, { dst := some 7, op := Op.assign (Operand.tmp 34), type := 4, pos := "exact.go:1816", after := #[{ on := 7, ground := Ground.data }, { on := 9, ground := Ground.chain }, { on := 0, ground := Ground.phase }, { on := 1, ground := Ground.phase }, { on := 2, ground := Ground.phase }, { on := 3, ground := Ground.phase }, { on := 4, ground := Ground.phase }, { on := 5, ground := Ground.phase }, { on := 6, ground := Ground.phase }, { on := 7, ground := Ground.phase }, { on := 8, ground := Ground.phase }, { on := 9, ground := Ground.phase }], guard := none }] = T8)) (HW_ : Aside0 (waitsOk T8.snd B8 = true)) (gb243 : Nat) (w42 : World) (hS_ : w42.cell? { block := gb220, off := 0 } = some (Value.slice A0_0 l0_0.length c0_0) ∧ w42.cell? { block := gb220, off := 1 } = some (Value.slice A0_1 l0_1.length c0_1) ∧ w42.cell? { block := gb221, off := 0 } = some (Value.slice A1_0 l1_0.length c1_0) ∧ w42.cell? { block := gb221, off := 1 } = some (Value.slice A1_1 l1_1.length c1_1)) (GE243 : Aside0 (w.heap.size ≤ gb243)) (NB220_243 : Aside0 (gb220 ≠ gb243)) (NB243_220 : Aside0 (gb243 ≠ gb220)) (NB221_243 : Aside0 (gb221 ≠ gb243)) (NB243_221 : Aside0 (gb243 ≠ gb221)) (Ao43 : Option Addr) (co43 : Nat) (Ao45 : Option Addr) (co45 : Nat) (gb250 : Nat) (GE250 : Aside0 (w.heap.size ≤ gb250)) (NB243_250 : Aside0 (gb243 ≠ gb250)) (NB250_243 : Aside0 (gb250 ≠ gb243)) (Ao51 : Option Addr) (co51 : Nat) (Ao56 : Option Addr) (co56 : Nat) (gb257 : Nat) (GE257 : Aside0 (w.heap.size ≤ gb257)) (NB243_257 : Aside0 (gb243 ≠ gb257)) (NB257_243 : Aside0 (gb257 ≠ gb243)) (Ao61 : Option Addr) (co61 : Nat) (Ao67 : Option Addr) (co67 : Nat) (gb265 : Nat) (GE265 : Aside0 (w.heap.size ≤ gb265)) (NB220_265 : Aside0 (gb220 ≠ gb265)) (NB265_220 : Aside0 (gb265 ≠ gb220)) (NB221_265 : Aside0 (gb221 ≠ gb265)) (NB265_221 : Aside0 (gb265 ≠ gb221)) (NB243_265 : Aside0 (gb243 ≠ gb265)) (NB265_243 : Aside0 (gb265 ≠ gb243)) (NB250_265 : Aside0 (gb250 ≠ gb265)) (NB265_250 : Aside0 (gb265 ≠ gb250)) (NB257_265 : Aside0 (gb257 ≠ gb265)) (NB265_257 : Aside0 (gb265 ≠ gb257)) (Ao71 : Option Addr) (co71 : Nat) (Ao78 : Option Addr) (co78 : Nat) (kj24 : Nat) (HJ24 : Aside0 (kj24 + 1 ≤ k)) (t267 : List Int) (t270 : List Int) (t274 : List Int) (t277 : List Int) (t282 : List Int) (t283 : List Int) (t284 : Int) (t285 : List Int) (t286 : List Int) (HC114 : Aside0 ((if t284 < 0 then j1 kj24 t242 true l0_0 l0_1 l1_0 l1_1 t236 t239 t258 t261 else (laws_eqMeander.f kj24 t258 t261 t236 t239).bind fun t287 => if t287 = true then j1 kj24 t242 (t264 != t242) l0_0 l0_1 l1_0 l1_1 t236 t239 t258 t261 else j1 kj24 t242 true l0_0 l0_1 l1_0 l1_1 t236 t239 t258 t261) = some r)) (Ao117 : Option Addr) (co117 : Nat) (Ao118 : Option Addr) (co118 : Nat) (Ao122 : Option Addr) (co122 : Nat) (Ao123 : Option Addr) (co123 : Nat) (w124 : World) (hHeld : w124.cell? { block := gb257, off := 0 } = some (Value.slice Ao61 t251.length co61) ∧ w124.cell? { block := gb257, off := 1 } = some (Value.slice Ao67 t254.length co67) ∧ w124.cell? { block := gb221, off := 0 } = some (Value.slice A1_0 l1_0.length c1_0) ∧ w124.cell? { block := gb221, off := 1 } = some (Value.slice A1_1 l1_1.length c1_1)) (w137 : World) (HO_244000 : Aside0 ((Kd.int IntKind.i64).R 3 w137 w.heap.size (fun k_ => some k_ ≠ (Value.slice Ao45 t239.length co45).ownBlock ∧ some k_ ≠ (Value.slice Ao51 t244.length co51).ownBlock ∧ some k_ ≠ (Value.slice Ao56 t247.length co56).ownBlock ∧ some k_ ≠ (Value.slice Ao61 t251.length co61).ownBlock ∧ some k_ ≠ (Value.slice Ao67 t254.length co67).ownBlock ∧ some k_ ≠ (Value.slice Ao71 t258.length co71).ownBlock ∧ some k_ ≠ (Value.slice Ao78 t261.length co78).ownBlock ∧ some k_ ≠ (Value.slice Ao117 t267.length co117).ownBlock ∧ some k_ ≠ (Value.slice Ao118 t270.length co118).ownBlock ∧ some k_ ≠ (Value.slice Ao122 t274.length co122).ownBlock ∧ some k_ ≠ (Value.slice Ao123 t277.length co123).ownBlock) (Value.slice Ao43 t236.length co43) t236)) (HO_244001 : Aside0 ((Kd.int IntKind.i64).R 3 w137 w.heap.size (fun k_ => some k_ ≠ (Value.slice Ao43 t236.length co43).ownBlock ∧ some k_ ≠ (Value.slice Ao51 t244.length co51).ownBlock ∧ some k_ ≠ (Value.slice Ao56 t247.length co56).ownBlock ∧ some k_ ≠ (Value.slice Ao61 t251.length co61).ownBlock ∧ some k_ ≠ (Value.slice Ao67 t254.length co67).ownBlock ∧ some k_ ≠ (Value.slice Ao71 t258.length co71).ownBlock ∧ some k_ ≠ (Value.slice Ao78 t261.length co78).ownBlock ∧ some k_ ≠ (Value.slice Ao117 t267.length co117).ownBlock ∧ some k_ ≠ (Value.slice Ao118 t270.length co118).ownBlock ∧ some k_ ≠ (Value.slice Ao122 t274.length co122).ownBlock ∧ some k_ ≠ (Value.slice Ao123 t277.length co123).ownBlock) (Value.slice Ao45 t239.length co45) t239)) (HO_251000 : Aside0 ((Kd.int IntKind.i64).R 3 w137 w.heap.size (fun k_ => some k_ ≠ (Value.slice Ao43 t236.length co43).ownBlock ∧ some k_ ≠ (Value.slice Ao45 t239.length co45).ownBlock ∧ some k_ ≠ (Value.slice Ao56 t247.length co56).ownBlock ∧ some k_ ≠ (Value.slice Ao61 t251.length co61).ownBlock ∧ some k_ ≠ (Value.slice Ao67 t254.length co67).ownBlock ∧ some k_ ≠ (Value.slice Ao71 t258.length co71).ownBlock ∧ some k_ ≠ (Value.slice Ao78 t261.length co78).ownBlock ∧ some k_ ≠ (Value.slice Ao117 t267.length co117).ownBlock ∧ some k_ ≠ (Value.slice Ao118 t270.length co118).ownBlock ∧ some k_ ≠ (Value.slice Ao122 t274.length co122).ownBlock ∧ some k_ ≠ (Value.slice Ao123 t277.length co123).ownBlock) (Value.slice Ao51 t244.length co51) t282)) (HO_251001 : Aside0 ((Kd.int IntKind.i64).R 3 w137 w.heap.size (fun k_ => some k_ ≠ (Value.slice Ao43 t236.length co43).ownBlock ∧ some k_ ≠ (Value.slice Ao45 t239.length co45).ownBlock ∧ some k_ ≠ (Value.slice Ao51 t244.length co51).ownBlock ∧ some k_ ≠ (Value.slice Ao61 t251.length co61).ownBlock ∧ some k_ ≠ (Value.slice Ao67 t254.length co67).ownBlock ∧ some k_ ≠ (Value.slice Ao71 t258.length co71).ownBlock ∧ some k_ ≠ (Value.slice Ao78 t261.length co78).ownBlock ∧ some k_ ≠ (Value.slice Ao117 t267.length co117).ownBlock ∧ some k_ ≠ (Value.slice Ao118 t270.length co118).ownBlock ∧ some k_ ≠ (Value.slice Ao122 t274.length co122).ownBlock ∧ some k_ ≠ (Value.slice Ao123 t277.length co123).ownBlock) (Value.slice Ao56 t247.length co56) t283)) (HO_266000 : Aside0 ((Kd.int IntKind.i64).R 3 w137 w.heap.size (fun k_ => some k_ ≠ (Value.slice Ao43 t236.length co43).ownBlock ∧ some k_ ≠ (Value.slice Ao45 t239.length co45).ownBlock ∧ some k_ ≠ (Value.slice Ao51 t244.length co51).ownBlock ∧ some k_ ≠ (Value.slice Ao56 t247.length co56).ownBlock ∧ some k_ ≠ (Value.slice Ao61 t251.length co61).ownBlock ∧ some k_ ≠ (Value.slice Ao67 t254.length co67).ownBlock ∧ some k_ ≠ (Value.slice Ao78 t261.length co78).ownBlock ∧ some k_ ≠ (Value.slice Ao117 t267.length co117).ownBlock ∧ some k_ ≠ (Value.slice Ao118 t270.length co118).ownBlock ∧ some k_ ≠ (Value.slice Ao122 t274.length co122).ownBlock ∧ some k_ ≠ (Value.slice Ao123 t277.length co123).ownBlock) (Value.slice Ao71 t258.length co71) t258)) (HO_266001 : Aside0 ((Kd.int IntKind.i64).R 3 w137 w.heap.size (fun k_ => some k_ ≠ (Value.slice Ao43 t236.length co43).ownBlock ∧ some k_ ≠ (Value.slice Ao45 t239.length co45).ownBlock ∧ some k_ ≠ (Value.slice Ao51 t244.length co51).ownBlock ∧ some k_ ≠ (Value.slice Ao56 t247.length co56).ownBlock ∧ some k_ ≠ (Value.slice Ao61 t251.length co61).ownBlock ∧ some k_ ≠ (Value.slice Ao67 t254.length co67).ownBlock ∧ some k_ ≠ (Value.slice Ao71 t258.length co71).ownBlock ∧ some k_ ≠ (Value.slice Ao117 t267.length co117).ownBlock ∧ some k_ ≠ (Value.slice Ao118 t270.length co118).ownBlock ∧ some k_ ≠ (Value.slice Ao122 t274.length co122).ownBlock ∧ some k_ ≠ (Value.slice Ao123 t277.length co123).ownBlock) (Value.slice Ao78 t261.length co78) t261)) (BK220 : Aside0 (w137.heap[gb220]? = some (Obj.cells #[Value.slice A0_0 l0_0.length c0_0, Value.slice A0_1 l0_1.length c0_1] 24))) (BK221 : Aside0 (w137.heap[gb221]? = some (Obj.cells #[Value.slice A1_0 l1_0.length c1_0, Value.slice A1_1 l1_1.length c1_1] 24))) (BK243 : Aside0 (w137.heap[gb243]? = some (Obj.cells #[Value.slice Ao43 t236.length co43, Value.slice Ao45 t239.length co45] 26))) (BK250 : Aside0 (w137.heap[gb250]? = some (Obj.cells #[Value.slice Ao51 t244.length co51, Value.slice Ao56 t247.length co56] 26))) (BK257 : Aside0 (w137.heap[gb257]? = some (Obj.cells #[Value.slice Ao61 t251.length co61, Value.slice Ao67 t254.length co67] 26))) (BK265 : Aside0 (w137.heap[gb265]? = some (Obj.cells #[Value.slice Ao71 t258.length co71, Value.slice Ao78 t261.length co78] 26))) (HO_258000 : Aside0 ((Kd.int IntKind.i64).R 3 w137 w.heap.size (fun k_ => some k_ ≠ (Value.slice Ao43 t236.length co43).ownBlock ∧ some k_ ≠ (Value.slice Ao45 t239.length co45).ownBlock ∧ some k_ ≠ (Value.slice Ao51 t244.length co51).ownBlock ∧ some k_ ≠ (Value.slice Ao56 t247.length co56).ownBlock ∧ some k_ ≠ (Value.slice Ao67 t254.length co67).ownBlock ∧ some k_ ≠ (Value.slice Ao71 t258.length co71).ownBlock ∧ some k_ ≠ (Value.slice Ao78 t261.length co78).ownBlock ∧ some k_ ≠ (Value.slice Ao117 t267.length co117).ownBlock ∧ some k_ ≠ (Value.slice Ao118 t270.length co118).ownBlock ∧ some k_ ≠ (Value.slice Ao122 t274.length co122).ownBlock ∧ some k_ ≠ (Value.slice Ao123 t277.length co123).ownBlock) (Value.slice Ao61 t251.length co61) t285)) (HO_258001 : Aside0 ((Kd.int IntKind.i64).R 3 w137 w.heap.size (fun k_ => some k_ ≠ (Value.slice Ao43 t236.length co43).ownBlock ∧ some k_ ≠ (Value.slice Ao45 t239.length co45).ownBlock ∧ some k_ ≠ (Value.slice Ao51 t244.length co51).ownBlock ∧ some k_ ≠ (Value.slice Ao56 t247.length co56).ownBlock ∧ some k_ ≠ (Value.slice Ao61 t251.length co61).ownBlock ∧ some k_ ≠ (Value.slice Ao71 t258.length co71).ownBlock ∧ some k_ ≠ (Value.slice Ao78 t261.length co78).ownBlock ∧ some k_ ≠ (Value.slice Ao117 t267.length co117).ownBlock ∧ some k_ ≠ (Value.slice Ao118 t270.length co118).ownBlock ∧ some k_ ≠ (Value.slice Ao122 t274.length co122).ownBlock ∧ some k_ ≠ (Value.slice Ao123 t277.length co123).ownBlock) (Value.slice Ao67 t254.length co67) t286)) (HB : Aside0 (Below w.heap.size w w137)) (wc : World) (u17 : Value) (u18 : Value) (u19 : Value) (u20 : Value) (u21 : Value) (u22 : Value) (u23 : Value) (u24 : Value) (u25 : Value) (u26 : Value) (u27 : Value) (u28 : Value) (u29 : Value) (u30 : Value) (u31 : Value) (u32 : Value) (u33 : Value) (u34 : Value) (u35 : Value) (u36 : Value) (u37 : Value) (u38 : Value) (u39 : Value) (u40 : Value) (u41 : Value) (u42 : Value) (u43 : Value) (u44 : Value) (u45 : Value) (u46 : Value) (u47 : Value) (u48 : Value) (u49 : Value) (u50 : Value) (u51 : Value) (u52 : Value) (u53 : Value) (u54 : Value) (u55 : Value) (u56 : Value) (u57 : Value) (u58 : Value) (u59 : Value) (u60 : Value) (u61 : Value) (u62 : Value) (u63 : Value) (u64 : Value) (u65 : Value) (u66 : Value) (u67 : Value) (u68 : Value) (u69 : Value) (u70 : Value) (u71 : Value) (u72 : Value) (u73 : Value) (u74 : Value) (u75 : Value) (u76 : Value) (u77 : Value) (u78 : Value) (u79 : Value) (u80 : Value) (u81 : Value) (u82 : Value) (u83 : Value) (u84 : Value) (u85 : Value) (u86 : Value) (u87 : Value) (u88 : Value) (u89 : Value) (u90 : Value) (u91 : Value) (u92 : Value) (u93 : Value) (u94 : Value) (u95 : Value) (u96 : Value) (u97 : Value) (u98 : Value) (u99 : Value) (u100 : Value) (u101 : Value) (u102 : Value) (u103 : Value) (u104 : Value) (u105 : Value) (u106 : Value) (u107 : Value) (u108 : Value) (u109 : Value) (u110 : Value) (u111 : Value) (u112 : Value) (u113 : Value) (u114 : Value) (u115 : Value) (u116 : Value) (u117 : Value) (u118 : Value) (K1_ : Act → World → Prop) (a1_ : ∀ (a_ : Act) (w_ : World), Code.wp Try.prog laws_FnExactJoinMeanders.rest (bodyPost Try.prog Try.f3 fun e w' => e = Ending.returned (Value.bool r) ∧ Below w.heap.size w w') a_ w_ → K1_ a_ w_) (K2_ : Act → World → Prop) (a2_ : ∀ (a_ : Act) (w_ : World), Code.wp Try.prog laws_FnExactJoinMeanders.joint (Exit.then K1_ (bodyPost Try.prog Try.f3 fun e w' => e = Ending.returned (Value.bool r) ∧ Below w.heap.size w w')) a_ w_ → K2_ a_ w_) (hcut : ∃ kq x82_113, u82 = Value.bool x82_113 ∧ Aside0 (j1 kq t242 x82_113 l0_0 l0_1 l1_0 l1_1 t236 t239 t258 t261 = some r) ∧ Aside0 (kq ≤ kj24) ∧ Aside0 ((Kd.int IntKind.i64).R 3 wc w.heap.size (fun k_ => some k_ ≠ (Value.slice Ao45 t239.length co45).ownBlock ∧ some k_ ≠ (Value.slice Ao51 t244.length co51).ownBlock ∧ some k_ ≠ (Value.slice Ao56 t247.length co56).ownBlock ∧ some k_ ≠ (Value.slice Ao61 t251.length co61).ownBlock ∧ some k_ ≠ (Value.slice Ao67 t254.length co67).ownBlock ∧ some k_ ≠ (Value.slice Ao71 t258.length co71).ownBlock ∧ some k_ ≠ (Value.slice Ao78 t261.length co78).ownBlock) (Value.slice Ao43 t236.length co43) t236) ∧ Aside0 ((Kd.int IntKind.i64).R 3 wc w.heap.size (fun k_ => some k_ ≠ (Value.slice Ao43 t236.length co43).ownBlock ∧ some k_ ≠ (Value.slice Ao51 t244.length co51).ownBlock ∧ some k_ ≠ (Value.slice Ao56 t247.length co56).ownBlock ∧ some k_ ≠ (Value.slice Ao61 t251.length co61).ownBlock ∧ some k_ ≠ (Value.slice Ao67 t254.length co67).ownBlock ∧ some k_ ≠ (Value.slice Ao71 t258.length co71).ownBlock ∧ some k_ ≠ (Value.slice Ao78 t261.length co78).ownBlock) (Value.slice Ao45 t239.length co45) t239) ∧ Aside0 ((Kd.int IntKind.i64).R 3 wc w.heap.size (fun k_ => some k_ ≠ (Value.slice Ao43 t236.length co43).ownBlock ∧ some k_ ≠ (Value.slice Ao45 t239.length co45).ownBlock ∧ some k_ ≠ (Value.slice Ao56 t247.length co56).ownBlock ∧ some k_ ≠ (Value.slice Ao61 t251.length co61).ownBlock ∧ some k_ ≠ (Value.slice Ao67 t254.length co67).ownBlock ∧ some k_ ≠ (Value.slice Ao71 t258.length co71).ownBlock ∧ some k_ ≠ (Value.slice Ao78 t261.length co78).ownBlock) (Value.slice Ao51 t244.length co51) t282) ∧ Aside0 ((Kd.int IntKind.i64).R 3 wc w.heap.size (fun k_ => some k_ ≠ (Value.slice Ao43 t236.length co43).ownBlock ∧ some k_ ≠ (Value.slice Ao45 t239.length co45).ownBlock ∧ some k_ ≠ (Value.slice Ao51 t244.length co51).ownBlock ∧ some k_ ≠ (Value.slice Ao61 t251.length co61).ownBlock ∧ some k_ ≠ (Value.slice Ao67 t254.length co67).ownBlock ∧ some k_ ≠ (Value.slice Ao71 t258.length co71).ownBlock ∧ some k_ ≠ (Value.slice Ao78 t261.length co78).ownBlock) (Value.slice Ao56 t247.length co56) t283) ∧ Aside0 ((Kd.int IntKind.i64).R 3 wc w.heap.size (fun k_ => some k_ ≠ (Value.slice Ao43 t236.length co43).ownBlock ∧ some k_ ≠ (Value.slice Ao45 t239.length co45).ownBlock ∧ some k_ ≠ (Value.slice Ao51 t244.length co51).ownBlock ∧ some k_ ≠ (Value.slice Ao56 t247.length co56).ownBlock ∧ some k_ ≠ (Value.slice Ao67 t254.length co67).ownBlock ∧ some k_ ≠ (Value.slice Ao71 t258.length co71).ownBlock ∧ some k_ ≠ (Value.slice Ao78 t261.length co78).ownBlock) (Value.slice Ao61 t251.length co61) t285) ∧ Aside0 ((Kd.int IntKind.i64).R 3 wc w.heap.size (fun k_ => some k_ ≠ (Value.slice Ao43 t236.length co43).ownBlock ∧ some k_ ≠ (Value.slice Ao45 t239.length co45).ownBlock ∧ some k_ ≠ (Value.slice Ao51 t244.length co51).ownBlock ∧ some k_ ≠ (Value.slice Ao56 t247.length co56).ownBlock ∧ some k_ ≠ (Value.slice Ao61 t251.length co61).ownBlock ∧ some k_ ≠ (Value.slice Ao71 t258.length co71).ownBlock ∧ some k_ ≠ (Value.slice Ao78 t261.length co78).ownBlock) (Value.slice Ao67 t254.length co67) t286) ∧ Aside0 ((Kd.int IntKind.i64).R 3 wc w.heap.size (fun k_ => some k_ ≠ (Value.slice Ao43 t236.length co43).ownBlock ∧ some k_ ≠ (Value.slice Ao45 t239.length co45).ownBlock ∧ some k_ ≠ (Value.slice Ao51 t244.length co51).ownBlock ∧ some k_ ≠ (Value.slice Ao56 t247.length co56).ownBlock ∧ some k_ ≠ (Value.slice Ao61 t251.length co61).ownBlock ∧ some k_ ≠ (Value.slice Ao67 t254.length co67).ownBlock ∧ some k_ ≠ (Value.slice Ao78 t261.length co78).ownBlock) (Value.slice Ao71 t258.length co71) t258) ∧ Aside0 ((Kd.int IntKind.i64).R 3 wc w.heap.size (fun k_ => some k_ ≠ (Value.slice Ao43 t236.length co43).ownBlock ∧ some k_ ≠ (Value.slice Ao45 t239.length co45).ownBlock ∧ some k_ ≠ (Value.slice Ao51 t244.length co51).ownBlock ∧ some k_ ≠ (Value.slice Ao56 t247.length co56).ownBlock ∧ some k_ ≠ (Value.slice Ao61 t251.length co61).ownBlock ∧ some k_ ≠ (Value.slice Ao67 t254.length co67).ownBlock ∧ some k_ ≠ (Value.slice Ao71 t258.length co71).ownBlock) (Value.slice Ao78 t261.length co78) t261) ∧ Aside0 (wc.heap[gb220]? = some (Obj.cells #[Value.slice A0_0 l0_0.length c0_0, Value.slice A0_1 l0_1.length c0_1] 24)) ∧ Aside0 (wc.heap[gb221]? = some (Obj.cells #[Value.slice A1_0 l1_0.length c1_0, Value.slice A1_1 l1_1.length c1_1] 24)) ∧ Aside0 (wc.heap[gb243]? = some (Obj.cells #[Value.slice Ao43 t236.length co43, Value.slice Ao45 t239.length co45] 26)) ∧ Aside0 (wc.heap[gb250]? = some (Obj.cells #[Value.slice Ao51 t244.length co51, Value.slice Ao56 t247.length co56] 26)) ∧ Aside0 (wc.heap[gb257]? = some (Obj.cells #[Value.slice Ao61 t251.length co61, Value.slice Ao67 t254.length co67] 26)) ∧ Aside0 (wc.heap[gb265]? = some (Obj.cells #[Value.slice Ao71 t258.length co71, Value.slice Ao78 t261.length co78] 26)) ∧ Aside0 (Below w.heap.size w wc)) :
    K2_ { tmps := #[Value.agg #[Value.slice A0_0 l0_0.length c0_0, Value.slice A0_1 l0_1.length c0_1], Value.agg #[Value.slice A1_0 l1_0.length c1_0, Value.slice A1_1 l1_1.length c1_1], Value.pointer (some { block := gb220, off := 0 }), Value.pointer (some { block := gb221, off := 0 }), Value.bool false, Value.int IntKind.i64 t223, Value.pointer (some { block := gb243, off := 0 }), Value.bool t242, Value.pointer (some { block := gb250, off := 0 }), Value.pointer (some { block := gb257, off := 0 }), Value.pointer (some { block := gb265, off := 0 }), Value.bool t264, Value.int IntKind.i64 t284, undef, undef, undef, undef, u17, u18, u19, u20, u21, u22, u23, u24, u25, u26, u27, u28, u29, u30, u31, u32, u33, u34, u35, u36, u37, u38, u39, u40, u41, u42, u43, u44, u45, u46, u47, u48, u49, u50, u51, u52, u53, u54, u55, u56, u57, u58, u59, u60, u61, u62, u63, u64, u65, u66, u67, u68, u69, u70, u71, u72, u73, u74, u75, u76, u77, u78, u79, u80, u81, u82, u83, u84, u85, u86, u87, u88, u89, u90, u91, u92, u93, u94, u95, u96, u97, u98, u99, u100, u101, u102, u103, u104, u105, u106, u107, u108, u109, u110, u111, u112, u113, u114, u115, u116, u117, u118], defers := [] } wc := by
  obtain ⟨c_, hc_⟩ : ∃ c_, c_ = laws_FnExactJoinMeanders.rest := ⟨_, rfl⟩
  rw [← hc_] at a1_
  conv at hc_ =>
    rhs
    whnf
  subst hc_
  obtain ⟨c_, hc_⟩ : ∃ c_, c_ = laws_FnExactJoinMeanders.joint := ⟨_, rfl⟩
  rw [← hc_] at a2_
  conv at hc_ =>
    rhs
    whnf
  subst hc_
  clear HC114
  try clear c1
  try clear p2
  try clear c6
  try clear c8
  try clear c9
  try clear c12
  try clear c13
  try clear c14
  try clear c15
  try clear c16
  try clear c125
  try clear c126
  try clear c127
  try clear c128
  try clear c129
  try clear c132
  try clear c133
  try clear c134
  try clear c135
  try clear c138
  try clear c138b0
  try clear c140
  try clear c141
  try clear c142
  try clear c143
  try clear c144
  try clear c145
  try clear c147
  try clear c148
  try clear c149
  try clear c150
  try clear c153
  try clear c154
  try clear c155
  try clear c156
  try clear c157
  try clear c159
  try clear c160
  try clear c161
  try clear c162
  try clear hcz130_0
  try clear hcz130_1
  try clear hcz136_0
  try clear hcz136_1
  try clear hcz146_0
  try clear hcz146_1
  try clear hcz151_0
  try clear hcz151_1
  try clear hcz158_0
  try clear hcz158_1
  try clear hcz163_0
  try clear hcz163_1
  try clear hfz130_0
  try clear hfz130_1
  try clear hfz136_0
  try clear hfz136_1
  try clear hfz146_0
  try clear hfz146_1
  try clear hfz151_0
  try clear hfz151_1
  try clear hfz158_0
  try clear hfz158_1
  try clear hfz163_0
  try clear hfz163_1
  obtain ⟨kq, x82_113, rfl, HA, HJ113, HO_244000, HO_244001, HO_251000, HO_251001, HO_258000, HO_258001, HO_266000, HO_266001, BK220, BK221, BK243, BK250, BK257, BK265, HB⟩ := hcut
  have hl251000_113 := (Kd.R_reads' HO_251000.out).1
  rw [hl251000_113] at HO_251000
  (try simp only [hl251000_113])
  (try simp only [hl251000_113] at BK220)
  (try simp only [hl251000_113] at BK221)
  (try simp only [hl251000_113] at BK243)
  (try simp only [hl251000_113] at BK250)
  (try simp only [hl251000_113] at BK257)
  (try simp only [hl251000_113] at BK265)
  (try simp only [hl251000_113] at HO_244000)
  (try simp only [hl251000_113] at HO_244001)
  (try simp only [hl251000_113] at HO_251001)
  (try simp only [hl251000_113] at HO_258000)
  (try simp only [hl251000_113] at HO_258001)
  (try simp only [hl251000_113] at HO_266000)
  (try simp only [hl251000_113] at HO_266001)
  have hl251001_113 := (Kd.R_reads' HO_251001.out).1
  rw [hl251001_113] at HO_251001
  (try simp only [hl251001_113])
  (try simp only [hl251001_113] at BK220)
  (try simp only [hl251001_113] at BK221)
  (try simp only [hl251001_113] at BK243)
  (try simp only [hl251001_113] at BK250)
  (try simp only [hl251001_113] at BK257)
  (try simp only [hl251001_113] at BK265)
  (try simp only [hl251001_113] at HO_244000)
  (try simp only [hl251001_113] at HO_244001)
  (try simp only [hl251001_113] at HO_251000)
  (try simp only [hl251001_113] at HO_258000)
  (try simp only [hl251001_113] at HO_258001)
  (try simp only [hl251001_113] at HO_266000)
  (try simp only [hl251001_113] at HO_266001)
  have hl258000_113 := (Kd.R_reads' HO_258000.out).1
  rw [hl258000_113] at HO_258000
  (try simp only [hl258000_113])
  (try simp only [hl258000_113] at BK220)
  (try simp only [hl258000_113] at BK221)
  (try simp only [hl258000_113] at BK243)
  (try simp only [hl258000_113] at BK250)
  (try simp only [hl258000_113] at BK257)
  (try simp only [hl258000_113] at BK265)
  (try simp only [hl258000_113] at HO_244000)
  (try simp only [hl258000_113] at HO_244001)
  (try simp only [hl258000_113] at HO_251000)
  (try simp only [hl258000_113] at HO_251001)
  (try simp only [hl258000_113] at HO_258001)
  (try simp only [hl258000_113] at HO_266000)
  (try simp only [hl258000_113] at HO_266001)
  have hl258001_113 := (Kd.R_reads' HO_258001.out).1
  rw [hl258001_113] at HO_258001
  (try simp only [hl258001_113])
  (try simp only [hl258001_113] at BK220)
  (try simp only [hl258001_113] at BK221)
  (try simp only [hl258001_113] at BK243)
  (try simp only [hl258001_113] at BK250)
  (try simp only [hl258001_113] at BK257)
  (try simp only [hl258001_113] at BK265)
  (try simp only [hl258001_113] at HO_244000)
  (try simp only [hl258001_113] at HO_244001)
  (try simp only [hl258001_113] at HO_251000)
  (try simp only [hl258001_113] at HO_251001)
  (try simp only [hl258001_113] at HO_258000)
  (try simp only [hl258001_113] at HO_266000)
  (try simp only [hl258001_113] at HO_266001)
  cases kq with
  | zero => exact absurd HA.out (by simp [laws_FnExactJoinMeanders.j1])
  | succ kj113 =>
   have H := HA.out
   clear HA
   simp only [laws_FnExactJoinMeanders.j1] at H
   by_cases c165 : x82_113 = true
   ·subst c165
    have H1 : (some false) = some r := by rw [if_pos rfl] at H; exact H
    rw [hr_] at H1; exact absurd H1 (by decide)
   ·replace c165 := Bool.eq_false_iff.mpr c165
    subst c165
    have H1 : ((laws_markMeander.f kj113 t258 t261 1).bind fun bt288 => ((laws_heldMeander.f kj113 bt288.2.1 bt288.2.2 1).bind fun t291 => (if t291 < 0 then (some false) else (if t291 = bt288.1 then ((laws_toMeander.f kj113 l0_0 l0_1).bind fun bt292 => ((laws_toMeander.f kj113 l1_0 l1_1).bind fun bt298 => ((impl_JoinMeanders.f kj113 bt292.1 bt292.2 bt298.1 bt298.2).bind fun bt304 => ((laws_eqMeander.f kj113 bt304.1 bt304.2.1 t236 t239).bind fun t312 => (if t312 = true then (laws_FnExactJoinMeanders.j2 kj113 bt288.1 (bt304.2.2 != t242) bt288.2.1 bt288.2.2) else (laws_FnExactJoinMeanders.j2 kj113 bt288.1 true bt288.2.1 bt288.2.2)))))) else (some false))))) = some r := by rw [if_neg (show ¬ (false = true) by decide)] at H; exact H
    clear H
    have H := H1
    clear H1
    replace H := Option.bind_eq_some_iff.mp H
    obtain ⟨⟨t288, t289, t290⟩, A1660, H⟩ := H
    replace H : ((laws_heldMeander.f kj113 t289 t290 1).bind fun t291 => (if t291 < 0 then (some false) else (if t291 = t288 then ((laws_toMeander.f kj113 l0_0 l0_1).bind fun bt292 => ((laws_toMeander.f kj113 l1_0 l1_1).bind fun bt298 => ((impl_JoinMeanders.f kj113 bt292.1 bt292.2 bt298.1 bt298.2).bind fun bt304 => ((laws_eqMeander.f kj113 bt304.1 bt304.2.1 t236 t239).bind fun t312 => (if t312 = true then (laws_FnExactJoinMeanders.j2 kj113 t288 (bt304.2.2 != t242) t289 t290) else (laws_FnExactJoinMeanders.j2 kj113 t288 true t289 t290)))))) else (some false)))) = some r := H
    have A166 := Aside0.mk A1660
    clear A1660
    replace H := Option.bind_eq_some_iff.mp H
    obtain ⟨t291, A1670, H⟩ := H
    replace H : (if t291 < 0 then (some false) else (if t291 = t288 then ((laws_toMeander.f kj113 l0_0 l0_1).bind fun bt292 => ((laws_toMeander.f kj113 l1_0 l1_1).bind fun bt298 => ((impl_JoinMeanders.f kj113 bt292.1 bt292.2 bt298.1 bt298.2).bind fun bt304 => ((laws_eqMeander.f kj113 bt304.1 bt304.2.1 t236 t239).bind fun t312 => (if t312 = true then (laws_FnExactJoinMeanders.j2 kj113 t288 (bt304.2.2 != t242) t289 t290) else (laws_FnExactJoinMeanders.j2 kj113 t288 true t289 t290)))))) else (some false))) = some r := H
    have A167 := Aside0.mk A1670
    clear A1670
    by_cases c168 : t291 < 0
    ·rw [if_pos c168] at H
     have c168b0 : decide (t291 < 0) = true := decide_eq_true c168
     clear c168
     obtain rfl := Option.some.inj H
     have hnb169 := NB265_220.out
     have hnc169 := NB220_265.out
     have hnb170 := NB265_221.out
     have hnc170 := NB221_265.out
     have hnb171 := NB265_243.out
     have hnc171 := NB243_265.out
     have hnb172 := NB265_250.out
     have hnc172 := NB250_265.out
     have hnb173 := NB265_257.out
     have hnc173 := NB257_265.out
     have hcz174_0 : wc.cell? ⟨gb265, 0, none⟩ = some (.slice Ao71 t258.length co71) := (blk_cell BK265.out 0).trans rfl
     have hcz174_1 : wc.cell? ⟨gb265, 1, none⟩ = some (.slice Ao78 t261.length co78) := (blk_cell BK265.out 1).trans rfl
     have hfz174_0 := blk_frozen BK265.out 0
     have hfz174_1 := blk_frozen BK265.out 1
     go_wp2_with (first | ((with_reducible refine gate_callee (f := 9) rfl ?_); refine goesL_ (some 85) rfl rfl Try.func9 (by kernel_rfl) rfl #[.agg #[.slice Ao71 t258.length co71, .slice Ao78 t261.length co78], .int .i64 1] rfl (by (try simp only [List.map_toArray, List.map_cons, List.map_nil]); first | done | rfl | (simp only [List.length_drop, List.length_take]; rfl)) ?_; (with_reducible refine (laws_markMeander.calls kj113 (fun k_ => some k_ = (.slice Ao71 t258.length co71 : Value).ownBlock) (.slice Ao71 t258.length co71) t258 (fun k_ => some k_ = (.slice Ao78 t261.length co78 : Value).ownBlock) (.slice Ao78 t261.length co78) t261 1 t288 t289 t290 w _ ?side1 ?side2 ?side3 ?side4 ?side5 A166.out).mono ?_); (case side1 => repeat (first | (with_reducible first | exact HB.out | apply below_alloc | apply pw_below_drewN | apply below_drew1 | refine below_set ?_ GE220.out | refine below_set ?_ GE221.out | refine below_set ?_ GE243.out | refine below_set ?_ GE250.out | refine below_set ?_ GE257.out | refine below_set ?_ GE265.out) | exact HB.out)); (case side2 => exact Kd.R_tight rfl HO_266000.out); (case side3 => exact fun k_ e_ => (HO_266000.out.1 k_ e_.symm).2.2.2.2.2.2); (case side4 => exact Kd.R_tight rfl HO_266001.out); (case side5 => exact fun k_ e_ => (HO_266001.out.1 k_ e_.symm).2.2.2.2.2.2); rintro e w175 ⟨rfl, hy0, hy1, hb, hkp⟩; refine ⟨_, rfl, ?_⟩; replace HO_244000 := Aside0.mk (Kd.R_mono (ok' := fun k_ => some k_ ≠ (.slice Ao45 t239.length co45 : Value).ownBlock ∧ some k_ ≠ (.slice Ao51 t282.length co51 : Value).ownBlock ∧ some k_ ≠ (.slice Ao56 t283.length co56 : Value).ownBlock ∧ some k_ ≠ (.slice Ao61 t285.length co61 : Value).ownBlock ∧ some k_ ≠ (.slice Ao67 t286.length co67 : Value).ownBlock ∧ some k_ ≠ (.slice Ao71 t258.length co71 : Value).ownBlock ∧ some k_ ≠ (.slice Ao78 t261.length co78 : Value).ownBlock) (Kd.R_keptB (HO_244000.out) hkp (fun k_ hk_ hs_ => Or.elim hs_ (fun e_ => (hk_.2.2.2.2.2.1) e_) (fun e_ => (hk_.2.2.2.2.2.2) e_))) (fun k_ hk_ => ⟨hk_.1.1, hk_.1.2.1, hk_.1.2.2.1, hk_.1.2.2.2.1, hk_.1.2.2.2.2.1, hk_.1.2.2.2.2.2.1, hk_.1.2.2.2.2.2.2⟩)); replace HO_244001 := Aside0.mk (Kd.R_mono (ok' := fun k_ => some k_ ≠ (.slice Ao43 t236.length co43 : Value).ownBlock ∧ some k_ ≠ (.slice Ao51 t282.length co51 : Value).ownBlock ∧ some k_ ≠ (.slice Ao56 t283.length co56 : Value).ownBlock ∧ some k_ ≠ (.slice Ao61 t285.length co61 : Value).ownBlock ∧ some k_ ≠ (.slice Ao67 t286.length co67 : Value).ownBlock ∧ some k_ ≠ (.slice Ao71 t258.length co71 : Value).ownBlock ∧ some k_ ≠ (.slice Ao78 t261.length co78 : Value).ownBlock) (Kd.R_keptB (HO_244001.out) hkp (fun k_ hk_ hs_ => Or.elim hs_ (fun e_ => (hk_.2.2.2.2.2.1) e_) (fun e_ => (hk_.2.2.2.2.2.2) e_))) (fun k_ hk_ => ⟨hk_.1.1, hk_.1.2.1, hk_.1.2.2.1, hk_.1.2.2.2.1, hk_.1.2.2.2.2.1, hk_.1.2.2.2.2.2.1, hk_.1.2.2.2.2.2.2⟩)); replace HO_251000 := Aside0.mk (Kd.R_mono (ok' := fun k_ => some k_ ≠ (.slice Ao43 t236.length co43 : Value).ownBlock ∧ some k_ ≠ (.slice Ao45 t239.length co45 : Value).ownBlock ∧ some k_ ≠ (.slice Ao56 t283.length co56 : Value).ownBlock ∧ some k_ ≠ (.slice Ao61 t285.length co61 : Value).ownBlock ∧ some k_ ≠ (.slice Ao67 t286.length co67 : Value).ownBlock ∧ some k_ ≠ (.slice Ao71 t258.length co71 : Value).ownBlock ∧ some k_ ≠ (.slice Ao78 t261.length co78 : Value).ownBlock) (Kd.R_keptB (HO_251000.out) hkp (fun k_ hk_ hs_ => Or.elim hs_ (fun e_ => (hk_.2.2.2.2.2.1) e_) (fun e_ => (hk_.2.2.2.2.2.2) e_))) (fun k_ hk_ => ⟨hk_.1.1, hk_.1.2.1, hk_.1.2.2.1, hk_.1.2.2.2.1, hk_.1.2.2.2.2.1, hk_.1.2.2.2.2.2.1, hk_.1.2.2.2.2.2.2⟩)); replace HO_251001 := Aside0.mk (Kd.R_mono (ok' := fun k_ => some k_ ≠ (.slice Ao43 t236.length co43 : Value).ownBlock ∧ some k_ ≠ (.slice Ao45 t239.length co45 : Value).ownBlock ∧ some k_ ≠ (.slice Ao51 t282.length co51 : Value).ownBlock ∧ some k_ ≠ (.slice Ao61 t285.length co61 : Value).ownBlock ∧ some k_ ≠ (.slice Ao67 t286.length co67 : Value).ownBlock ∧ some k_ ≠ (.slice Ao71 t258.length co71 : Value).ownBlock ∧ some k_ ≠ (.slice Ao78 t261.length co78 : Value).ownBlock) (Kd.R_keptB (HO_251001.out) hkp (fun k_ hk_ hs_ => Or.elim hs_ (fun e_ => (hk_.2.2.2.2.2.1) e_) (fun e_ => (hk_.2.2.2.2.2.2) e_))) (fun k_ hk_ => ⟨hk_.1.1, hk_.1.2.1, hk_.1.2.2.1, hk_.1.2.2.2.1, hk_.1.2.2.2.2.1, hk_.1.2.2.2.2.2.1, hk_.1.2.2.2.2.2.2⟩)); replace HO_258000 := Aside0.mk (Kd.R_mono (ok' := fun k_ => some k_ ≠ (.slice Ao43 t236.length co43 : Value).ownBlock ∧ some k_ ≠ (.slice Ao45 t239.length co45 : Value).ownBlock ∧ some k_ ≠ (.slice Ao51 t282.length co51 : Value).ownBlock ∧ some k_ ≠ (.slice Ao56 t283.length co56 : Value).ownBlock ∧ some k_ ≠ (.slice Ao67 t286.length co67 : Value).ownBlock ∧ some k_ ≠ (.slice Ao71 t258.length co71 : Value).ownBlock ∧ some k_ ≠ (.slice Ao78 t261.length co78 : Value).ownBlock) (Kd.R_keptB (HO_258000.out) hkp (fun k_ hk_ hs_ => Or.elim hs_ (fun e_ => (hk_.2.2.2.2.2.1) e_) (fun e_ => (hk_.2.2.2.2.2.2) e_))) (fun k_ hk_ => ⟨hk_.1.1, hk_.1.2.1, hk_.1.2.2.1, hk_.1.2.2.2.1, hk_.1.2.2.2.2.1, hk_.1.2.2.2.2.2.1, hk_.1.2.2.2.2.2.2⟩)); replace HO_258001 := Aside0.mk (Kd.R_mono (ok' := fun k_ => some k_ ≠ (.slice Ao43 t236.length co43 : Value).ownBlock ∧ some k_ ≠ (.slice Ao45 t239.length co45 : Value).ownBlock ∧ some k_ ≠ (.slice Ao51 t282.length co51 : Value).ownBlock ∧ some k_ ≠ (.slice Ao56 t283.length co56 : Value).ownBlock ∧ some k_ ≠ (.slice Ao61 t285.length co61 : Value).ownBlock ∧ some k_ ≠ (.slice Ao71 t258.length co71 : Value).ownBlock ∧ some k_ ≠ (.slice Ao78 t261.length co78 : Value).ownBlock) (Kd.R_keptB (HO_258001.out) hkp (fun k_ hk_ hs_ => Or.elim hs_ (fun e_ => (hk_.2.2.2.2.2.1) e_) (fun e_ => (hk_.2.2.2.2.2.2) e_))) (fun k_ hk_ => ⟨hk_.1.1, hk_.1.2.1, hk_.1.2.2.1, hk_.1.2.2.2.1, hk_.1.2.2.2.2.1, hk_.1.2.2.2.2.2.1, hk_.1.2.2.2.2.2.2⟩)); replace BK220 := Aside0.mk (blk_kept (by (with_reducible repeat (first | refine blk_drewN ?_ _ | refine blk_drew ?_ | refine blk_alloc ?_ _)); exact BK220.out) hkp (fun hs_ => Or.elim hs_ (fun e_ => (fun e_ => (Kd.R_ne HO_266000.out BK220.out (by decide)) e_) e_) (fun e_ => (fun e_ => (Kd.R_ne HO_266001.out BK220.out (by decide)) e_) e_))); replace BK221 := Aside0.mk (blk_kept (by (with_reducible repeat (first | refine blk_drewN ?_ _ | refine blk_drew ?_ | refine blk_alloc ?_ _)); exact BK221.out) hkp (fun hs_ => Or.elim hs_ (fun e_ => (fun e_ => (Kd.R_ne HO_266000.out BK221.out (by decide)) e_) e_) (fun e_ => (fun e_ => (Kd.R_ne HO_266001.out BK221.out (by decide)) e_) e_))); replace BK243 := Aside0.mk (blk_kept (by (with_reducible repeat (first | refine blk_drewN ?_ _ | refine blk_drew ?_ | refine blk_alloc ?_ _)); exact BK243.out) hkp (fun hs_ => Or.elim hs_ (fun e_ => (fun e_ => (Kd.R_ne HO_266000.out BK243.out (by decide)) e_) e_) (fun e_ => (fun e_ => (Kd.R_ne HO_266001.out BK243.out (by decide)) e_) e_))); replace BK250 := Aside0.mk (blk_kept (by (with_reducible repeat (first | refine blk_drewN ?_ _ | refine blk_drew ?_ | refine blk_alloc ?_ _)); exact BK250.out) hkp (fun hs_ => Or.elim hs_ (fun e_ => (fun e_ => (Kd.R_ne HO_266000.out BK250.out (by decide)) e_) e_) (fun e_ => (fun e_ => (Kd.R_ne HO_266001.out BK250.out (by decide)) e_) e_))); replace BK257 := Aside0.mk (blk_kept (by (with_reducible repeat (first | refine blk_drewN ?_ _ | refine blk_drew ?_ | refine blk_alloc ?_ _)); exact BK257.out) hkp (fun hs_ => Or.elim hs_ (fun e_ => (fun e_ => (Kd.R_ne HO_266000.out BK257.out (by decide)) e_) e_) (fun e_ => (fun e_ => (Kd.R_ne HO_266001.out BK257.out (by decide)) e_) e_))); replace BK265 := Aside0.mk (blk_kept (by (with_reducible repeat (first | refine blk_drewN ?_ _ | refine blk_drew ?_ | refine blk_alloc ?_ _)); exact BK265.out) hkp (fun hs_ => Or.elim hs_ (fun e_ => (fun e_ => (Kd.R_ne HO_266000.out BK265.out (by decide)) e_) e_) (fun e_ => (fun e_ => (Kd.R_ne HO_266001.out BK265.out (by decide)) e_) e_))); replace HO_266000 := Aside0.mk (Kd.R_reok rfl hy0 (fun k_ e_ => HO_266000.out.1 k_ e_)); replace HO_266001 := Aside0.mk (Kd.R_reok rfl hy1 (fun k_ e_ => HO_266001.out.1 k_ e_)); replace HB := Aside0.mk (hb); (try clear hb); (try clear hkp); (try clear hy0); (try clear hy1); have hcz176_0 : w175.cell? ⟨gb265, 0, none⟩ = some (.slice Ao71 t258.length co71) := (blk_cell BK265.out 0).trans rfl; have hcz176_1 : w175.cell? ⟨gb265, 1, none⟩ = some (.slice Ao78 t261.length co78) := (blk_cell BK265.out 1).trans rfl; have hfz176_0 := blk_frozen BK265.out 0; have hfz176_1 := blk_frozen BK265.out 1) | ((with_reducible refine gate_callee (f := 10) rfl ?_); refine goesL_ (some 88) rfl rfl Try.func10 (by kernel_rfl) rfl #[.agg #[.slice Ao71 t289.length co71, .slice Ao78 t290.length co78], .int .i64 1] rfl (by (try simp only [List.map_toArray, List.map_cons, List.map_nil]); first | done | (rw [show t289.length = t258.length from (Kd.R_reads' HO_266000.out).1.symm, show t290.length = t261.length from (Kd.R_reads' HO_266001.out).1.symm] <;> rfl) | rfl | (simp only [List.length_drop, List.length_take]; rfl)) ?_; (with_reducible refine (laws_heldMeander.calls kj113 _ _ t289 _ _ t290 1 t291 _ ?side1 ?side2 ?side3 ?side4 A167.out).mono ?_); (case side1 => repeat (first | exact (Kd.R_reads' HO_266000.out).2.2 | (with_reducible refine Kd.C_alloc ?_ _) | (with_reducible refine Kd.C_drewN ?_ _) | (with_reducible refine Kd.C_drew ?_))); (case side2 => rw [show t289.length = t258.length from (Kd.R_reads' HO_266000.out).1.symm]; exact (Kd.R_reads' HO_266000.out).2.1); (case side3 => repeat (first | exact (Kd.R_reads' HO_266001.out).2.2 | (with_reducible refine Kd.C_alloc ?_ _) | (with_reducible refine Kd.C_drewN ?_ _) | (with_reducible refine Kd.C_drew ?_))); (case side4 => rw [show t290.length = t261.length from (Kd.R_reads' HO_266001.out).1.symm]; exact (Kd.R_reads' HO_266001.out).2.1); rintro e w177 ⟨rfl, hb⟩; refine ⟨_, rfl, ?_⟩; replace HO_244000 := Aside0.mk (Kd.R_below (by (with_reducible repeat (first | apply Kd.R_alloc | apply Kd.R_drewN | apply Kd.R_drew)); exact HO_244000.out) hb); replace HO_244001 := Aside0.mk (Kd.R_below (by (with_reducible repeat (first | apply Kd.R_alloc | apply Kd.R_drewN | apply Kd.R_drew)); exact HO_244001.out) hb); replace HO_251000 := Aside0.mk (Kd.R_below (by (with_reducible repeat (first | apply Kd.R_alloc | apply Kd.R_drewN | apply Kd.R_drew)); exact HO_251000.out) hb); replace HO_251001 := Aside0.mk (Kd.R_below (by (with_reducible repeat (first | apply Kd.R_alloc | apply Kd.R_drewN | apply Kd.R_drew)); exact HO_251001.out) hb); replace HO_258000 := Aside0.mk (Kd.R_below (by (with_reducible repeat (first | apply Kd.R_alloc | apply Kd.R_drewN | apply Kd.R_drew)); exact HO_258000.out) hb); replace HO_258001 := Aside0.mk (Kd.R_below (by (with_reducible repeat (first | apply Kd.R_alloc | apply Kd.R_drewN | apply Kd.R_drew)); exact HO_258001.out) hb); replace HO_266000 := Aside0.mk (Kd.R_below (by (with_reducible repeat (first | apply Kd.R_alloc | apply Kd.R_drewN | apply Kd.R_drew)); exact HO_266000.out) hb); replace HO_266001 := Aside0.mk (Kd.R_below (by (with_reducible repeat (first | apply Kd.R_alloc | apply Kd.R_drewN | apply Kd.R_drew)); exact HO_266001.out) hb); replace BK220 := Aside0.mk (blk_below (g := gb220) (o := .cells #[.slice A0_0 l0_0.length c0_0, .slice A0_1 l0_1.length c0_1] 24 (0, 0)) (by (with_reducible repeat (first | refine blk_drewN ?_ _ | refine blk_drew ?_ | refine blk_alloc ?_ _)); exact BK220.out) hb); replace BK221 := Aside0.mk (blk_below (g := gb221) (o := .cells #[.slice A1_0 l1_0.length c1_0, .slice A1_1 l1_1.length c1_1] 24 (0, 0)) (by (with_reducible repeat (first | refine blk_drewN ?_ _ | refine blk_drew ?_ | refine blk_alloc ?_ _)); exact BK221.out) hb); replace BK243 := Aside0.mk (blk_below (g := gb243) (o := .cells #[.slice Ao43 t236.length co43, .slice Ao45 t239.length co45] 26 (0, 0)) (by (with_reducible repeat (first | refine blk_drewN ?_ _ | refine blk_drew ?_ | refine blk_alloc ?_ _)); exact BK243.out) hb); replace BK250 := Aside0.mk (blk_below (g := gb250) (o := .cells #[.slice Ao51 t282.length co51, .slice Ao56 t283.length co56] 26 (0, 0)) (by (with_reducible repeat (first | refine blk_drewN ?_ _ | refine blk_drew ?_ | refine blk_alloc ?_ _)); exact BK250.out) hb); replace BK257 := Aside0.mk (blk_below (g := gb257) (o := .cells #[.slice Ao61 t285.length co61, .slice Ao67 t286.length co67] 26 (0, 0)) (by (with_reducible repeat (first | refine blk_drewN ?_ _ | refine blk_drew ?_ | refine blk_alloc ?_ _)); exact BK257.out) hb); replace BK265 := Aside0.mk (blk_below (g := gb265) (o := .cells #[.slice Ao71 t258.length co71, .slice Ao78 t261.length co78] 26 (0, 0)) (by (with_reducible repeat (first | refine blk_drewN ?_ _ | refine blk_drew ?_ | refine blk_alloc ?_ _)); exact BK265.out) hb); replace HB := Aside0.mk (below_step (by repeat (first | (with_reducible first | exact HB.out | apply below_alloc | apply pw_below_drewN | apply below_drew1 | refine below_set ?_ GE220.out | refine below_set ?_ GE221.out | refine below_set ?_ GE243.out | refine below_set ?_ GE250.out | refine below_set ?_ GE257.out | refine below_set ?_ GE265.out) | exact HB.out)) hb); (try clear hb); (try clear hb2); (try clear hk); (try clear hi)))
     go_ret
     exact ⟨by first | rfl | (simp [errW_none, errW_some] <;> rfl) | (simp [*, errW_none, errW_some] <;> rfl), by repeat (first | (with_reducible first | exact HB.out | apply below_alloc | apply pw_below_drewN | apply below_drew1 | refine below_set ?_ GE220.out | refine below_set ?_ GE221.out | refine below_set ?_ GE243.out | refine below_set ?_ GE250.out | refine below_set ?_ GE257.out | refine below_set ?_ GE265.out) | exact HB.out)⟩
    ·rw [if_neg c168] at H
     have c168b0 : decide (t291 < 0) = false := decide_eq_false c168
     clear c168
     by_cases c178 : t291 = t288
     ·rw [if_pos c178] at H
      have c178b0 : (t291 == t288) = true := beq_iff_eq.mpr c178
      have c178b1 : (t291 != t288) = false := bne_eq_false_iff_eq.mpr c178
      clear c178
      replace H := Option.bind_eq_some_iff.mp H
      obtain ⟨⟨t292, t295⟩, A1790, H⟩ := H
      replace H : ((laws_toMeander.f kj113 l1_0 l1_1).bind fun bt298 => ((impl_JoinMeanders.f kj113 t292 t295 bt298.1 bt298.2).bind fun bt304 => ((laws_eqMeander.f kj113 bt304.1 bt304.2.1 t236 t239).bind fun t312 => (if t312 = true then (laws_FnExactJoinMeanders.j2 kj113 t288 (bt304.2.2 != t242) t289 t290) else (laws_FnExactJoinMeanders.j2 kj113 t288 true t289 t290))))) = some r := H
      have A179 := Aside0.mk A1790
      clear A1790
      replace H := Option.bind_eq_some_iff.mp H
      obtain ⟨⟨t298, t301⟩, A1800, H⟩ := H
      replace H : ((impl_JoinMeanders.f kj113 t292 t295 t298 t301).bind fun bt304 => ((laws_eqMeander.f kj113 bt304.1 bt304.2.1 t236 t239).bind fun t312 => (if t312 = true then (laws_FnExactJoinMeanders.j2 kj113 t288 (bt304.2.2 != t242) t289 t290) else (laws_FnExactJoinMeanders.j2 kj113 t288 true t289 t290)))) = some r := H
      have A180 := Aside0.mk A1800
      clear A1800
      replace H := Option.bind_eq_some_iff.mp H
      obtain ⟨⟨t304, t307, t310⟩, A1810, H⟩ := H
      replace H : ((laws_eqMeander.f kj113 t304 t307 t236 t239).bind fun t312 => (if t312 = true then (laws_FnExactJoinMeanders.j2 kj113 t288 (t310 != t242) t289 t290) else (laws_FnExactJoinMeanders.j2 kj113 t288 true t289 t290))) = some r := H
      have A181 := Aside0.mk A1810
      clear A1810
      have HC182 := Aside0.mk H
      clear H
      have hnb183 := NB265_220.out
      have hnc183 := NB220_265.out
      have hnb184 := NB265_221.out
      have hnc184 := NB221_265.out
      have hnb185 := NB265_243.out
      have hnc185 := NB243_265.out
      have hnb186 := NB265_250.out
      have hnc186 := NB250_265.out
      have hnb187 := NB265_257.out
      have hnc187 := NB257_265.out
      have hcz188_0 : wc.cell? ⟨gb265, 0, none⟩ = some (.slice Ao71 t258.length co71) := (blk_cell BK265.out 0).trans rfl
      have hcz188_1 : wc.cell? ⟨gb265, 1, none⟩ = some (.slice Ao78 t261.length co78) := (blk_cell BK265.out 1).trans rfl
      have hfz188_0 := blk_frozen BK265.out 0
      have hfz188_1 := blk_frozen BK265.out 1
      try go_wp2_with (first | ((with_reducible refine gate_callee (f := 9) rfl ?_); refine goesL_ (some 85) rfl rfl Try.func9 (by kernel_rfl) rfl #[.agg #[.slice Ao71 t258.length co71, .slice Ao78 t261.length co78], .int .i64 1] rfl (by (try simp only [List.map_toArray, List.map_cons, List.map_nil]); first | done | rfl | (simp only [List.length_drop, List.length_take]; rfl)) ?_; (with_reducible refine (laws_markMeander.calls kj113 (fun k_ => some k_ = (.slice Ao71 t258.length co71 : Value).ownBlock) (.slice Ao71 t258.length co71) t258 (fun k_ => some k_ = (.slice Ao78 t261.length co78 : Value).ownBlock) (.slice Ao78 t261.length co78) t261 1 t288 t289 t290 w _ ?side1 ?side2 ?side3 ?side4 ?side5 A166.out).mono ?_); (case side1 => repeat (first | (with_reducible first | exact HB.out | apply below_alloc | apply pw_below_drewN | apply below_drew1 | refine below_set ?_ GE220.out | refine below_set ?_ GE221.out | refine below_set ?_ GE243.out | refine below_set ?_ GE250.out | refine below_set ?_ GE257.out | refine below_set ?_ GE265.out) | exact HB.out)); (case side2 => exact Kd.R_tight rfl HO_266000.out); (case side3 => exact fun k_ e_ => (HO_266000.out.1 k_ e_.symm).2.2.2.2.2.2); (case side4 => exact Kd.R_tight rfl HO_266001.out); (case side5 => exact fun k_ e_ => (HO_266001.out.1 k_ e_.symm).2.2.2.2.2.2); rintro e w189 ⟨rfl, hy0, hy1, hb, hkp⟩; refine ⟨_, rfl, ?_⟩; replace HO_244000 := Aside0.mk (Kd.R_mono (ok' := fun k_ => some k_ ≠ (.slice Ao45 t239.length co45 : Value).ownBlock ∧ some k_ ≠ (.slice Ao51 t282.length co51 : Value).ownBlock ∧ some k_ ≠ (.slice Ao56 t283.length co56 : Value).ownBlock ∧ some k_ ≠ (.slice Ao61 t285.length co61 : Value).ownBlock ∧ some k_ ≠ (.slice Ao67 t286.length co67 : Value).ownBlock ∧ some k_ ≠ (.slice Ao71 t258.length co71 : Value).ownBlock ∧ some k_ ≠ (.slice Ao78 t261.length co78 : Value).ownBlock) (Kd.R_keptB (HO_244000.out) hkp (fun k_ hk_ hs_ => Or.elim hs_ (fun e_ => (hk_.2.2.2.2.2.1) e_) (fun e_ => (hk_.2.2.2.2.2.2) e_))) (fun k_ hk_ => ⟨hk_.1.1, hk_.1.2.1, hk_.1.2.2.1, hk_.1.2.2.2.1, hk_.1.2.2.2.2.1, hk_.1.2.2.2.2.2.1, hk_.1.2.2.2.2.2.2⟩)); replace HO_244001 := Aside0.mk (Kd.R_mono (ok' := fun k_ => some k_ ≠ (.slice Ao43 t236.length co43 : Value).ownBlock ∧ some k_ ≠ (.slice Ao51 t282.length co51 : Value).ownBlock ∧ some k_ ≠ (.slice Ao56 t283.length co56 : Value).ownBlock ∧ some k_ ≠ (.slice Ao61 t285.length co61 : Value).ownBlock ∧ some k_ ≠ (.slice Ao67 t286.length co67 : Value).ownBlock ∧ some k_ ≠ (.slice Ao71 t258.length co71 : Value).ownBlock ∧ some k_ ≠ (.slice Ao78 t261.length co78 : Value).ownBlock) (Kd.R_keptB (HO_244001.out) hkp (fun k_ hk_ hs_ => Or.elim hs_ (fun e_ => (hk_.2.2.2.2.2.1) e_) (fun e_ => (hk_.2.2.2.2.2.2) e_))) (fun k_ hk_ => ⟨hk_.1.1, hk_.1.2.1, hk_.1.2.2.1, hk_.1.2.2.2.1, hk_.1.2.2.2.2.1, hk_.1.2.2.2.2.2.1, hk_.1.2.2.2.2.2.2⟩)); replace HO_251000 := Aside0.mk (Kd.R_mono (ok' := fun k_ => some k_ ≠ (.slice Ao43 t236.length co43 : Value).ownBlock ∧ some k_ ≠ (.slice Ao45 t239.length co45 : Value).ownBlock ∧ some k_ ≠ (.slice Ao56 t283.length co56 : Value).ownBlock ∧ some k_ ≠ (.slice Ao61 t285.length co61 : Value).ownBlock ∧ some k_ ≠ (.slice Ao67 t286.length co67 : Value).ownBlock ∧ some k_ ≠ (.slice Ao71 t258.length co71 : Value).ownBlock ∧ some k_ ≠ (.slice Ao78 t261.length co78 : Value).ownBlock) (Kd.R_keptB (HO_251000.out) hkp (fun k_ hk_ hs_ => Or.elim hs_ (fun e_ => (hk_.2.2.2.2.2.1) e_) (fun e_ => (hk_.2.2.2.2.2.2) e_))) (fun k_ hk_ => ⟨hk_.1.1, hk_.1.2.1, hk_.1.2.2.1, hk_.1.2.2.2.1, hk_.1.2.2.2.2.1, hk_.1.2.2.2.2.2.1, hk_.1.2.2.2.2.2.2⟩)); replace HO_251001 := Aside0.mk (Kd.R_mono (ok' := fun k_ => some k_ ≠ (.slice Ao43 t236.length co43 : Value).ownBlock ∧ some k_ ≠ (.slice Ao45 t239.length co45 : Value).ownBlock ∧ some k_ ≠ (.slice Ao51 t282.length co51 : Value).ownBlock ∧ some k_ ≠ (.slice Ao61 t285.length co61 : Value).ownBlock ∧ some k_ ≠ (.slice Ao67 t286.length co67 : Value).ownBlock ∧ some k_ ≠ (.slice Ao71 t258.length co71 : Value).ownBlock ∧ some k_ ≠ (.slice Ao78 t261.length co78 : Value).ownBlock) (Kd.R_keptB (HO_251001.out) hkp (fun k_ hk_ hs_ => Or.elim hs_ (fun e_ => (hk_.2.2.2.2.2.1) e_) (fun e_ => (hk_.2.2.2.2.2.2) e_))) (fun k_ hk_ => ⟨hk_.1.1, hk_.1.2.1, hk_.1.2.2.1, hk_.1.2.2.2.1, hk_.1.2.2.2.2.1, hk_.1.2.2.2.2.2.1, hk_.1.2.2.2.2.2.2⟩)); replace HO_258000 := Aside0.mk (Kd.R_mono (ok' := fun k_ => some k_ ≠ (.slice Ao43 t236.length co43 : Value).ownBlock ∧ some k_ ≠ (.slice Ao45 t239.length co45 : Value).ownBlock ∧ some k_ ≠ (.slice Ao51 t282.length co51 : Value).ownBlock ∧ some k_ ≠ (.slice Ao56 t283.length co56 : Value).ownBlock ∧ some k_ ≠ (.slice Ao67 t286.length co67 : Value).ownBlock ∧ some k_ ≠ (.slice Ao71 t258.length co71 : Value).ownBlock ∧ some k_ ≠ (.slice Ao78 t261.length co78 : Value).ownBlock) (Kd.R_keptB (HO_258000.out) hkp (fun k_ hk_ hs_ => Or.elim hs_ (fun e_ => (hk_.2.2.2.2.2.1) e_) (fun e_ => (hk_.2.2.2.2.2.2) e_))) (fun k_ hk_ => ⟨hk_.1.1, hk_.1.2.1, hk_.1.2.2.1, hk_.1.2.2.2.1, hk_.1.2.2.2.2.1, hk_.1.2.2.2.2.2.1, hk_.1.2.2.2.2.2.2⟩)); replace HO_258001 := Aside0.mk (Kd.R_mono (ok' := fun k_ => some k_ ≠ (.slice Ao43 t236.length co43 : Value).ownBlock ∧ some k_ ≠ (.slice Ao45 t239.length co45 : Value).ownBlock ∧ some k_ ≠ (.slice Ao51 t282.length co51 : Value).ownBlock ∧ some k_ ≠ (.slice Ao56 t283.length co56 : Value).ownBlock ∧ some k_ ≠ (.slice Ao61 t285.length co61 : Value).ownBlock ∧ some k_ ≠ (.slice Ao71 t258.length co71 : Value).ownBlock ∧ some k_ ≠ (.slice Ao78 t261.length co78 : Value).ownBlock) (Kd.R_keptB (HO_258001.out) hkp (fun k_ hk_ hs_ => Or.elim hs_ (fun e_ => (hk_.2.2.2.2.2.1) e_) (fun e_ => (hk_.2.2.2.2.2.2) e_))) (fun k_ hk_ => ⟨hk_.1.1, hk_.1.2.1, hk_.1.2.2.1, hk_.1.2.2.2.1, hk_.1.2.2.2.2.1, hk_.1.2.2.2.2.2.1, hk_.1.2.2.2.2.2.2⟩)); replace BK220 := Aside0.mk (blk_kept (by (with_reducible repeat (first | refine blk_drewN ?_ _ | refine blk_drew ?_ | refine blk_alloc ?_ _)); exact BK220.out) hkp (fun hs_ => Or.elim hs_ (fun e_ => (fun e_ => (Kd.R_ne HO_266000.out BK220.out (by decide)) e_) e_) (fun e_ => (fun e_ => (Kd.R_ne HO_266001.out BK220.out (by decide)) e_) e_))); replace BK221 := Aside0.mk (blk_kept (by (with_reducible repeat (first | refine blk_drewN ?_ _ | refine blk_drew ?_ | refine blk_alloc ?_ _)); exact BK221.out) hkp (fun hs_ => Or.elim hs_ (fun e_ => (fun e_ => (Kd.R_ne HO_266000.out BK221.out (by decide)) e_) e_) (fun e_ => (fun e_ => (Kd.R_ne HO_266001.out BK221.out (by decide)) e_) e_))); replace BK243 := Aside0.mk (blk_kept (by (with_reducible repeat (first | refine blk_drewN ?_ _ | refine blk_drew ?_ | refine blk_alloc ?_ _)); exact BK243.out) hkp (fun hs_ => Or.elim hs_ (fun e_ => (fun e_ => (Kd.R_ne HO_266000.out BK243.out (by decide)) e_) e_) (fun e_ => (fun e_ => (Kd.R_ne HO_266001.out BK243.out (by decide)) e_) e_))); replace BK250 := Aside0.mk (blk_kept (by (with_reducible repeat (first | refine blk_drewN ?_ _ | refine blk_drew ?_ | refine blk_alloc ?_ _)); exact BK250.out) hkp (fun hs_ => Or.elim hs_ (fun e_ => (fun e_ => (Kd.R_ne HO_266000.out BK250.out (by decide)) e_) e_) (fun e_ => (fun e_ => (Kd.R_ne HO_266001.out BK250.out (by decide)) e_) e_))); replace BK257 := Aside0.mk (blk_kept (by (with_reducible repeat (first | refine blk_drewN ?_ _ | refine blk_drew ?_ | refine blk_alloc ?_ _)); exact BK257.out) hkp (fun hs_ => Or.elim hs_ (fun e_ => (fun e_ => (Kd.R_ne HO_266000.out BK257.out (by decide)) e_) e_) (fun e_ => (fun e_ => (Kd.R_ne HO_266001.out BK257.out (by decide)) e_) e_))); replace BK265 := Aside0.mk (blk_kept (by (with_reducible repeat (first | refine blk_drewN ?_ _ | refine blk_drew ?_ | refine blk_alloc ?_ _)); exact BK265.out) hkp (fun hs_ => Or.elim hs_ (fun e_ => (fun e_ => (Kd.R_ne HO_266000.out BK265.out (by decide)) e_) e_) (fun e_ => (fun e_ => (Kd.R_ne HO_266001.out BK265.out (by decide)) e_) e_))); replace HO_266000 := Aside0.mk (Kd.R_reok rfl hy0 (fun k_ e_ => HO_266000.out.1 k_ e_)); replace HO_266001 := Aside0.mk (Kd.R_reok rfl hy1 (fun k_ e_ => HO_266001.out.1 k_ e_)); replace HB := Aside0.mk (hb); (try clear hb); (try clear hkp); (try clear hy0); (try clear hy1); have hcz190_0 : w189.cell? ⟨gb265, 0, none⟩ = some (.slice Ao71 t258.length co71) := (blk_cell BK265.out 0).trans rfl; have hcz190_1 : w189.cell? ⟨gb265, 1, none⟩ = some (.slice Ao78 t261.length co78) := (blk_cell BK265.out 1).trans rfl; have hfz190_0 := blk_frozen BK265.out 0; have hfz190_1 := blk_frozen BK265.out 1) | ((with_reducible refine gate_callee (f := 10) rfl ?_); refine goesL_ (some 88) rfl rfl Try.func10 (by kernel_rfl) rfl #[.agg #[.slice Ao71 t289.length co71, .slice Ao78 t290.length co78], .int .i64 1] rfl (by (try simp only [List.map_toArray, List.map_cons, List.map_nil]); first | done | (rw [show t289.length = t258.length from (Kd.R_reads' HO_266000.out).1.symm, show t290.length = t261.length from (Kd.R_reads' HO_266001.out).1.symm] <;> rfl) | rfl | (simp only [List.length_drop, List.length_take]; rfl)) ?_; (with_reducible refine (laws_heldMeander.calls kj113 _ _ t289 _ _ t290 1 t291 _ ?side1 ?side2 ?side3 ?side4 A167.out).mono ?_); (case side1 => repeat (first | exact (Kd.R_reads' HO_266000.out).2.2 | (with_reducible refine Kd.C_alloc ?_ _) | (with_reducible refine Kd.C_drewN ?_ _) | (with_reducible refine Kd.C_drew ?_))); (case side2 => rw [show t289.length = t258.length from (Kd.R_reads' HO_266000.out).1.symm]; exact (Kd.R_reads' HO_266000.out).2.1); (case side3 => repeat (first | exact (Kd.R_reads' HO_266001.out).2.2 | (with_reducible refine Kd.C_alloc ?_ _) | (with_reducible refine Kd.C_drewN ?_ _) | (with_reducible refine Kd.C_drew ?_))); (case side4 => rw [show t290.length = t261.length from (Kd.R_reads' HO_266001.out).1.symm]; exact (Kd.R_reads' HO_266001.out).2.1); rintro e w191 ⟨rfl, hb⟩; refine ⟨_, rfl, ?_⟩; replace HO_244000 := Aside0.mk (Kd.R_below (by (with_reducible repeat (first | apply Kd.R_alloc | apply Kd.R_drewN | apply Kd.R_drew)); exact HO_244000.out) hb); replace HO_244001 := Aside0.mk (Kd.R_below (by (with_reducible repeat (first | apply Kd.R_alloc | apply Kd.R_drewN | apply Kd.R_drew)); exact HO_244001.out) hb); replace HO_251000 := Aside0.mk (Kd.R_below (by (with_reducible repeat (first | apply Kd.R_alloc | apply Kd.R_drewN | apply Kd.R_drew)); exact HO_251000.out) hb); replace HO_251001 := Aside0.mk (Kd.R_below (by (with_reducible repeat (first | apply Kd.R_alloc | apply Kd.R_drewN | apply Kd.R_drew)); exact HO_251001.out) hb); replace HO_258000 := Aside0.mk (Kd.R_below (by (with_reducible repeat (first | apply Kd.R_alloc | apply Kd.R_drewN | apply Kd.R_drew)); exact HO_258000.out) hb); replace HO_258001 := Aside0.mk (Kd.R_below (by (with_reducible repeat (first | apply Kd.R_alloc | apply Kd.R_drewN | apply Kd.R_drew)); exact HO_258001.out) hb); replace HO_266000 := Aside0.mk (Kd.R_below (by (with_reducible repeat (first | apply Kd.R_alloc | apply Kd.R_drewN | apply Kd.R_drew)); exact HO_266000.out) hb); replace HO_266001 := Aside0.mk (Kd.R_below (by (with_reducible repeat (first | apply Kd.R_alloc | apply Kd.R_drewN | apply Kd.R_drew)); exact HO_266001.out) hb); replace BK220 := Aside0.mk (blk_below (g := gb220) (o := .cells #[.slice A0_0 l0_0.length c0_0, .slice A0_1 l0_1.length c0_1] 24 (0, 0)) (by (with_reducible repeat (first | refine blk_drewN ?_ _ | refine blk_drew ?_ | refine blk_alloc ?_ _)); exact BK220.out) hb); replace BK221 := Aside0.mk (blk_below (g := gb221) (o := .cells #[.slice A1_0 l1_0.length c1_0, .slice A1_1 l1_1.length c1_1] 24 (0, 0)) (by (with_reducible repeat (first | refine blk_drewN ?_ _ | refine blk_drew ?_ | refine blk_alloc ?_ _)); exact BK221.out) hb); replace BK243 := Aside0.mk (blk_below (g := gb243) (o := .cells #[.slice Ao43 t236.length co43, .slice Ao45 t239.length co45] 26 (0, 0)) (by (with_reducible repeat (first | refine blk_drewN ?_ _ | refine blk_drew ?_ | refine blk_alloc ?_ _)); exact BK243.out) hb); replace BK250 := Aside0.mk (blk_below (g := gb250) (o := .cells #[.slice Ao51 t282.length co51, .slice Ao56 t283.length co56] 26 (0, 0)) (by (with_reducible repeat (first | refine blk_drewN ?_ _ | refine blk_drew ?_ | refine blk_alloc ?_ _)); exact BK250.out) hb); replace BK257 := Aside0.mk (blk_below (g := gb257) (o := .cells #[.slice Ao61 t285.length co61, .slice Ao67 t286.length co67] 26 (0, 0)) (by (with_reducible repeat (first | refine blk_drewN ?_ _ | refine blk_drew ?_ | refine blk_alloc ?_ _)); exact BK257.out) hb); replace BK265 := Aside0.mk (blk_below (g := gb265) (o := .cells #[.slice Ao71 t258.length co71, .slice Ao78 t261.length co78] 26 (0, 0)) (by (with_reducible repeat (first | refine blk_drewN ?_ _ | refine blk_drew ?_ | refine blk_alloc ?_ _)); exact BK265.out) hb); replace HB := Aside0.mk (below_step (by repeat (first | (with_reducible first | exact HB.out | apply below_alloc | apply pw_below_drewN | apply below_drew1 | refine below_set ?_ GE220.out | refine below_set ?_ GE221.out | refine below_set ?_ GE243.out | refine below_set ?_ GE250.out | refine below_set ?_ GE257.out | refine below_set ?_ GE265.out) | exact HB.out)) hb); (try clear hb); (try clear hb2); (try clear hk); (try clear hi)))
      replace HO_244000 := Aside0.mk (Kd.R_drew HO_244000.out)
      replace HO_244001 := Aside0.mk (Kd.R_drew HO_244001.out)
      replace HO_251000 := Aside0.mk (Kd.R_drew HO_251000.out)
      replace HO_251001 := Aside0.mk (Kd.R_drew HO_251001.out)
      replace HO_258000 := Aside0.mk (Kd.R_drew HO_258000.out)
      replace HO_258001 := Aside0.mk (Kd.R_drew HO_258001.out)
      replace HO_266000 := Aside0.mk (Kd.R_drew HO_266000.out)
      replace HO_266001 := Aside0.mk (Kd.R_drew HO_266001.out)
      replace BK220 := Aside0.mk (blk_drew BK220.out)
      replace BK221 := Aside0.mk (blk_drew BK221.out)
      replace BK243 := Aside0.mk (blk_drew BK243.out)
      replace BK250 := Aside0.mk (blk_drew BK250.out)
      replace BK257 := Aside0.mk (blk_drew BK257.out)
      replace BK265 := Aside0.mk (blk_drew BK265.out)
      replace HB := Aside0.mk (below_drew1 HB.out)
      refine start_ (n := 11) (S := fun w' => w'.cell? ⟨gb220, 0, none⟩ = some (.slice A0_0 l0_0.length c0_0) ∧ w'.cell? ⟨gb220, 1, none⟩ = some (.slice A0_1 l0_1.length c0_1) ∧ w'.cell? ⟨gb221, 0, none⟩ = some (.slice A1_0 l1_0.length c1_0) ∧ w'.cell? ⟨gb221, 1, none⟩ = some (.slice A1_1 l1_1.length c1_1)) (ds := []) #[false, false, false, false, false, false, false, false, false, false, false] (by kernel_rfl) rfl rfl ⟨(blk_cell BK220.out 0).trans rfl, (blk_cell BK220.out 1).trans rfl, (blk_cell BK221.out 0).trans rfl, (blk_cell BK221.out 1).trans rfl⟩ (fun hHeld => ?_); refine with_tabW laws_FnExactJoinMeanders.tab31 laws_FnExactJoinMeanders.bits31 (fun HT_ HW_ => ?_)
      generalize w191.drew = w192 at HO_244000 HO_244001 HO_251000 HO_251001 HO_258000 HO_258001 HO_266000 HO_266001 BK220 BK221 BK243 BK250 BK257 BK265 HB hHeld ⊢
      refine take_ (i := 0) (N := some 95) (v := ?_) (a' := ?_) #[true, false, false, false, false, false, false, false, false, false, false] rfl rfl (take_ofW HT_.out HW_.out (by kernel_rfl)) (fun _ _ _ h => h) (Or.inl ⟨by rfl, ?_⟩) hHeld ?_ ?_
      rotate_left
      ·rintro w' ⟨s0, s1, s2, s3⟩
       go_simp
       with_reducible rfl
      rotate_left
      ·simp only [Act.put, List.setIfInBounds_toArray, List.set_cons_zero, List.set_cons_succ, i64_w, i32_w]
       rfl
      refine take_ (i := 2) (N := some 97) (v := ?_) (a' := ?_) #[true, false, true, false, false, false, false, false, false, false, false] rfl rfl (take_ofW HT_.out HW_.out (by kernel_rfl)) (fun _ _ _ h => h) (Or.inl ⟨by rfl, ?_⟩) hHeld ?_ ?_
      rotate_left
      ·rintro w' ⟨s0, s1, s2, s3⟩
       go_simp
       with_reducible rfl
      rotate_left
      ·simp only [Act.put, List.setIfInBounds_toArray, List.set_cons_zero, List.set_cons_succ, i64_w, i32_w]
       rfl
      refine join_ (σ := Value × Value × Value × Value × Value × Value × Nat) 2 #[true, true, true, true, true, true, true, true, true, false, false] (fun s_ => [(96, .agg #[s_.1, s_.2.1]), (98, .agg #[s_.2.2.1, s_.2.2.2.1]), (99, .tuple #[.agg #[s_.2.2.2.2.1, s_.2.2.2.2.2.1], .bool t310]), (15, .pointer (some ⟨s_.2.2.2.2.2.2, 0, none⟩)), (94, .tuple #[.agg #[s_.2.2.2.2.1, s_.2.2.2.2.2.1], .bool t310]), (100, .agg #[s_.2.2.2.2.1, s_.2.2.2.2.2.1]), (101, .bool t310)]) (fun s_ w' => (w'.cell? ⟨gb220, 0, none⟩ = some (.slice A0_0 l0_0.length c0_0) ∧ w'.cell? ⟨gb220, 1, none⟩ = some (.slice A0_1 l0_1.length c0_1) ∧ w'.cell? ⟨gb221, 0, none⟩ = some (.slice A1_0 l1_0.length c1_0) ∧ w'.cell? ⟨gb221, 1, none⟩ = some (.slice A1_1 l1_1.length c1_1)) ∧ (Kd.R (Kd.int .i64) 3 w' w.heap.size (fun k_ => some k_ ≠ (s_.2.1 : Value).ownBlock ∧ some k_ ≠ (s_.2.2.1 : Value).ownBlock ∧ some k_ ≠ (s_.2.2.2.1 : Value).ownBlock ∧ some k_ ≠ (s_.2.2.2.2.1 : Value).ownBlock ∧ some k_ ≠ (s_.2.2.2.2.2.1 : Value).ownBlock ∧ some k_ ≠ (.slice Ao43 t236.length co43 : Value).ownBlock ∧ some k_ ≠ (.slice Ao45 t239.length co45 : Value).ownBlock ∧ some k_ ≠ (.slice Ao51 t282.length co51 : Value).ownBlock ∧ some k_ ≠ (.slice Ao56 t283.length co56 : Value).ownBlock ∧ some k_ ≠ (.slice Ao61 t285.length co61 : Value).ownBlock ∧ some k_ ≠ (.slice Ao67 t286.length co67 : Value).ownBlock ∧ some k_ ≠ (.slice Ao71 t258.length co71 : Value).ownBlock ∧ some k_ ≠ (.slice Ao78 t261.length co78 : Value).ownBlock) s_.1 t292) ∧ (Kd.R (Kd.int .i64) 3 w' w.heap.size (fun k_ => some k_ ≠ (s_.1 : Value).ownBlock ∧ some k_ ≠ (s_.2.2.1 : Value).ownBlock ∧ some k_ ≠ (s_.2.2.2.1 : Value).ownBlock ∧ some k_ ≠ (s_.2.2.2.2.1 : Value).ownBlock ∧ some k_ ≠ (s_.2.2.2.2.2.1 : Value).ownBlock ∧ some k_ ≠ (.slice Ao43 t236.length co43 : Value).ownBlock ∧ some k_ ≠ (.slice Ao45 t239.length co45 : Value).ownBlock ∧ some k_ ≠ (.slice Ao51 t282.length co51 : Value).ownBlock ∧ some k_ ≠ (.slice Ao56 t283.length co56 : Value).ownBlock ∧ some k_ ≠ (.slice Ao61 t285.length co61 : Value).ownBlock ∧ some k_ ≠ (.slice Ao67 t286.length co67 : Value).ownBlock ∧ some k_ ≠ (.slice Ao71 t258.length co71 : Value).ownBlock ∧ some k_ ≠ (.slice Ao78 t261.length co78 : Value).ownBlock) s_.2.1 t295) ∧ (Kd.R (Kd.int .i64) 3 w' w.heap.size (fun k_ => some k_ ≠ (s_.1 : Value).ownBlock ∧ some k_ ≠ (s_.2.1 : Value).ownBlock ∧ some k_ ≠ (s_.2.2.2.1 : Value).ownBlock ∧ some k_ ≠ (s_.2.2.2.2.1 : Value).ownBlock ∧ some k_ ≠ (s_.2.2.2.2.2.1 : Value).ownBlock ∧ some k_ ≠ (.slice Ao43 t236.length co43 : Value).ownBlock ∧ some k_ ≠ (.slice Ao45 t239.length co45 : Value).ownBlock ∧ some k_ ≠ (.slice Ao51 t282.length co51 : Value).ownBlock ∧ some k_ ≠ (.slice Ao56 t283.length co56 : Value).ownBlock ∧ some k_ ≠ (.slice Ao61 t285.length co61 : Value).ownBlock ∧ some k_ ≠ (.slice Ao67 t286.length co67 : Value).ownBlock ∧ some k_ ≠ (.slice Ao71 t258.length co71 : Value).ownBlock ∧ some k_ ≠ (.slice Ao78 t261.length co78 : Value).ownBlock) s_.2.2.1 t298) ∧ (Kd.R (Kd.int .i64) 3 w' w.heap.size (fun k_ => some k_ ≠ (s_.1 : Value).ownBlock ∧ some k_ ≠ (s_.2.1 : Value).ownBlock ∧ some k_ ≠ (s_.2.2.1 : Value).ownBlock ∧ some k_ ≠ (s_.2.2.2.2.1 : Value).ownBlock ∧ some k_ ≠ (s_.2.2.2.2.2.1 : Value).ownBlock ∧ some k_ ≠ (.slice Ao43 t236.length co43 : Value).ownBlock ∧ some k_ ≠ (.slice Ao45 t239.length co45 : Value).ownBlock ∧ some k_ ≠ (.slice Ao51 t282.length co51 : Value).ownBlock ∧ some k_ ≠ (.slice Ao56 t283.length co56 : Value).ownBlock ∧ some k_ ≠ (.slice Ao61 t285.length co61 : Value).ownBlock ∧ some k_ ≠ (.slice Ao67 t286.length co67 : Value).ownBlock ∧ some k_ ≠ (.slice Ao71 t258.length co71 : Value).ownBlock ∧ some k_ ≠ (.slice Ao78 t261.length co78 : Value).ownBlock) s_.2.2.2.1 t301) ∧ (Kd.R (Kd.int .i64) 3 w' w.heap.size (fun k_ => some k_ ≠ (s_.1 : Value).ownBlock ∧ some k_ ≠ (s_.2.1 : Value).ownBlock ∧ some k_ ≠ (s_.2.2.1 : Value).ownBlock ∧ some k_ ≠ (s_.2.2.2.1 : Value).ownBlock ∧ some k_ ≠ (s_.2.2.2.2.2.1 : Value).ownBlock ∧ some k_ ≠ (.slice Ao43 t236.length co43 : Value).ownBlock ∧ some k_ ≠ (.slice Ao45 t239.length co45 : Value).ownBlock ∧ some k_ ≠ (.slice Ao51 t282.length co51 : Value).ownBlock ∧ some k_ ≠ (.slice Ao56 t283.length co56 : Value).ownBlock ∧ some k_ ≠ (.slice Ao61 t285.length co61 : Value).ownBlock ∧ some k_ ≠ (.slice Ao67 t286.length co67 : Value).ownBlock ∧ some k_ ≠ (.slice Ao71 t258.length co71 : Value).ownBlock ∧ some k_ ≠ (.slice Ao78 t261.length co78 : Value).ownBlock) s_.2.2.2.2.1 t304) ∧ (Kd.R (Kd.int .i64) 3 w' w.heap.size (fun k_ => some k_ ≠ (s_.1 : Value).ownBlock ∧ some k_ ≠ (s_.2.1 : Value).ownBlock ∧ some k_ ≠ (s_.2.2.1 : Value).ownBlock ∧ some k_ ≠ (s_.2.2.2.1 : Value).ownBlock ∧ some k_ ≠ (s_.2.2.2.2.1 : Value).ownBlock ∧ some k_ ≠ (.slice Ao43 t236.length co43 : Value).ownBlock ∧ some k_ ≠ (.slice Ao45 t239.length co45 : Value).ownBlock ∧ some k_ ≠ (.slice Ao51 t282.length co51 : Value).ownBlock ∧ some k_ ≠ (.slice Ao56 t283.length co56 : Value).ownBlock ∧ some k_ ≠ (.slice Ao61 t285.length co61 : Value).ownBlock ∧ some k_ ≠ (.slice Ao67 t286.length co67 : Value).ownBlock ∧ some k_ ≠ (.slice Ao71 t258.length co71 : Value).ownBlock ∧ some k_ ≠ (.slice Ao78 t261.length co78 : Value).ownBlock) s_.2.2.2.2.2.1 t307) ∧ (Kd.R (Kd.int .i64) 3 w' w.heap.size (fun k_ => some k_ ≠ (s_.1 : Value).ownBlock ∧ some k_ ≠ (s_.2.1 : Value).ownBlock ∧ some k_ ≠ (s_.2.2.1 : Value).ownBlock ∧ some k_ ≠ (s_.2.2.2.1 : Value).ownBlock ∧ some k_ ≠ (s_.2.2.2.2.1 : Value).ownBlock ∧ some k_ ≠ (s_.2.2.2.2.2.1 : Value).ownBlock ∧ some k_ ≠ (.slice Ao45 t239.length co45 : Value).ownBlock ∧ some k_ ≠ (.slice Ao51 t282.length co51 : Value).ownBlock ∧ some k_ ≠ (.slice Ao56 t283.length co56 : Value).ownBlock ∧ some k_ ≠ (.slice Ao61 t285.length co61 : Value).ownBlock ∧ some k_ ≠ (.slice Ao67 t286.length co67 : Value).ownBlock ∧ some k_ ≠ (.slice Ao71 t258.length co71 : Value).ownBlock ∧ some k_ ≠ (.slice Ao78 t261.length co78 : Value).ownBlock) (.slice Ao43 t236.length co43) t236) ∧ (Kd.R (Kd.int .i64) 3 w' w.heap.size (fun k_ => some k_ ≠ (s_.1 : Value).ownBlock ∧ some k_ ≠ (s_.2.1 : Value).ownBlock ∧ some k_ ≠ (s_.2.2.1 : Value).ownBlock ∧ some k_ ≠ (s_.2.2.2.1 : Value).ownBlock ∧ some k_ ≠ (s_.2.2.2.2.1 : Value).ownBlock ∧ some k_ ≠ (s_.2.2.2.2.2.1 : Value).ownBlock ∧ some k_ ≠ (.slice Ao43 t236.length co43 : Value).ownBlock ∧ some k_ ≠ (.slice Ao51 t282.length co51 : Value).ownBlock ∧ some k_ ≠ (.slice Ao56 t283.length co56 : Value).ownBlock ∧ some k_ ≠ (.slice Ao61 t285.length co61 : Value).ownBlock ∧ some k_ ≠ (.slice Ao67 t286.length co67 : Value).ownBlock ∧ some k_ ≠ (.slice Ao71 t258.length co71 : Value).ownBlock ∧ some k_ ≠ (.slice Ao78 t261.length co78 : Value).ownBlock) (.slice Ao45 t239.length co45) t239) ∧ (Kd.R (Kd.int .i64) 3 w' w.heap.size (fun k_ => some k_ ≠ (s_.1 : Value).ownBlock ∧ some k_ ≠ (s_.2.1 : Value).ownBlock ∧ some k_ ≠ (s_.2.2.1 : Value).ownBlock ∧ some k_ ≠ (s_.2.2.2.1 : Value).ownBlock ∧ some k_ ≠ (s_.2.2.2.2.1 : Value).ownBlock ∧ some k_ ≠ (s_.2.2.2.2.2.1 : Value).ownBlock ∧ some k_ ≠ (.slice Ao43 t236.length co43 : Value).ownBlock ∧ some k_ ≠ (.slice Ao45 t239.length co45 : Value).ownBlock ∧ some k_ ≠ (.slice Ao56 t283.length co56 : Value).ownBlock ∧ some k_ ≠ (.slice Ao61 t285.length co61 : Value).ownBlock ∧ some k_ ≠ (.slice Ao67 t286.length co67 : Value).ownBlock ∧ some k_ ≠ (.slice Ao71 t258.length co71 : Value).ownBlock ∧ some k_ ≠ (.slice Ao78 t261.length co78 : Value).ownBlock) (.slice Ao51 t282.length co51) t282) ∧ (Kd.R (Kd.int .i64) 3 w' w.heap.size (fun k_ => some k_ ≠ (s_.1 : Value).ownBlock ∧ some k_ ≠ (s_.2.1 : Value).ownBlock ∧ some k_ ≠ (s_.2.2.1 : Value).ownBlock ∧ some k_ ≠ (s_.2.2.2.1 : Value).ownBlock ∧ some k_ ≠ (s_.2.2.2.2.1 : Value).ownBlock ∧ some k_ ≠ (s_.2.2.2.2.2.1 : Value).ownBlock ∧ some k_ ≠ (.slice Ao43 t236.length co43 : Value).ownBlock ∧ some k_ ≠ (.slice Ao45 t239.length co45 : Value).ownBlock ∧ some k_ ≠ (.slice Ao51 t282.length co51 : Value).ownBlock ∧ some k_ ≠ (.slice Ao61 t285.length co61 : Value).ownBlock ∧ some k_ ≠ (.slice Ao67 t286.length co67 : Value).ownBlock ∧ some k_ ≠ (.slice Ao71 t258.length co71 : Value).ownBlock ∧ some k_ ≠ (.slice Ao78 t261.length co78 : Value).ownBlock) (.slice Ao56 t283.length co56) t283) ∧ (Kd.R (Kd.int .i64) 3 w' w.heap.size (fun k_ => some k_ ≠ (s_.1 : Value).ownBlock ∧ some k_ ≠ (s_.2.1 : Value).ownBlock ∧ some k_ ≠ (s_.2.2.1 : Value).ownBlock ∧ some k_ ≠ (s_.2.2.2.1 : Value).ownBlock ∧ some k_ ≠ (s_.2.2.2.2.1 : Value).ownBlock ∧ some k_ ≠ (s_.2.2.2.2.2.1 : Value).ownBlock ∧ some k_ ≠ (.slice Ao43 t236.length co43 : Value).ownBlock ∧ some k_ ≠ (.slice Ao45 t239.length co45 : Value).ownBlock ∧ some k_ ≠ (.slice Ao51 t282.length co51 : Value).ownBlock ∧ some k_ ≠ (.slice Ao56 t283.length co56 : Value).ownBlock ∧ some k_ ≠ (.slice Ao67 t286.length co67 : Value).ownBlock ∧ some k_ ≠ (.slice Ao71 t258.length co71 : Value).ownBlock ∧ some k_ ≠ (.slice Ao78 t261.length co78 : Value).ownBlock) (.slice Ao61 t285.length co61) t285) ∧ (Kd.R (Kd.int .i64) 3 w' w.heap.size (fun k_ => some k_ ≠ (s_.1 : Value).ownBlock ∧ some k_ ≠ (s_.2.1 : Value).ownBlock ∧ some k_ ≠ (s_.2.2.1 : Value).ownBlock ∧ some k_ ≠ (s_.2.2.2.1 : Value).ownBlock ∧ some k_ ≠ (s_.2.2.2.2.1 : Value).ownBlock ∧ some k_ ≠ (s_.2.2.2.2.2.1 : Value).ownBlock ∧ some k_ ≠ (.slice Ao43 t236.length co43 : Value).ownBlock ∧ some k_ ≠ (.slice Ao45 t239.length co45 : Value).ownBlock ∧ some k_ ≠ (.slice Ao51 t282.length co51 : Value).ownBlock ∧ some k_ ≠ (.slice Ao56 t283.length co56 : Value).ownBlock ∧ some k_ ≠ (.slice Ao61 t285.length co61 : Value).ownBlock ∧ some k_ ≠ (.slice Ao71 t258.length co71 : Value).ownBlock ∧ some k_ ≠ (.slice Ao78 t261.length co78 : Value).ownBlock) (.slice Ao67 t286.length co67) t286) ∧ (Kd.R (Kd.int .i64) 3 w' w.heap.size (fun k_ => some k_ ≠ (s_.1 : Value).ownBlock ∧ some k_ ≠ (s_.2.1 : Value).ownBlock ∧ some k_ ≠ (s_.2.2.1 : Value).ownBlock ∧ some k_ ≠ (s_.2.2.2.1 : Value).ownBlock ∧ some k_ ≠ (s_.2.2.2.2.1 : Value).ownBlock ∧ some k_ ≠ (s_.2.2.2.2.2.1 : Value).ownBlock ∧ some k_ ≠ (.slice Ao43 t236.length co43 : Value).ownBlock ∧ some k_ ≠ (.slice Ao45 t239.length co45 : Value).ownBlock ∧ some k_ ≠ (.slice Ao51 t282.length co51 : Value).ownBlock ∧ some k_ ≠ (.slice Ao56 t283.length co56 : Value).ownBlock ∧ some k_ ≠ (.slice Ao61 t285.length co61 : Value).ownBlock ∧ some k_ ≠ (.slice Ao67 t286.length co67 : Value).ownBlock ∧ some k_ ≠ (.slice Ao78 t261.length co78 : Value).ownBlock) (.slice Ao71 t258.length co71) t289) ∧ (Kd.R (Kd.int .i64) 3 w' w.heap.size (fun k_ => some k_ ≠ (s_.1 : Value).ownBlock ∧ some k_ ≠ (s_.2.1 : Value).ownBlock ∧ some k_ ≠ (s_.2.2.1 : Value).ownBlock ∧ some k_ ≠ (s_.2.2.2.1 : Value).ownBlock ∧ some k_ ≠ (s_.2.2.2.2.1 : Value).ownBlock ∧ some k_ ≠ (s_.2.2.2.2.2.1 : Value).ownBlock ∧ some k_ ≠ (.slice Ao43 t236.length co43 : Value).ownBlock ∧ some k_ ≠ (.slice Ao45 t239.length co45 : Value).ownBlock ∧ some k_ ≠ (.slice Ao51 t282.length co51 : Value).ownBlock ∧ some k_ ≠ (.slice Ao56 t283.length co56 : Value).ownBlock ∧ some k_ ≠ (.slice Ao61 t285.length co61 : Value).ownBlock ∧ some k_ ≠ (.slice Ao67 t286.length co67 : Value).ownBlock ∧ some k_ ≠ (.slice Ao71 t258.length co71 : Value).ownBlock) (.slice Ao78 t261.length co78) t290) ∧ (w'.heap[gb220]? = some (.cells #[.slice A0_0 l0_0.length c0_0, .slice A0_1 l0_1.length c0_1] 24 (0, 0))) ∧ (w'.heap[gb221]? = some (.cells #[.slice A1_0 l1_0.length c1_0, .slice A1_1 l1_1.length c1_1] 24 (0, 0))) ∧ (w'.heap[gb243]? = some (.cells #[.slice Ao43 t236.length co43, .slice Ao45 t239.length co45] 26 (0, 0))) ∧ (w'.heap[gb250]? = some (.cells #[.slice Ao51 t282.length co51, .slice Ao56 t283.length co56] 26 (0, 0))) ∧ (w'.heap[gb257]? = some (.cells #[.slice Ao61 t285.length co61, .slice Ao67 t286.length co67] 26 (0, 0))) ∧ (w'.heap[gb265]? = some (.cells #[.slice Ao71 t258.length co71, .slice Ao78 t261.length co78] 26 (0, 0))) ∧ (w'.heap[s_.2.2.2.2.2.2]? = some (.cells #[.slice none 0 0, .slice none 0 0] 26 (0, 0))) ∧ (w.heap.size ≤ s_.2.2.2.2.2.2) ∧ (w.heap.size ≤ s_.2.2.2.2.2.2) ∧ (gb220 ≠ s_.2.2.2.2.2.2) ∧ (s_.2.2.2.2.2.2 ≠ gb220) ∧ (gb221 ≠ s_.2.2.2.2.2.2) ∧ (s_.2.2.2.2.2.2 ≠ gb221) ∧ (gb243 ≠ s_.2.2.2.2.2.2) ∧ (s_.2.2.2.2.2.2 ≠ gb243) ∧ (gb250 ≠ s_.2.2.2.2.2.2) ∧ (s_.2.2.2.2.2.2 ≠ gb250) ∧ (gb257 ≠ s_.2.2.2.2.2.2) ∧ (s_.2.2.2.2.2.2 ≠ gb257) ∧ (gb265 ≠ s_.2.2.2.2.2.2) ∧ (s_.2.2.2.2.2.2 ≠ gb265) ∧ (Below w.heap.size w w')) ?_ ?_
      rotate_left
      ·intro hCont
       refine two_ (i := 1) (j := 8) (Ni := some 96) (Nj := some 15) #[true, true, true, false, false, false, false, false, false, false, false] #[true, false, true, false, false, false, false, false, true, false, false] rfl rfl rfl rfl (two_of HT_.out (by kernel_rfl)) (by decide) (by decide) (fun K hK => ?_) (fun K hK => ?_)
       ·skip
        refine goes_ Try.func6 (by kernel_rfl) rfl #[.agg #[.slice A0_0 l0_0.length c0_0, .slice A0_1 l0_1.length c0_1]] (by rfl) rfl rfl (by (try simp only [List.map_toArray, List.map_cons, List.map_nil]); first | done | rfl | (simp only [List.length_drop, List.length_take]; rfl)) ?_
        with_reducible refine (laws_toMeander.calls kj113 _ _ l0_0 _ _ l0_1 t292 t295 _ ?side1 ?side2 ?side3 ?side4 A179.out).mono ?_
        (case side1 => exact (Kd.C_below HR0_0.out HB.out))
        (case side2 => exact HC0_0.out)
        (case side3 => exact (Kd.C_below HR0_1.out HB.out))
        (case side4 => exact HC0_1.out)
        rintro e w193 ⟨v293, v296, rfl, ho0, ho1, hb⟩
        refine ⟨_, rfl, ?_⟩
        have HO294 := Aside0.mk (Kd.R_lower (Kd.R_new' (Kd.R_new' (Kd.R_new' (Kd.R_new' (Kd.R_new' (Kd.R_new' (Kd.R_new' (Kd.R_new' ho0 (Kd.R_lt HO_244000.out)) (Kd.R_lt HO_244001.out)) (Kd.R_lt HO_251000.out)) (Kd.R_lt HO_251001.out)) (Kd.R_lt HO_258000.out)) (Kd.R_lt HO_258001.out)) (Kd.R_lt HO_266000.out)) (Kd.R_lt HO_266001.out)) (below_size HB.out))
        have HO297 := Aside0.mk (Kd.R_lower (Kd.R_new' (Kd.R_new' (Kd.R_new' (Kd.R_new' (Kd.R_new' (Kd.R_new' (Kd.R_new' (Kd.R_new' ho1 (Kd.R_lt HO_244000.out)) (Kd.R_lt HO_244001.out)) (Kd.R_lt HO_251000.out)) (Kd.R_lt HO_251001.out)) (Kd.R_lt HO_258000.out)) (Kd.R_lt HO_258001.out)) (Kd.R_lt HO_266000.out)) (Kd.R_lt HO_266001.out)) (below_size HB.out))
        replace HO_244000 := Aside0.mk (R2_ HO_244000.out hb ho0 ho1)
        replace HO_244001 := Aside0.mk (R2_ HO_244001.out hb ho0 ho1)
        replace HO_251000 := Aside0.mk (R2_ HO_251000.out hb ho0 ho1)
        replace HO_251001 := Aside0.mk (R2_ HO_251001.out hb ho0 ho1)
        replace HO_258000 := Aside0.mk (R2_ HO_258000.out hb ho0 ho1)
        replace HO_258001 := Aside0.mk (R2_ HO_258001.out hb ho0 ho1)
        replace HO_266000 := Aside0.mk (R2_ HO_266000.out hb ho0 ho1)
        replace HO_266001 := Aside0.mk (R2_ HO_266001.out hb ho0 ho1)
        replace BK220 := Aside0.mk (blk_below BK220.out hb)
        replace BK221 := Aside0.mk (blk_below BK221.out hb)
        replace BK243 := Aside0.mk (blk_below BK243.out hb)
        replace BK250 := Aside0.mk (blk_below BK250.out hb)
        replace BK257 := Aside0.mk (blk_below BK257.out hb)
        replace BK265 := Aside0.mk (blk_below BK265.out hb)
        replace HB := Aside0.mk (below_step HB.out hb)
        (try clear hb)
        (try clear hb2)
        (try clear hk)
        (try clear hi)
        (try clear ho0)
        (try clear ho1)
        refine hK.out _ _ ⟨(blk_cell BK220.out 0).trans rfl, (blk_cell BK220.out 1).trans rfl, (blk_cell BK221.out 0).trans rfl, (blk_cell BK221.out 1).trans rfl⟩ (fun hHeld => ?_)
        clear hK K
        refine norm_ (a' := ?_) ?_ ?_
        rotate_left
        ·show Act.put _ (some 96) _ = _
         simp only [Act.put, List.setIfInBounds_toArray, List.set_cons_zero, List.set_cons_succ, i64_w, i32_w]
         rfl
        refine two_ (i := 3) (j := 8) (Ni := some 98) (Nj := some 15) #[true, true, true, true, false, false, false, false, false, false, false] #[true, true, true, false, false, false, false, false, true, false, false] rfl rfl rfl rfl (two_of HT_.out (by kernel_rfl)) (by decide) (by decide) (fun K hK => ?_) (fun K hK => ?_)
        ·skip
         refine goes_ Try.func6 (by kernel_rfl) rfl #[.agg #[.slice A1_0 l1_0.length c1_0, .slice A1_1 l1_1.length c1_1]] (by rfl) rfl rfl (by (try simp only [List.map_toArray, List.map_cons, List.map_nil]); first | done | rfl | (simp only [List.length_drop, List.length_take]; rfl)) ?_
         with_reducible refine (laws_toMeander.calls kj113 _ _ l1_0 _ _ l1_1 t298 t301 _ ?side1 ?side2 ?side3 ?side4 A180.out).mono ?_
         (case side1 => exact (Kd.C_below HR1_0.out HB.out))
         (case side2 => exact HC1_0.out)
         (case side3 => exact (Kd.C_below HR1_1.out HB.out))
         (case side4 => exact HC1_1.out)
         rintro e w194 ⟨v299, v302, rfl, ho0, ho1, hb⟩
         refine ⟨_, rfl, ?_⟩
         have HO300 := Aside0.mk (Kd.R_lower (Kd.R_new' (Kd.R_new' (Kd.R_new' (Kd.R_new' (Kd.R_new' (Kd.R_new' (Kd.R_new' (Kd.R_new' (Kd.R_new' (Kd.R_new' ho0 (Kd.R_lt HO_244000.out)) (Kd.R_lt HO_244001.out)) (Kd.R_lt HO_251000.out)) (Kd.R_lt HO_251001.out)) (Kd.R_lt HO_258000.out)) (Kd.R_lt HO_258001.out)) (Kd.R_lt HO_266000.out)) (Kd.R_lt HO_266001.out)) (Kd.R_lt HO294.out)) (Kd.R_lt HO297.out)) (below_size HB.out))
         have HO303 := Aside0.mk (Kd.R_lower (Kd.R_new' (Kd.R_new' (Kd.R_new' (Kd.R_new' (Kd.R_new' (Kd.R_new' (Kd.R_new' (Kd.R_new' (Kd.R_new' (Kd.R_new' ho1 (Kd.R_lt HO_244000.out)) (Kd.R_lt HO_244001.out)) (Kd.R_lt HO_251000.out)) (Kd.R_lt HO_251001.out)) (Kd.R_lt HO_258000.out)) (Kd.R_lt HO_258001.out)) (Kd.R_lt HO_266000.out)) (Kd.R_lt HO_266001.out)) (Kd.R_lt HO294.out)) (Kd.R_lt HO297.out)) (below_size HB.out))
         replace HO_244000 := Aside0.mk (R2_ HO_244000.out hb ho0 ho1)
         replace HO_244001 := Aside0.mk (R2_ HO_244001.out hb ho0 ho1)
         replace HO_251000 := Aside0.mk (R2_ HO_251000.out hb ho0 ho1)
         replace HO_251001 := Aside0.mk (R2_ HO_251001.out hb ho0 ho1)
         replace HO_258000 := Aside0.mk (R2_ HO_258000.out hb ho0 ho1)
         replace HO_258001 := Aside0.mk (R2_ HO_258001.out hb ho0 ho1)
         replace HO_266000 := Aside0.mk (R2_ HO_266000.out hb ho0 ho1)
         replace HO_266001 := Aside0.mk (R2_ HO_266001.out hb ho0 ho1)
         replace HO294 := Aside0.mk (R2_ HO294.out hb ho0 ho1)
         replace HO297 := Aside0.mk (R2_ HO297.out hb ho0 ho1)
         replace BK220 := Aside0.mk (blk_below BK220.out hb)
         replace BK221 := Aside0.mk (blk_below BK221.out hb)
         replace BK243 := Aside0.mk (blk_below BK243.out hb)
         replace BK250 := Aside0.mk (blk_below BK250.out hb)
         replace BK257 := Aside0.mk (blk_below BK257.out hb)
         replace BK265 := Aside0.mk (blk_below BK265.out hb)
         replace HB := Aside0.mk (below_step HB.out hb)
         (try clear hb)
         (try clear hb2)
         (try clear hk)
         (try clear hi)
         (try clear ho0)
         (try clear ho1)
         obtain ⟨Ao195, co195, eo195⟩ := Kd.R_slice HO294.out
         (first | subst eo195 | (injection eo195 with f1_ f2_ f3_; have f4_ := f1_.symm; have f5_ := f3_.symm; clear f1_ f2_ f3_; subst f4_; subst f5_))
         obtain ⟨Ao196, co196, eo196⟩ := Kd.R_slice HO297.out
         (first | subst eo196 | (injection eo196 with f1_ f2_ f3_; have f4_ := f1_.symm; have f5_ := f3_.symm; clear f1_ f2_ f3_; subst f4_; subst f5_))
         obtain ⟨Ao197, co197, eo197⟩ := Kd.R_slice HO300.out
         (first | subst eo197 | (injection eo197 with f1_ f2_ f3_; have f4_ := f1_.symm; have f5_ := f3_.symm; clear f1_ f2_ f3_; subst f4_; subst f5_))
         obtain ⟨Ao198, co198, eo198⟩ := Kd.R_slice HO303.out
         (first | subst eo198 | (injection eo198 with f1_ f2_ f3_; have f4_ := f1_.symm; have f5_ := f3_.symm; clear f1_ f2_ f3_; subst f4_; subst f5_))
         refine hK.out _ _ ⟨(blk_cell BK220.out 0).trans rfl, (blk_cell BK220.out 1).trans rfl, (blk_cell BK221.out 0).trans rfl, (blk_cell BK221.out 1).trans rfl⟩ (fun hHeld => ?_)
         clear hK K
         refine norm_ (a' := ?_) ?_ ?_
         rotate_left
         ·show Act.put _ (some 98) _ = _
          simp only [Act.put, List.setIfInBounds_toArray, List.set_cons_zero, List.set_cons_succ, i64_w, i32_w]
          rfl
         refine two_ (i := 4) (j := 8) (Ni := some 99) (Nj := some 15) #[true, true, true, true, true, false, false, false, false, false, false] #[true, true, true, true, false, false, false, false, true, false, false] rfl rfl rfl rfl (two_of HT_.out (by kernel_rfl)) (by decide) (by decide) (fun K hK => ?_) (fun K hK => ?_)
         ·skip
          refine goes_ Try.func7 (by kernel_rfl) rfl #[.agg #[.slice Ao195 t292.length co195, .slice Ao196 t295.length co196], .agg #[.slice Ao197 t298.length co197, .slice Ao198 t301.length co198]] (by rfl) rfl rfl (by (try simp only [List.map_toArray, List.map_cons, List.map_nil]); first | done | rfl | (simp only [List.length_drop, List.length_take]; rfl)) ?_
          with_reducible refine (impl_JoinMeanders.calls kj113 _ _ t292 _ _ t295 _ _ t298 _ _ t301 t304 t307 t310 _ ?side1 ?side2 ?side3 ?side4 ?side5 ?side6 ?side7 ?side8 A181.out).mono ?_
          (case side1 => exact (Kd.R_reads' HO294.out).2.2)
          (case side2 => exact (Kd.R_reads' HO294.out).2.1)
          (case side3 => exact (Kd.R_reads' HO297.out).2.2)
          (case side4 => exact (Kd.R_reads' HO297.out).2.1)
          (case side5 => exact (Kd.R_reads' HO300.out).2.2)
          (case side6 => exact (Kd.R_reads' HO300.out).2.1)
          (case side7 => exact (Kd.R_reads' HO303.out).2.2)
          (case side8 => exact (Kd.R_reads' HO303.out).2.1)
          rintro e w199 ⟨v305, v308, rfl, ho0, ho1, hb⟩
          refine ⟨_, rfl, ?_⟩
          have HO306 := Aside0.mk (Kd.R_lower (Kd.R_new' (Kd.R_new' (Kd.R_new' (Kd.R_new' (Kd.R_new' (Kd.R_new' (Kd.R_new' (Kd.R_new' (Kd.R_new' (Kd.R_new' (Kd.R_new' (Kd.R_new' ho0 (Kd.R_lt HO_244000.out)) (Kd.R_lt HO_244001.out)) (Kd.R_lt HO_251000.out)) (Kd.R_lt HO_251001.out)) (Kd.R_lt HO_258000.out)) (Kd.R_lt HO_258001.out)) (Kd.R_lt HO_266000.out)) (Kd.R_lt HO_266001.out)) (Kd.R_lt HO294.out)) (Kd.R_lt HO297.out)) (Kd.R_lt HO300.out)) (Kd.R_lt HO303.out)) (below_size HB.out))
          have HO309 := Aside0.mk (Kd.R_lower (Kd.R_new' (Kd.R_new' (Kd.R_new' (Kd.R_new' (Kd.R_new' (Kd.R_new' (Kd.R_new' (Kd.R_new' (Kd.R_new' (Kd.R_new' (Kd.R_new' (Kd.R_new' ho1 (Kd.R_lt HO_244000.out)) (Kd.R_lt HO_244001.out)) (Kd.R_lt HO_251000.out)) (Kd.R_lt HO_251001.out)) (Kd.R_lt HO_258000.out)) (Kd.R_lt HO_258001.out)) (Kd.R_lt HO_266000.out)) (Kd.R_lt HO_266001.out)) (Kd.R_lt HO294.out)) (Kd.R_lt HO297.out)) (Kd.R_lt HO300.out)) (Kd.R_lt HO303.out)) (below_size HB.out))
          replace HO_244000 := Aside0.mk (R2_ HO_244000.out hb ho0 ho1)
          replace HO_244001 := Aside0.mk (R2_ HO_244001.out hb ho0 ho1)
          replace HO_251000 := Aside0.mk (R2_ HO_251000.out hb ho0 ho1)
          replace HO_251001 := Aside0.mk (R2_ HO_251001.out hb ho0 ho1)
          replace HO_258000 := Aside0.mk (R2_ HO_258000.out hb ho0 ho1)
          replace HO_258001 := Aside0.mk (R2_ HO_258001.out hb ho0 ho1)
          replace HO_266000 := Aside0.mk (R2_ HO_266000.out hb ho0 ho1)
          replace HO_266001 := Aside0.mk (R2_ HO_266001.out hb ho0 ho1)
          replace HO294 := Aside0.mk (R2_ HO294.out hb ho0 ho1)
          replace HO297 := Aside0.mk (R2_ HO297.out hb ho0 ho1)
          replace HO300 := Aside0.mk (R2_ HO300.out hb ho0 ho1)
          replace HO303 := Aside0.mk (R2_ HO303.out hb ho0 ho1)
          replace BK220 := Aside0.mk (blk_below BK220.out hb)
          replace BK221 := Aside0.mk (blk_below BK221.out hb)
          replace BK243 := Aside0.mk (blk_below BK243.out hb)
          replace BK250 := Aside0.mk (blk_below BK250.out hb)
          replace BK257 := Aside0.mk (blk_below BK257.out hb)
          replace BK265 := Aside0.mk (blk_below BK265.out hb)
          replace HB := Aside0.mk (below_step HB.out hb)
          (try clear hb)
          (try clear hb2)
          (try clear hk)
          (try clear hi)
          (try clear ho0)
          (try clear ho1)
          refine hK.out _ _ ⟨(blk_cell BK220.out 0).trans rfl, (blk_cell BK220.out 1).trans rfl, (blk_cell BK221.out 0).trans rfl, (blk_cell BK221.out 1).trans rfl⟩ (fun hHeld => ?_)
          clear hK K
          refine norm_ (a' := ?_) ?_ ?_
          rotate_left
          ·show Act.put _ (some 99) _ = _
           simp only [Act.put, List.setIfInBounds_toArray, List.set_cons_zero, List.set_cons_succ, i64_w, i32_w]
           rfl
          refine pure_ (i := 5) (N := some 94) (v := ?_) (a' := ?_) #[true, true, true, true, true, true, false, false, false, false, false] rfl rfl (any_of HT_.out (by kernel_rfl)) (fun _ _ _ h => h) (Or.inl ⟨by rfl, ?_⟩) ?_ ?_
          rotate_left
          ·intro w'
           go_simp
           with_reducible rfl
          rotate_left
          ·simp only [Act.put, List.setIfInBounds_toArray, List.set_cons_zero, List.set_cons_succ, i64_w, i32_w]
           rfl
          refine pure_ (i := 6) (N := some 100) (v := ?_) (a' := ?_) #[true, true, true, true, true, true, true, false, false, false, false] rfl rfl (any_of HT_.out (by kernel_rfl)) (fun _ _ _ h => h) (Or.inl ⟨by rfl, ?_⟩) ?_ ?_
          rotate_left
          ·intro w'
           go_simp
           with_reducible rfl
          rotate_left
          ·simp only [Act.put, List.setIfInBounds_toArray, List.set_cons_zero, List.set_cons_succ, i64_w, i32_w]
           rfl
          refine pure_ (i := 7) (N := some 101) (v := ?_) (a' := ?_) #[true, true, true, true, true, true, true, true, false, false, false] rfl rfl (any_of HT_.out (by kernel_rfl)) (fun _ _ _ h => h) (Or.inl ⟨by rfl, ?_⟩) ?_ ?_
          rotate_left
          ·intro w'
           go_simp
           with_reducible rfl
          rotate_left
          ·simp only [Act.put, List.setIfInBounds_toArray, List.set_cons_zero, List.set_cons_succ, i64_w, i32_w]
           rfl
          refine one_ (i := 8) (N := some 15) #[true, true, true, true, true, true, true, true, true, false, false] rfl rfl (one_of HT_.out (by kernel_rfl)) (by decide) (fun K hK => ?_)
          refine box_step ?hg (N := 15) ?hd (cs := #[.slice none 0 0, .slice none 0 0]) (t := 26) ?hr ?_; (case hd => rfl); (case hg => rfl); (case hr => first | (go_simp; done) | (go_simp; rfl))
          intro gb311 hg w200 hbox hb
          replace HO_244000 := Aside0.mk (Kd.R_below HO_244000.out hb)
          replace HO_244001 := Aside0.mk (Kd.R_below HO_244001.out hb)
          replace HO_251000 := Aside0.mk (Kd.R_below HO_251000.out hb)
          replace HO_251001 := Aside0.mk (Kd.R_below HO_251001.out hb)
          replace HO_258000 := Aside0.mk (Kd.R_below HO_258000.out hb)
          replace HO_258001 := Aside0.mk (Kd.R_below HO_258001.out hb)
          replace HO_266000 := Aside0.mk (Kd.R_below HO_266000.out hb)
          replace HO_266001 := Aside0.mk (Kd.R_below HO_266001.out hb)
          replace HO294 := Aside0.mk (Kd.R_below HO294.out hb)
          replace HO297 := Aside0.mk (Kd.R_below HO297.out hb)
          replace HO300 := Aside0.mk (Kd.R_below HO300.out hb)
          replace HO303 := Aside0.mk (Kd.R_below HO303.out hb)
          replace HO306 := Aside0.mk (Kd.R_below HO306.out hb)
          replace HO309 := Aside0.mk (Kd.R_below HO309.out hb)
          have BK311 := Aside0.mk (hbox)
          have GW311 := Aside0.mk ((by rw [hg]; exact (below_size HB.out) : w.heap.size ≤ gb311))
          have GE311 := Aside0.mk ((by rw [hg]; exact (below_size HB.out) : w.heap.size ≤ gb311))
          replace HB := Aside0.mk (below_step HB.out hb)
          have NB220_311 := Aside0.mk ((by rw [hg]; exact Nat.ne_of_lt (blk_lt (g := gb220) (o := .cells #[.slice A0_0 l0_0.length c0_0, .slice A0_1 l0_1.length c0_1] 24 (0, 0)) BK220.out) : gb220 ≠ gb311))
          have NB311_220 := Aside0.mk ((by rw [hg]; exact Nat.ne_of_gt (blk_lt (g := gb220) (o := .cells #[.slice A0_0 l0_0.length c0_0, .slice A0_1 l0_1.length c0_1] 24 (0, 0)) BK220.out) : gb311 ≠ gb220))
          replace BK220 := Aside0.mk (blk_below BK220.out hb)
          have NB221_311 := Aside0.mk ((by rw [hg]; exact Nat.ne_of_lt (blk_lt (g := gb221) (o := .cells #[.slice A1_0 l1_0.length c1_0, .slice A1_1 l1_1.length c1_1] 24 (0, 0)) BK221.out) : gb221 ≠ gb311))
          have NB311_221 := Aside0.mk ((by rw [hg]; exact Nat.ne_of_gt (blk_lt (g := gb221) (o := .cells #[.slice A1_0 l1_0.length c1_0, .slice A1_1 l1_1.length c1_1] 24 (0, 0)) BK221.out) : gb311 ≠ gb221))
          replace BK221 := Aside0.mk (blk_below BK221.out hb)
          have NB243_311 := Aside0.mk ((by rw [hg]; exact Nat.ne_of_lt (blk_lt (g := gb243) (o := .cells #[.slice Ao43 t236.length co43, .slice Ao45 t239.length co45] 26 (0, 0)) BK243.out) : gb243 ≠ gb311))
          have NB311_243 := Aside0.mk ((by rw [hg]; exact Nat.ne_of_gt (blk_lt (g := gb243) (o := .cells #[.slice Ao43 t236.length co43, .slice Ao45 t239.length co45] 26 (0, 0)) BK243.out) : gb311 ≠ gb243))
          replace BK243 := Aside0.mk (blk_below BK243.out hb)
          have NB250_311 := Aside0.mk ((by rw [hg]; exact Nat.ne_of_lt (blk_lt (g := gb250) (o := .cells #[.slice Ao51 t282.length co51, .slice Ao56 t283.length co56] 26 (0, 0)) BK250.out) : gb250 ≠ gb311))
          have NB311_250 := Aside0.mk ((by rw [hg]; exact Nat.ne_of_gt (blk_lt (g := gb250) (o := .cells #[.slice Ao51 t282.length co51, .slice Ao56 t283.length co56] 26 (0, 0)) BK250.out) : gb311 ≠ gb250))
          replace BK250 := Aside0.mk (blk_below BK250.out hb)
          have NB257_311 := Aside0.mk ((by rw [hg]; exact Nat.ne_of_lt (blk_lt (g := gb257) (o := .cells #[.slice Ao61 t285.length co61, .slice Ao67 t286.length co67] 26 (0, 0)) BK257.out) : gb257 ≠ gb311))
          have NB311_257 := Aside0.mk ((by rw [hg]; exact Nat.ne_of_gt (blk_lt (g := gb257) (o := .cells #[.slice Ao61 t285.length co61, .slice Ao67 t286.length co67] 26 (0, 0)) BK257.out) : gb311 ≠ gb257))
          replace BK257 := Aside0.mk (blk_below BK257.out hb)
          have NB265_311 := Aside0.mk ((by rw [hg]; exact Nat.ne_of_lt (blk_lt (g := gb265) (o := .cells #[.slice Ao71 t258.length co71, .slice Ao78 t261.length co78] 26 (0, 0)) BK265.out) : gb265 ≠ gb311))
          have NB311_265 := Aside0.mk ((by rw [hg]; exact Nat.ne_of_gt (blk_lt (g := gb265) (o := .cells #[.slice Ao71 t258.length co71, .slice Ao78 t261.length co78] 26 (0, 0)) BK265.out) : gb311 ≠ gb265))
          replace BK265 := Aside0.mk (blk_below BK265.out hb)
          clear hb hbox hg
          refine hK.out _ _ ⟨(blk_cell BK220.out 0).trans rfl, (blk_cell BK220.out 1).trans rfl, (blk_cell BK221.out 0).trans rfl, (blk_cell BK221.out 1).trans rfl⟩ (fun hHeld => ?_)
          clear hK K
          refine norm_ (a' := ?_) ?_ ?_
          rotate_left
          ·show Act.put _ (some 15) _ = _
           simp only [Act.put, List.setIfInBounds_toArray, List.set_cons_zero, List.set_cons_succ, i64_w, i32_w]
           rfl
          exact norm_ (by simp only [putAll, Act.put, List.setIfInBounds_toArray, List.set_cons_zero, List.set_cons_succ]) (hCont (.slice Ao195 t292.length co195, .slice Ao196 t295.length co196, .slice Ao197 t298.length co197, .slice Ao198 t301.length co198, v305, v308, gb311) _ ⟨hHeld, (by (with_reducible repeat (first | apply Kd.R_alloc | apply Kd.R_drewN | apply Kd.R_drew)); exact Kd.R_mono HO294.out (fun _ hk => ⟨hk.1.1.1.1.1.1.1.1.1.1.1.1, ⟨hk.1.1.1.2, ⟨hk.1.1.2, ⟨hk.1.2, ⟨hk.2, ⟨hk.1.1.1.1.1.1.1.1.1.1.1.2, ⟨hk.1.1.1.1.1.1.1.1.1.1.2, ⟨hk.1.1.1.1.1.1.1.1.1.2, ⟨hk.1.1.1.1.1.1.1.1.2, ⟨hk.1.1.1.1.1.1.1.2, ⟨hk.1.1.1.1.1.1.2, ⟨hk.1.1.1.1.1.2, hk.1.1.1.1.2⟩⟩⟩⟩⟩⟩⟩⟩⟩⟩⟩⟩)), (by (with_reducible repeat (first | apply Kd.R_alloc | apply Kd.R_drewN | apply Kd.R_drew)); exact Kd.R_mono HO297.out (fun _ hk => ⟨hk.1.1.1.1.1.1.1.1.1.1.1.1, ⟨hk.1.1.1.2, ⟨hk.1.1.2, ⟨hk.1.2, ⟨hk.2, ⟨hk.1.1.1.1.1.1.1.1.1.1.1.2, ⟨hk.1.1.1.1.1.1.1.1.1.1.2, ⟨hk.1.1.1.1.1.1.1.1.1.2, ⟨hk.1.1.1.1.1.1.1.1.2, ⟨hk.1.1.1.1.1.1.1.2, ⟨hk.1.1.1.1.1.1.2, ⟨hk.1.1.1.1.1.2, hk.1.1.1.1.2⟩⟩⟩⟩⟩⟩⟩⟩⟩⟩⟩⟩)), (by (with_reducible repeat (first | apply Kd.R_alloc | apply Kd.R_drewN | apply Kd.R_drew)); exact Kd.R_mono HO300.out (fun _ hk => ⟨hk.1.1.1.2, ⟨hk.1.1.2, ⟨hk.1.1.1.1.1.1.1.1.1.1.1.1, ⟨hk.1.2, ⟨hk.2, ⟨hk.1.1.1.1.1.1.1.1.1.1.1.2, ⟨hk.1.1.1.1.1.1.1.1.1.1.2, ⟨hk.1.1.1.1.1.1.1.1.1.2, ⟨hk.1.1.1.1.1.1.1.1.2, ⟨hk.1.1.1.1.1.1.1.2, ⟨hk.1.1.1.1.1.1.2, ⟨hk.1.1.1.1.1.2, hk.1.1.1.1.2⟩⟩⟩⟩⟩⟩⟩⟩⟩⟩⟩⟩)), (by (with_reducible repeat (first | apply Kd.R_alloc | apply Kd.R_drewN | apply Kd.R_drew)); exact Kd.R_mono HO303.out (fun _ hk => ⟨hk.1.1.1.2, ⟨hk.1.1.2, ⟨hk.1.1.1.1.1.1.1.1.1.1.1.1, ⟨hk.1.2, ⟨hk.2, ⟨hk.1.1.1.1.1.1.1.1.1.1.1.2, ⟨hk.1.1.1.1.1.1.1.1.1.1.2, ⟨hk.1.1.1.1.1.1.1.1.1.2, ⟨hk.1.1.1.1.1.1.1.1.2, ⟨hk.1.1.1.1.1.1.1.2, ⟨hk.1.1.1.1.1.1.2, ⟨hk.1.1.1.1.1.2, hk.1.1.1.1.2⟩⟩⟩⟩⟩⟩⟩⟩⟩⟩⟩⟩)), (by (with_reducible repeat (first | apply Kd.R_alloc | apply Kd.R_drewN | apply Kd.R_drew)); exact Kd.R_mono HO306.out (fun _ hk => ⟨hk.1.1.1.2, ⟨hk.1.1.2, ⟨hk.1.2, ⟨hk.2, ⟨hk.1.1.1.1.1.1.1.1.1.1.1.1, ⟨hk.1.1.1.1.1.1.1.1.1.1.1.2, ⟨hk.1.1.1.1.1.1.1.1.1.1.2, ⟨hk.1.1.1.1.1.1.1.1.1.2, ⟨hk.1.1.1.1.1.1.1.1.2, ⟨hk.1.1.1.1.1.1.1.2, ⟨hk.1.1.1.1.1.1.2, ⟨hk.1.1.1.1.1.2, hk.1.1.1.1.2⟩⟩⟩⟩⟩⟩⟩⟩⟩⟩⟩⟩)), (by (with_reducible repeat (first | apply Kd.R_alloc | apply Kd.R_drewN | apply Kd.R_drew)); exact Kd.R_mono HO309.out (fun _ hk => ⟨hk.1.1.1.2, ⟨hk.1.1.2, ⟨hk.1.2, ⟨hk.2, ⟨hk.1.1.1.1.1.1.1.1.1.1.1.1, ⟨hk.1.1.1.1.1.1.1.1.1.1.1.2, ⟨hk.1.1.1.1.1.1.1.1.1.1.2, ⟨hk.1.1.1.1.1.1.1.1.1.2, ⟨hk.1.1.1.1.1.1.1.1.2, ⟨hk.1.1.1.1.1.1.1.2, ⟨hk.1.1.1.1.1.1.2, ⟨hk.1.1.1.1.1.2, hk.1.1.1.1.2⟩⟩⟩⟩⟩⟩⟩⟩⟩⟩⟩⟩)), (by (with_reducible repeat (first | apply Kd.R_alloc | apply Kd.R_drewN | apply Kd.R_drew)); exact Kd.R_mono HO_244000.out (fun _ hk => ⟨hk.1.1.1.1.1.2, ⟨hk.1.1.1.1.2, ⟨hk.1.1.1.2, ⟨hk.1.1.2, ⟨hk.1.2, ⟨hk.2, ⟨hk.1.1.1.1.1.1.1, ⟨hk.1.1.1.1.1.1.2.1, ⟨hk.1.1.1.1.1.1.2.2.1, ⟨hk.1.1.1.1.1.1.2.2.2.1, ⟨hk.1.1.1.1.1.1.2.2.2.2.1, ⟨hk.1.1.1.1.1.1.2.2.2.2.2.1, hk.1.1.1.1.1.1.2.2.2.2.2.2⟩⟩⟩⟩⟩⟩⟩⟩⟩⟩⟩⟩)), (by (with_reducible repeat (first | apply Kd.R_alloc | apply Kd.R_drewN | apply Kd.R_drew)); exact Kd.R_mono HO_244001.out (fun _ hk => ⟨hk.1.1.1.1.1.2, ⟨hk.1.1.1.1.2, ⟨hk.1.1.1.2, ⟨hk.1.1.2, ⟨hk.1.2, ⟨hk.2, ⟨hk.1.1.1.1.1.1.1, ⟨hk.1.1.1.1.1.1.2.1, ⟨hk.1.1.1.1.1.1.2.2.1, ⟨hk.1.1.1.1.1.1.2.2.2.1, ⟨hk.1.1.1.1.1.1.2.2.2.2.1, ⟨hk.1.1.1.1.1.1.2.2.2.2.2.1, hk.1.1.1.1.1.1.2.2.2.2.2.2⟩⟩⟩⟩⟩⟩⟩⟩⟩⟩⟩⟩)), (by (with_reducible repeat (first | apply Kd.R_alloc | apply Kd.R_drewN | apply Kd.R_drew)); exact Kd.R_mono HO_251000.out (fun _ hk => ⟨hk.1.1.1.1.1.2, ⟨hk.1.1.1.1.2, ⟨hk.1.1.1.2, ⟨hk.1.1.2, ⟨hk.1.2, ⟨hk.2, ⟨hk.1.1.1.1.1.1.1, ⟨hk.1.1.1.1.1.1.2.1, ⟨hk.1.1.1.1.1.1.2.2.1, ⟨hk.1.1.1.1.1.1.2.2.2.1, ⟨hk.1.1.1.1.1.1.2.2.2.2.1, ⟨hk.1.1.1.1.1.1.2.2.2.2.2.1, hk.1.1.1.1.1.1.2.2.2.2.2.2⟩⟩⟩⟩⟩⟩⟩⟩⟩⟩⟩⟩)), (by (with_reducible repeat (first | apply Kd.R_alloc | apply Kd.R_drewN | apply Kd.R_drew)); exact Kd.R_mono HO_251001.out (fun _ hk => ⟨hk.1.1.1.1.1.2, ⟨hk.1.1.1.1.2, ⟨hk.1.1.1.2, ⟨hk.1.1.2, ⟨hk.1.2, ⟨hk.2, ⟨hk.1.1.1.1.1.1.1, ⟨hk.1.1.1.1.1.1.2.1, ⟨hk.1.1.1.1.1.1.2.2.1, ⟨hk.1.1.1.1.1.1.2.2.2.1, ⟨hk.1.1.1.1.1.1.2.2.2.2.1, ⟨hk.1.1.1.1.1.1.2.2.2.2.2.1, hk.1.1.1.1.1.1.2.2.2.2.2.2⟩⟩⟩⟩⟩⟩⟩⟩⟩⟩⟩⟩)), (by (with_reducible repeat (first | apply Kd.R_alloc | apply Kd.R_drewN | apply Kd.R_drew)); exact Kd.R_mono HO_258000.out (fun _ hk => ⟨hk.1.1.1.1.1.2, ⟨hk.1.1.1.1.2, ⟨hk.1.1.1.2, ⟨hk.1.1.2, ⟨hk.1.2, ⟨hk.2, ⟨hk.1.1.1.1.1.1.1, ⟨hk.1.1.1.1.1.1.2.1, ⟨hk.1.1.1.1.1.1.2.2.1, ⟨hk.1.1.1.1.1.1.2.2.2.1, ⟨hk.1.1.1.1.1.1.2.2.2.2.1, ⟨hk.1.1.1.1.1.1.2.2.2.2.2.1, hk.1.1.1.1.1.1.2.2.2.2.2.2⟩⟩⟩⟩⟩⟩⟩⟩⟩⟩⟩⟩)), (by (with_reducible repeat (first | apply Kd.R_alloc | apply Kd.R_drewN | apply Kd.R_drew)); exact Kd.R_mono HO_258001.out (fun _ hk => ⟨hk.1.1.1.1.1.2, ⟨hk.1.1.1.1.2, ⟨hk.1.1.1.2, ⟨hk.1.1.2, ⟨hk.1.2, ⟨hk.2, ⟨hk.1.1.1.1.1.1.1, ⟨hk.1.1.1.1.1.1.2.1, ⟨hk.1.1.1.1.1.1.2.2.1, ⟨hk.1.1.1.1.1.1.2.2.2.1, ⟨hk.1.1.1.1.1.1.2.2.2.2.1, ⟨hk.1.1.1.1.1.1.2.2.2.2.2.1, hk.1.1.1.1.1.1.2.2.2.2.2.2⟩⟩⟩⟩⟩⟩⟩⟩⟩⟩⟩⟩)), (by (with_reducible repeat (first | apply Kd.R_alloc | apply Kd.R_drewN | apply Kd.R_drew)); exact Kd.R_mono HO_266000.out (fun _ hk => ⟨hk.1.1.1.1.1.2, ⟨hk.1.1.1.1.2, ⟨hk.1.1.1.2, ⟨hk.1.1.2, ⟨hk.1.2, ⟨hk.2, ⟨hk.1.1.1.1.1.1.1, ⟨hk.1.1.1.1.1.1.2.1, ⟨hk.1.1.1.1.1.1.2.2.1, ⟨hk.1.1.1.1.1.1.2.2.2.1, ⟨hk.1.1.1.1.1.1.2.2.2.2.1, ⟨hk.1.1.1.1.1.1.2.2.2.2.2.1, hk.1.1.1.1.1.1.2.2.2.2.2.2⟩⟩⟩⟩⟩⟩⟩⟩⟩⟩⟩⟩)), (by (with_reducible repeat (first | apply Kd.R_alloc | apply Kd.R_drewN | apply Kd.R_drew)); exact Kd.R_mono HO_266001.out (fun _ hk => ⟨hk.1.1.1.1.1.2, ⟨hk.1.1.1.1.2, ⟨hk.1.1.1.2, ⟨hk.1.1.2, ⟨hk.1.2, ⟨hk.2, ⟨hk.1.1.1.1.1.1.1, ⟨hk.1.1.1.1.1.1.2.1, ⟨hk.1.1.1.1.1.1.2.2.1, ⟨hk.1.1.1.1.1.1.2.2.2.1, ⟨hk.1.1.1.1.1.1.2.2.2.2.1, ⟨hk.1.1.1.1.1.1.2.2.2.2.2.1, hk.1.1.1.1.1.1.2.2.2.2.2.2⟩⟩⟩⟩⟩⟩⟩⟩⟩⟩⟩⟩)), BK220.out, BK221.out, BK243.out, BK250.out, BK257.out, BK265.out, BK311.out, GW311.out, GE311.out, NB220_311.out, NB311_220.out, NB221_311.out, NB311_221.out, NB243_311.out, NB311_243.out, NB250_311.out, NB311_250.out, NB257_311.out, NB311_257.out, NB265_311.out, NB311_265.out, HB.out⟩)
         ·skip
          refine box_step ?hg (N := 15) ?hd (cs := #[.slice none 0 0, .slice none 0 0]) (t := 26) ?hr ?_; (case hd => rfl); (case hg => rfl); (case hr => first | (go_simp; done) | (go_simp; rfl))
          intro gb311 hg w195 hbox hb
          replace HO_244000 := Aside0.mk (Kd.R_below HO_244000.out hb)
          replace HO_244001 := Aside0.mk (Kd.R_below HO_244001.out hb)
          replace HO_251000 := Aside0.mk (Kd.R_below HO_251000.out hb)
          replace HO_251001 := Aside0.mk (Kd.R_below HO_251001.out hb)
          replace HO_258000 := Aside0.mk (Kd.R_below HO_258000.out hb)
          replace HO_258001 := Aside0.mk (Kd.R_below HO_258001.out hb)
          replace HO_266000 := Aside0.mk (Kd.R_below HO_266000.out hb)
          replace HO_266001 := Aside0.mk (Kd.R_below HO_266001.out hb)
          replace HO294 := Aside0.mk (Kd.R_below HO294.out hb)
          replace HO297 := Aside0.mk (Kd.R_below HO297.out hb)
          replace HO300 := Aside0.mk (Kd.R_below HO300.out hb)
          replace HO303 := Aside0.mk (Kd.R_below HO303.out hb)
          have BK311 := Aside0.mk (hbox)
          have GW311 := Aside0.mk ((by rw [hg]; exact (below_size HB.out) : w.heap.size ≤ gb311))
          have GE311 := Aside0.mk ((by rw [hg]; exact (below_size HB.out) : w.heap.size ≤ gb311))
          replace HB := Aside0.mk (below_step HB.out hb)
          have NB220_311 := Aside0.mk ((by rw [hg]; exact Nat.ne_of_lt (blk_lt (g := gb220) (o := .cells #[.slice A0_0 l0_0.length c0_0, .slice A0_1 l0_1.length c0_1] 24 (0, 0)) BK220.out) : gb220 ≠ gb311))
          have NB311_220 := Aside0.mk ((by rw [hg]; exact Nat.ne_of_gt (blk_lt (g := gb220) (o := .cells #[.slice A0_0 l0_0.length c0_0, .slice A0_1 l0_1.length c0_1] 24 (0, 0)) BK220.out) : gb311 ≠ gb220))
          replace BK220 := Aside0.mk (blk_below BK220.out hb)
          have NB221_311 := Aside0.mk ((by rw [hg]; exact Nat.ne_of_lt (blk_lt (g := gb221) (o := .cells #[.slice A1_0 l1_0.length c1_0, .slice A1_1 l1_1.length c1_1] 24 (0, 0)) BK221.out) : gb221 ≠ gb311))
          have NB311_221 := Aside0.mk ((by rw [hg]; exact Nat.ne_of_gt (blk_lt (g := gb221) (o := .cells #[.slice A1_0 l1_0.length c1_0, .slice A1_1 l1_1.length c1_1] 24 (0, 0)) BK221.out) : gb311 ≠ gb221))
          replace BK221 := Aside0.mk (blk_below BK221.out hb)
          have NB243_311 := Aside0.mk ((by rw [hg]; exact Nat.ne_of_lt (blk_lt (g := gb243) (o := .cells #[.slice Ao43 t236.length co43, .slice Ao45 t239.length co45] 26 (0, 0)) BK243.out) : gb243 ≠ gb311))
          have NB311_243 := Aside0.mk ((by rw [hg]; exact Nat.ne_of_gt (blk_lt (g := gb243) (o := .cells #[.slice Ao43 t236.length co43, .slice Ao45 t239.length co45] 26 (0, 0)) BK243.out) : gb311 ≠ gb243))
          replace BK243 := Aside0.mk (blk_below BK243.out hb)
          have NB250_311 := Aside0.mk ((by rw [hg]; exact Nat.ne_of_lt (blk_lt (g := gb250) (o := .cells #[.slice Ao51 t282.length co51, .slice Ao56 t283.length co56] 26 (0, 0)) BK250.out) : gb250 ≠ gb311))
          have NB311_250 := Aside0.mk ((by rw [hg]; exact Nat.ne_of_gt (blk_lt (g := gb250) (o := .cells #[.slice Ao51 t282.length co51, .slice Ao56 t283.length co56] 26 (0, 0)) BK250.out) : gb311 ≠ gb250))
          replace BK250 := Aside0.mk (blk_below BK250.out hb)
          have NB257_311 := Aside0.mk ((by rw [hg]; exact Nat.ne_of_lt (blk_lt (g := gb257) (o := .cells #[.slice Ao61 t285.length co61, .slice Ao67 t286.length co67] 26 (0, 0)) BK257.out) : gb257 ≠ gb311))
          have NB311_257 := Aside0.mk ((by rw [hg]; exact Nat.ne_of_gt (blk_lt (g := gb257) (o := .cells #[.slice Ao61 t285.length co61, .slice Ao67 t286.length co67] 26 (0, 0)) BK257.out) : gb311 ≠ gb257))
          replace BK257 := Aside0.mk (blk_below BK257.out hb)
          have NB265_311 := Aside0.mk ((by rw [hg]; exact Nat.ne_of_lt (blk_lt (g := gb265) (o := .cells #[.slice Ao71 t258.length co71, .slice Ao78 t261.length co78] 26 (0, 0)) BK265.out) : gb265 ≠ gb311))
          have NB311_265 := Aside0.mk ((by rw [hg]; exact Nat.ne_of_gt (blk_lt (g := gb265) (o := .cells #[.slice Ao71 t258.length co71, .slice Ao78 t261.length co78] 26 (0, 0)) BK265.out) : gb311 ≠ gb265))
          replace BK265 := Aside0.mk (blk_below BK265.out hb)
          clear hb hbox hg
          obtain ⟨Ao196, co196, eo196⟩ := Kd.R_slice HO294.out
          (first | subst eo196 | (injection eo196 with f1_ f2_ f3_; have f4_ := f1_.symm; have f5_ := f3_.symm; clear f1_ f2_ f3_; subst f4_; subst f5_))
          obtain ⟨Ao197, co197, eo197⟩ := Kd.R_slice HO297.out
          (first | subst eo197 | (injection eo197 with f1_ f2_ f3_; have f4_ := f1_.symm; have f5_ := f3_.symm; clear f1_ f2_ f3_; subst f4_; subst f5_))
          obtain ⟨Ao198, co198, eo198⟩ := Kd.R_slice HO300.out
          (first | subst eo198 | (injection eo198 with f1_ f2_ f3_; have f4_ := f1_.symm; have f5_ := f3_.symm; clear f1_ f2_ f3_; subst f4_; subst f5_))
          obtain ⟨Ao199, co199, eo199⟩ := Kd.R_slice HO303.out
          (first | subst eo199 | (injection eo199 with f1_ f2_ f3_; have f4_ := f1_.symm; have f5_ := f3_.symm; clear f1_ f2_ f3_; subst f4_; subst f5_))
          refine hK.out _ _ ⟨(blk_cell BK220.out 0).trans rfl, (blk_cell BK220.out 1).trans rfl, (blk_cell BK221.out 0).trans rfl, (blk_cell BK221.out 1).trans rfl⟩ (fun hHeld => ?_)
          clear hK K
          refine norm_ (a' := ?_) ?_ ?_
          rotate_left
          ·show Act.put _ (some 15) _ = _
           simp only [Act.put, List.setIfInBounds_toArray, List.set_cons_zero, List.set_cons_succ, i64_w, i32_w]
           rfl
          refine one_ (i := 4) (N := some 99) #[true, true, true, true, true, false, false, false, true, false, false] rfl rfl (one_of HT_.out (by kernel_rfl)) (by decide) (fun K hK => ?_)
          refine goes_ Try.func7 (by kernel_rfl) rfl #[.agg #[.slice Ao196 t292.length co196, .slice Ao197 t295.length co197], .agg #[.slice Ao198 t298.length co198, .slice Ao199 t301.length co199]] (by rfl) rfl rfl (by (try simp only [List.map_toArray, List.map_cons, List.map_nil]); first | done | rfl | (simp only [List.length_drop, List.length_take]; rfl)) ?_
          with_reducible refine (impl_JoinMeanders.calls kj113 _ _ t292 _ _ t295 _ _ t298 _ _ t301 t304 t307 t310 _ ?side1 ?side2 ?side3 ?side4 ?side5 ?side6 ?side7 ?side8 A181.out).mono ?_
          (case side1 => exact (Kd.R_reads' HO294.out).2.2)
          (case side2 => exact (Kd.R_reads' HO294.out).2.1)
          (case side3 => exact (Kd.R_reads' HO297.out).2.2)
          (case side4 => exact (Kd.R_reads' HO297.out).2.1)
          (case side5 => exact (Kd.R_reads' HO300.out).2.2)
          (case side6 => exact (Kd.R_reads' HO300.out).2.1)
          (case side7 => exact (Kd.R_reads' HO303.out).2.2)
          (case side8 => exact (Kd.R_reads' HO303.out).2.1)
          rintro e w200 ⟨v305, v308, rfl, ho0, ho1, hb⟩
          refine ⟨_, rfl, ?_⟩
          have HO306 := Aside0.mk (Kd.R_lower (Kd.R_new' (Kd.R_new' (Kd.R_new' (Kd.R_new' (Kd.R_new' (Kd.R_new' (Kd.R_new' (Kd.R_new' (Kd.R_new' (Kd.R_new' (Kd.R_new' (Kd.R_new' ho0 (Kd.R_lt HO_244000.out)) (Kd.R_lt HO_244001.out)) (Kd.R_lt HO_251000.out)) (Kd.R_lt HO_251001.out)) (Kd.R_lt HO_258000.out)) (Kd.R_lt HO_258001.out)) (Kd.R_lt HO_266000.out)) (Kd.R_lt HO_266001.out)) (Kd.R_lt HO294.out)) (Kd.R_lt HO297.out)) (Kd.R_lt HO300.out)) (Kd.R_lt HO303.out)) (below_size HB.out))
          have HO309 := Aside0.mk (Kd.R_lower (Kd.R_new' (Kd.R_new' (Kd.R_new' (Kd.R_new' (Kd.R_new' (Kd.R_new' (Kd.R_new' (Kd.R_new' (Kd.R_new' (Kd.R_new' (Kd.R_new' (Kd.R_new' ho1 (Kd.R_lt HO_244000.out)) (Kd.R_lt HO_244001.out)) (Kd.R_lt HO_251000.out)) (Kd.R_lt HO_251001.out)) (Kd.R_lt HO_258000.out)) (Kd.R_lt HO_258001.out)) (Kd.R_lt HO_266000.out)) (Kd.R_lt HO_266001.out)) (Kd.R_lt HO294.out)) (Kd.R_lt HO297.out)) (Kd.R_lt HO300.out)) (Kd.R_lt HO303.out)) (below_size HB.out))
          replace HO_244000 := Aside0.mk (R2_ HO_244000.out hb ho0 ho1)
          replace HO_244001 := Aside0.mk (R2_ HO_244001.out hb ho0 ho1)
          replace HO_251000 := Aside0.mk (R2_ HO_251000.out hb ho0 ho1)
          replace HO_251001 := Aside0.mk (R2_ HO_251001.out hb ho0 ho1)
          replace HO_258000 := Aside0.mk (R2_ HO_258000.out hb ho0 ho1)
          replace HO_258001 := Aside0.mk (R2_ HO_258001.out hb ho0 ho1)
          replace HO_266000 := Aside0.mk (R2_ HO_266000.out hb ho0 ho1)
          replace HO_266001 := Aside0.mk (R2_ HO_266001.out hb ho0 ho1)
          replace HO294 := Aside0.mk (R2_ HO294.out hb ho0 ho1)
          replace HO297 := Aside0.mk (R2_ HO297.out hb ho0 ho1)
          replace HO300 := Aside0.mk (R2_ HO300.out hb ho0 ho1)
          replace HO303 := Aside0.mk (R2_ HO303.out hb ho0 ho1)
          replace BK220 := Aside0.mk (blk_below BK220.out hb)
          replace BK221 := Aside0.mk (blk_below BK221.out hb)
          replace BK243 := Aside0.mk (blk_below BK243.out hb)
          replace BK250 := Aside0.mk (blk_below BK250.out hb)
          replace BK257 := Aside0.mk (blk_below BK257.out hb)
          replace BK265 := Aside0.mk (blk_below BK265.out hb)
          replace BK311 := Aside0.mk (blk_below BK311.out hb)
          replace HB := Aside0.mk (below_step HB.out hb)
          (try clear hb)
          (try clear hb2)
          (try clear hk)
          (try clear hi)
          (try clear ho0)
          (try clear ho1)
          refine hK.out _ _ ⟨(blk_cell BK220.out 0).trans rfl, (blk_cell BK220.out 1).trans rfl, (blk_cell BK221.out 0).trans rfl, (blk_cell BK221.out 1).trans rfl⟩ (fun hHeld => ?_)
          clear hK K
          refine norm_ (a' := ?_) ?_ ?_
          rotate_left
          ·show Act.put _ (some 99) _ = _
           simp only [Act.put, List.setIfInBounds_toArray, List.set_cons_zero, List.set_cons_succ, i64_w, i32_w]
           rfl
          refine pure_ (i := 5) (N := some 94) (v := ?_) (a' := ?_) #[true, true, true, true, true, true, false, false, true, false, false] rfl rfl (any_of HT_.out (by kernel_rfl)) (fun _ _ _ h => h) (Or.inl ⟨by rfl, ?_⟩) ?_ ?_
          rotate_left
          ·intro w'
           go_simp
           with_reducible rfl
          rotate_left
          ·simp only [Act.put, List.setIfInBounds_toArray, List.set_cons_zero, List.set_cons_succ, i64_w, i32_w]
           rfl
          refine pure_ (i := 6) (N := some 100) (v := ?_) (a' := ?_) #[true, true, true, true, true, true, true, false, true, false, false] rfl rfl (any_of HT_.out (by kernel_rfl)) (fun _ _ _ h => h) (Or.inl ⟨by rfl, ?_⟩) ?_ ?_
          rotate_left
          ·intro w'
           go_simp
           with_reducible rfl
          rotate_left
          ·simp only [Act.put, List.setIfInBounds_toArray, List.set_cons_zero, List.set_cons_succ, i64_w, i32_w]
           rfl
          refine pure_ (i := 7) (N := some 101) (v := ?_) (a' := ?_) #[true, true, true, true, true, true, true, true, true, false, false] rfl rfl (any_of HT_.out (by kernel_rfl)) (fun _ _ _ h => h) (Or.inl ⟨by rfl, ?_⟩) ?_ ?_
          rotate_left
          ·intro w'
           go_simp
           with_reducible rfl
          rotate_left
          ·simp only [Act.put, List.setIfInBounds_toArray, List.set_cons_zero, List.set_cons_succ, i64_w, i32_w]
           rfl
          exact norm_ (by simp only [putAll, Act.put, List.setIfInBounds_toArray, List.set_cons_zero, List.set_cons_succ]) (hCont (.slice Ao196 t292.length co196, .slice Ao197 t295.length co197, .slice Ao198 t298.length co198, .slice Ao199 t301.length co199, v305, v308, gb311) _ ⟨hHeld, (by (with_reducible repeat (first | apply Kd.R_alloc | apply Kd.R_drewN | apply Kd.R_drew)); exact Kd.R_mono HO294.out (fun _ hk => ⟨hk.1.1.1.1.1.1.1.1.1.1.1.1, ⟨hk.1.1.1.2, ⟨hk.1.1.2, ⟨hk.1.2, ⟨hk.2, ⟨hk.1.1.1.1.1.1.1.1.1.1.1.2, ⟨hk.1.1.1.1.1.1.1.1.1.1.2, ⟨hk.1.1.1.1.1.1.1.1.1.2, ⟨hk.1.1.1.1.1.1.1.1.2, ⟨hk.1.1.1.1.1.1.1.2, ⟨hk.1.1.1.1.1.1.2, ⟨hk.1.1.1.1.1.2, hk.1.1.1.1.2⟩⟩⟩⟩⟩⟩⟩⟩⟩⟩⟩⟩)), (by (with_reducible repeat (first | apply Kd.R_alloc | apply Kd.R_drewN | apply Kd.R_drew)); exact Kd.R_mono HO297.out (fun _ hk => ⟨hk.1.1.1.1.1.1.1.1.1.1.1.1, ⟨hk.1.1.1.2, ⟨hk.1.1.2, ⟨hk.1.2, ⟨hk.2, ⟨hk.1.1.1.1.1.1.1.1.1.1.1.2, ⟨hk.1.1.1.1.1.1.1.1.1.1.2, ⟨hk.1.1.1.1.1.1.1.1.1.2, ⟨hk.1.1.1.1.1.1.1.1.2, ⟨hk.1.1.1.1.1.1.1.2, ⟨hk.1.1.1.1.1.1.2, ⟨hk.1.1.1.1.1.2, hk.1.1.1.1.2⟩⟩⟩⟩⟩⟩⟩⟩⟩⟩⟩⟩)), (by (with_reducible repeat (first | apply Kd.R_alloc | apply Kd.R_drewN | apply Kd.R_drew)); exact Kd.R_mono HO300.out (fun _ hk => ⟨hk.1.1.1.2, ⟨hk.1.1.2, ⟨hk.1.1.1.1.1.1.1.1.1.1.1.1, ⟨hk.1.2, ⟨hk.2, ⟨hk.1.1.1.1.1.1.1.1.1.1.1.2, ⟨hk.1.1.1.1.1.1.1.1.1.1.2, ⟨hk.1.1.1.1.1.1.1.1.1.2, ⟨hk.1.1.1.1.1.1.1.1.2, ⟨hk.1.1.1.1.1.1.1.2, ⟨hk.1.1.1.1.1.1.2, ⟨hk.1.1.1.1.1.2, hk.1.1.1.1.2⟩⟩⟩⟩⟩⟩⟩⟩⟩⟩⟩⟩)), (by (with_reducible repeat (first | apply Kd.R_alloc | apply Kd.R_drewN | apply Kd.R_drew)); exact Kd.R_mono HO303.out (fun _ hk => ⟨hk.1.1.1.2, ⟨hk.1.1.2, ⟨hk.1.1.1.1.1.1.1.1.1.1.1.1, ⟨hk.1.2, ⟨hk.2, ⟨hk.1.1.1.1.1.1.1.1.1.1.1.2, ⟨hk.1.1.1.1.1.1.1.1.1.1.2, ⟨hk.1.1.1.1.1.1.1.1.1.2, ⟨hk.1.1.1.1.1.1.1.1.2, ⟨hk.1.1.1.1.1.1.1.2, ⟨hk.1.1.1.1.1.1.2, ⟨hk.1.1.1.1.1.2, hk.1.1.1.1.2⟩⟩⟩⟩⟩⟩⟩⟩⟩⟩⟩⟩)), (by (with_reducible repeat (first | apply Kd.R_alloc | apply Kd.R_drewN | apply Kd.R_drew)); exact Kd.R_mono HO306.out (fun _ hk => ⟨hk.1.1.1.2, ⟨hk.1.1.2, ⟨hk.1.2, ⟨hk.2, ⟨hk.1.1.1.1.1.1.1.1.1.1.1.1, ⟨hk.1.1.1.1.1.1.1.1.1.1.1.2, ⟨hk.1.1.1.1.1.1.1.1.1.1.2, ⟨hk.1.1.1.1.1.1.1.1.1.2, ⟨hk.1.1.1.1.1.1.1.1.2, ⟨hk.1.1.1.1.1.1.1.2, ⟨hk.1.1.1.1.1.1.2, ⟨hk.1.1.1.1.1.2, hk.1.1.1.1.2⟩⟩⟩⟩⟩⟩⟩⟩⟩⟩⟩⟩)), (by (with_reducible repeat (first | apply Kd.R_alloc | apply Kd.R_drewN | apply Kd.R_drew)); exact Kd.R_mono HO309.out (fun _ hk => ⟨hk.1.1.1.2, ⟨hk.1.1.2, ⟨hk.1.2, ⟨hk.2, ⟨hk.1.1.1.1.1.1.1.1.1.1.1.1, ⟨hk.1.1.1.1.1.1.1.1.1.1.1.2, ⟨hk.1.1.1.1.1.1.1.1.1.1.2, ⟨hk.1.1.1.1.1.1.1.1.1.2, ⟨hk.1.1.1.1.1.1.1.1.2, ⟨hk.1.1.1.1.1.1.1.2, ⟨hk.1.1.1.1.1.1.2, ⟨hk.1.1.1.1.1.2, hk.1.1.1.1.2⟩⟩⟩⟩⟩⟩⟩⟩⟩⟩⟩⟩)), (by (with_reducible repeat (first | apply Kd.R_alloc | apply Kd.R_drewN | apply Kd.R_drew)); exact Kd.R_mono HO_244000.out (fun _ hk => ⟨hk.1.1.1.1.1.2, ⟨hk.1.1.1.1.2, ⟨hk.1.1.1.2, ⟨hk.1.1.2, ⟨hk.1.2, ⟨hk.2, ⟨hk.1.1.1.1.1.1.1, ⟨hk.1.1.1.1.1.1.2.1, ⟨hk.1.1.1.1.1.1.2.2.1, ⟨hk.1.1.1.1.1.1.2.2.2.1, ⟨hk.1.1.1.1.1.1.2.2.2.2.1, ⟨hk.1.1.1.1.1.1.2.2.2.2.2.1, hk.1.1.1.1.1.1.2.2.2.2.2.2⟩⟩⟩⟩⟩⟩⟩⟩⟩⟩⟩⟩)), (by (with_reducible repeat (first | apply Kd.R_alloc | apply Kd.R_drewN | apply Kd.R_drew)); exact Kd.R_mono HO_244001.out (fun _ hk => ⟨hk.1.1.1.1.1.2, ⟨hk.1.1.1.1.2, ⟨hk.1.1.1.2, ⟨hk.1.1.2, ⟨hk.1.2, ⟨hk.2, ⟨hk.1.1.1.1.1.1.1, ⟨hk.1.1.1.1.1.1.2.1, ⟨hk.1.1.1.1.1.1.2.2.1, ⟨hk.1.1.1.1.1.1.2.2.2.1, ⟨hk.1.1.1.1.1.1.2.2.2.2.1, ⟨hk.1.1.1.1.1.1.2.2.2.2.2.1, hk.1.1.1.1.1.1.2.2.2.2.2.2⟩⟩⟩⟩⟩⟩⟩⟩⟩⟩⟩⟩)), (by (with_reducible repeat (first | apply Kd.R_alloc | apply Kd.R_drewN | apply Kd.R_drew)); exact Kd.R_mono HO_251000.out (fun _ hk => ⟨hk.1.1.1.1.1.2, ⟨hk.1.1.1.1.2, ⟨hk.1.1.1.2, ⟨hk.1.1.2, ⟨hk.1.2, ⟨hk.2, ⟨hk.1.1.1.1.1.1.1, ⟨hk.1.1.1.1.1.1.2.1, ⟨hk.1.1.1.1.1.1.2.2.1, ⟨hk.1.1.1.1.1.1.2.2.2.1, ⟨hk.1.1.1.1.1.1.2.2.2.2.1, ⟨hk.1.1.1.1.1.1.2.2.2.2.2.1, hk.1.1.1.1.1.1.2.2.2.2.2.2⟩⟩⟩⟩⟩⟩⟩⟩⟩⟩⟩⟩)), (by (with_reducible repeat (first | apply Kd.R_alloc | apply Kd.R_drewN | apply Kd.R_drew)); exact Kd.R_mono HO_251001.out (fun _ hk => ⟨hk.1.1.1.1.1.2, ⟨hk.1.1.1.1.2, ⟨hk.1.1.1.2, ⟨hk.1.1.2, ⟨hk.1.2, ⟨hk.2, ⟨hk.1.1.1.1.1.1.1, ⟨hk.1.1.1.1.1.1.2.1, ⟨hk.1.1.1.1.1.1.2.2.1, ⟨hk.1.1.1.1.1.1.2.2.2.1, ⟨hk.1.1.1.1.1.1.2.2.2.2.1, ⟨hk.1.1.1.1.1.1.2.2.2.2.2.1, hk.1.1.1.1.1.1.2.2.2.2.2.2⟩⟩⟩⟩⟩⟩⟩⟩⟩⟩⟩⟩)), (by (with_reducible repeat (first | apply Kd.R_alloc | apply Kd.R_drewN | apply Kd.R_drew)); exact Kd.R_mono HO_258000.out (fun _ hk => ⟨hk.1.1.1.1.1.2, ⟨hk.1.1.1.1.2, ⟨hk.1.1.1.2, ⟨hk.1.1.2, ⟨hk.1.2, ⟨hk.2, ⟨hk.1.1.1.1.1.1.1, ⟨hk.1.1.1.1.1.1.2.1, ⟨hk.1.1.1.1.1.1.2.2.1, ⟨hk.1.1.1.1.1.1.2.2.2.1, ⟨hk.1.1.1.1.1.1.2.2.2.2.1, ⟨hk.1.1.1.1.1.1.2.2.2.2.2.1, hk.1.1.1.1.1.1.2.2.2.2.2.2⟩⟩⟩⟩⟩⟩⟩⟩⟩⟩⟩⟩)), (by (with_reducible repeat (first | apply Kd.R_alloc | apply Kd.R_drewN | apply Kd.R_drew)); exact Kd.R_mono HO_258001.out (fun _ hk => ⟨hk.1.1.1.1.1.2, ⟨hk.1.1.1.1.2, ⟨hk.1.1.1.2, ⟨hk.1.1.2, ⟨hk.1.2, ⟨hk.2, ⟨hk.1.1.1.1.1.1.1, ⟨hk.1.1.1.1.1.1.2.1, ⟨hk.1.1.1.1.1.1.2.2.1, ⟨hk.1.1.1.1.1.1.2.2.2.1, ⟨hk.1.1.1.1.1.1.2.2.2.2.1, ⟨hk.1.1.1.1.1.1.2.2.2.2.2.1, hk.1.1.1.1.1.1.2.2.2.2.2.2⟩⟩⟩⟩⟩⟩⟩⟩⟩⟩⟩⟩)), (by (with_reducible repeat (first | apply Kd.R_alloc | apply Kd.R_drewN | apply Kd.R_drew)); exact Kd.R_mono HO_266000.out (fun _ hk => ⟨hk.1.1.1.1.1.2, ⟨hk.1.1.1.1.2, ⟨hk.1.1.1.2, ⟨hk.1.1.2, ⟨hk.1.2, ⟨hk.2, ⟨hk.1.1.1.1.1.1.1, ⟨hk.1.1.1.1.1.1.2.1, ⟨hk.1.1.1.1.1.1.2.2.1, ⟨hk.1.1.1.1.1.1.2.2.2.1, ⟨hk.1.1.1.1.1.1.2.2.2.2.1, ⟨hk.1.1.1.1.1.1.2.2.2.2.2.1, hk.1.1.1.1.1.1.2.2.2.2.2.2⟩⟩⟩⟩⟩⟩⟩⟩⟩⟩⟩⟩)), (by (with_reducible repeat (first | apply Kd.R_alloc | apply Kd.R_drewN | apply Kd.R_drew)); exact Kd.R_mono HO_266001.out (fun _ hk => ⟨hk.1.1.1.1.1.2, ⟨hk.1.1.1.1.2, ⟨hk.1.1.1.2, ⟨hk.1.1.2, ⟨hk.1.2, ⟨hk.2, ⟨hk.1.1.1.1.1.1.1, ⟨hk.1.1.1.1.1.1.2.1, ⟨hk.1.1.1.1.1.1.2.2.1, ⟨hk.1.1.1.1.1.1.2.2.2.1, ⟨hk.1.1.1.1.1.1.2.2.2.2.1, ⟨hk.1.1.1.1.1.1.2.2.2.2.2.1, hk.1.1.1.1.1.1.2.2.2.2.2.2⟩⟩⟩⟩⟩⟩⟩⟩⟩⟩⟩⟩)), BK220.out, BK221.out, BK243.out, BK250.out, BK257.out, BK265.out, BK311.out, GW311.out, GE311.out, NB220_311.out, NB311_220.out, NB221_311.out, NB311_221.out, NB243_311.out, NB311_243.out, NB250_311.out, NB311_250.out, NB257_311.out, NB311_257.out, NB265_311.out, NB311_265.out, HB.out⟩)
        ·skip
         refine box_step ?hg (N := 15) ?hd (cs := #[.slice none 0 0, .slice none 0 0]) (t := 26) ?hr ?_; (case hd => rfl); (case hg => rfl); (case hr => first | (go_simp; done) | (go_simp; rfl))
         intro gb311 hg w194 hbox hb
         replace HO_244000 := Aside0.mk (Kd.R_below HO_244000.out hb)
         replace HO_244001 := Aside0.mk (Kd.R_below HO_244001.out hb)
         replace HO_251000 := Aside0.mk (Kd.R_below HO_251000.out hb)
         replace HO_251001 := Aside0.mk (Kd.R_below HO_251001.out hb)
         replace HO_258000 := Aside0.mk (Kd.R_below HO_258000.out hb)
         replace HO_258001 := Aside0.mk (Kd.R_below HO_258001.out hb)
         replace HO_266000 := Aside0.mk (Kd.R_below HO_266000.out hb)
         replace HO_266001 := Aside0.mk (Kd.R_below HO_266001.out hb)
         replace HO294 := Aside0.mk (Kd.R_below HO294.out hb)
         replace HO297 := Aside0.mk (Kd.R_below HO297.out hb)
         have BK311 := Aside0.mk (hbox)
         have GW311 := Aside0.mk ((by rw [hg]; exact (below_size HB.out) : w.heap.size ≤ gb311))
         have GE311 := Aside0.mk ((by rw [hg]; exact (below_size HB.out) : w.heap.size ≤ gb311))
         replace HB := Aside0.mk (below_step HB.out hb)
         have NB220_311 := Aside0.mk ((by rw [hg]; exact Nat.ne_of_lt (blk_lt (g := gb220) (o := .cells #[.slice A0_0 l0_0.length c0_0, .slice A0_1 l0_1.length c0_1] 24 (0, 0)) BK220.out) : gb220 ≠ gb311))
         have NB311_220 := Aside0.mk ((by rw [hg]; exact Nat.ne_of_gt (blk_lt (g := gb220) (o := .cells #[.slice A0_0 l0_0.length c0_0, .slice A0_1 l0_1.length c0_1] 24 (0, 0)) BK220.out) : gb311 ≠ gb220))
         replace BK220 := Aside0.mk (blk_below BK220.out hb)
         have NB221_311 := Aside0.mk ((by rw [hg]; exact Nat.ne_of_lt (blk_lt (g := gb221) (o := .cells #[.slice A1_0 l1_0.length c1_0, .slice A1_1 l1_1.length c1_1] 24 (0, 0)) BK221.out) : gb221 ≠ gb311))
         have NB311_221 := Aside0.mk ((by rw [hg]; exact Nat.ne_of_gt (blk_lt (g := gb221) (o := .cells #[.slice A1_0 l1_0.length c1_0, .slice A1_1 l1_1.length c1_1] 24 (0, 0)) BK221.out) : gb311 ≠ gb221))
         replace BK221 := Aside0.mk (blk_below BK221.out hb)
         have NB243_311 := Aside0.mk ((by rw [hg]; exact Nat.ne_of_lt (blk_lt (g := gb243) (o := .cells #[.slice Ao43 t236.length co43, .slice Ao45 t239.length co45] 26 (0, 0)) BK243.out) : gb243 ≠ gb311))
         have NB311_243 := Aside0.mk ((by rw [hg]; exact Nat.ne_of_gt (blk_lt (g := gb243) (o := .cells #[.slice Ao43 t236.length co43, .slice Ao45 t239.length co45] 26 (0, 0)) BK243.out) : gb311 ≠ gb243))
         replace BK243 := Aside0.mk (blk_below BK243.out hb)
         have NB250_311 := Aside0.mk ((by rw [hg]; exact Nat.ne_of_lt (blk_lt (g := gb250) (o := .cells #[.slice Ao51 t282.length co51, .slice Ao56 t283.length co56] 26 (0, 0)) BK250.out) : gb250 ≠ gb311))
         have NB311_250 := Aside0.mk ((by rw [hg]; exact Nat.ne_of_gt (blk_lt (g := gb250) (o := .cells #[.slice Ao51 t282.length co51, .slice Ao56 t283.length co56] 26 (0, 0)) BK250.out) : gb311 ≠ gb250))
         replace BK250 := Aside0.mk (blk_below BK250.out hb)
         have NB257_311 := Aside0.mk ((by rw [hg]; exact Nat.ne_of_lt (blk_lt (g := gb257) (o := .cells #[.slice Ao61 t285.length co61, .slice Ao67 t286.length co67] 26 (0, 0)) BK257.out) : gb257 ≠ gb311))
         have NB311_257 := Aside0.mk ((by rw [hg]; exact Nat.ne_of_gt (blk_lt (g := gb257) (o := .cells #[.slice Ao61 t285.length co61, .slice Ao67 t286.length co67] 26 (0, 0)) BK257.out) : gb311 ≠ gb257))
         replace BK257 := Aside0.mk (blk_below BK257.out hb)
         have NB265_311 := Aside0.mk ((by rw [hg]; exact Nat.ne_of_lt (blk_lt (g := gb265) (o := .cells #[.slice Ao71 t258.length co71, .slice Ao78 t261.length co78] 26 (0, 0)) BK265.out) : gb265 ≠ gb311))
         have NB311_265 := Aside0.mk ((by rw [hg]; exact Nat.ne_of_gt (blk_lt (g := gb265) (o := .cells #[.slice Ao71 t258.length co71, .slice Ao78 t261.length co78] 26 (0, 0)) BK265.out) : gb311 ≠ gb265))
         replace BK265 := Aside0.mk (blk_below BK265.out hb)
         clear hb hbox hg
         refine hK.out _ _ ⟨(blk_cell BK220.out 0).trans rfl, (blk_cell BK220.out 1).trans rfl, (blk_cell BK221.out 0).trans rfl, (blk_cell BK221.out 1).trans rfl⟩ (fun hHeld => ?_)
         clear hK K
         refine norm_ (a' := ?_) ?_ ?_
         rotate_left
         ·show Act.put _ (some 15) _ = _
          simp only [Act.put, List.setIfInBounds_toArray, List.set_cons_zero, List.set_cons_succ, i64_w, i32_w]
          rfl
         refine one_ (i := 3) (N := some 98) #[true, true, true, true, false, false, false, false, true, false, false] rfl rfl (one_of HT_.out (by kernel_rfl)) (by decide) (fun K hK => ?_)
         refine goes_ Try.func6 (by kernel_rfl) rfl #[.agg #[.slice A1_0 l1_0.length c1_0, .slice A1_1 l1_1.length c1_1]] (by rfl) rfl rfl (by (try simp only [List.map_toArray, List.map_cons, List.map_nil]); first | done | rfl | (simp only [List.length_drop, List.length_take]; rfl)) ?_
         with_reducible refine (laws_toMeander.calls kj113 _ _ l1_0 _ _ l1_1 t298 t301 _ ?side1 ?side2 ?side3 ?side4 A180.out).mono ?_
         (case side1 => exact (Kd.C_below HR1_0.out HB.out))
         (case side2 => exact HC1_0.out)
         (case side3 => exact (Kd.C_below HR1_1.out HB.out))
         (case side4 => exact HC1_1.out)
         rintro e w195 ⟨v299, v302, rfl, ho0, ho1, hb⟩
         refine ⟨_, rfl, ?_⟩
         have HO300 := Aside0.mk (Kd.R_lower (Kd.R_new' (Kd.R_new' (Kd.R_new' (Kd.R_new' (Kd.R_new' (Kd.R_new' (Kd.R_new' (Kd.R_new' (Kd.R_new' (Kd.R_new' ho0 (Kd.R_lt HO_244000.out)) (Kd.R_lt HO_244001.out)) (Kd.R_lt HO_251000.out)) (Kd.R_lt HO_251001.out)) (Kd.R_lt HO_258000.out)) (Kd.R_lt HO_258001.out)) (Kd.R_lt HO_266000.out)) (Kd.R_lt HO_266001.out)) (Kd.R_lt HO294.out)) (Kd.R_lt HO297.out)) (below_size HB.out))
         have HO303 := Aside0.mk (Kd.R_lower (Kd.R_new' (Kd.R_new' (Kd.R_new' (Kd.R_new' (Kd.R_new' (Kd.R_new' (Kd.R_new' (Kd.R_new' (Kd.R_new' (Kd.R_new' ho1 (Kd.R_lt HO_244000.out)) (Kd.R_lt HO_244001.out)) (Kd.R_lt HO_251000.out)) (Kd.R_lt HO_251001.out)) (Kd.R_lt HO_258000.out)) (Kd.R_lt HO_258001.out)) (Kd.R_lt HO_266000.out)) (Kd.R_lt HO_266001.out)) (Kd.R_lt HO294.out)) (Kd.R_lt HO297.out)) (below_size HB.out))
         replace HO_244000 := Aside0.mk (R2_ HO_244000.out hb ho0 ho1)
         replace HO_244001 := Aside0.mk (R2_ HO_244001.out hb ho0 ho1)
         replace HO_251000 := Aside0.mk (R2_ HO_251000.out hb ho0 ho1)
         replace HO_251001 := Aside0.mk (R2_ HO_251001.out hb ho0 ho1)
         replace HO_258000 := Aside0.mk (R2_ HO_258000.out hb ho0 ho1)
         replace HO_258001 := Aside0.mk (R2_ HO_258001.out hb ho0 ho1)
         replace HO_266000 := Aside0.mk (R2_ HO_266000.out hb ho0 ho1)
         replace HO_266001 := Aside0.mk (R2_ HO_266001.out hb ho0 ho1)
         replace HO294 := Aside0.mk (R2_ HO294.out hb ho0 ho1)
         replace HO297 := Aside0.mk (R2_ HO297.out hb ho0 ho1)
         replace BK220 := Aside0.mk (blk_below BK220.out hb)
         replace BK221 := Aside0.mk (blk_below BK221.out hb)
         replace BK243 := Aside0.mk (blk_below BK243.out hb)
         replace BK250 := Aside0.mk (blk_below BK250.out hb)
         replace BK257 := Aside0.mk (blk_below BK257.out hb)
         replace BK265 := Aside0.mk (blk_below BK265.out hb)
         replace BK311 := Aside0.mk (blk_below BK311.out hb)
         replace HB := Aside0.mk (below_step HB.out hb)
         (try clear hb)
         (try clear hb2)
         (try clear hk)
         (try clear hi)
         (try clear ho0)
         (try clear ho1)
         obtain ⟨Ao196, co196, eo196⟩ := Kd.R_slice HO294.out
         (first | subst eo196 | (injection eo196 with f1_ f2_ f3_; have f4_ := f1_.symm; have f5_ := f3_.symm; clear f1_ f2_ f3_; subst f4_; subst f5_))
         obtain ⟨Ao197, co197, eo197⟩ := Kd.R_slice HO297.out
         (first | subst eo197 | (injection eo197 with f1_ f2_ f3_; have f4_ := f1_.symm; have f5_ := f3_.symm; clear f1_ f2_ f3_; subst f4_; subst f5_))
         obtain ⟨Ao198, co198, eo198⟩ := Kd.R_slice HO300.out
         (first | subst eo198 | (injection eo198 with f1_ f2_ f3_; have f4_ := f1_.symm; have f5_ := f3_.symm; clear f1_ f2_ f3_; subst f4_; subst f5_))
         obtain ⟨Ao199, co199, eo199⟩ := Kd.R_slice HO303.out
         (first | subst eo199 | (injection eo199 with f1_ f2_ f3_; have f4_ := f1_.symm; have f5_ := f3_.symm; clear f1_ f2_ f3_; subst f4_; subst f5_))
         refine hK.out _ _ ⟨(blk_cell BK220.out 0).trans rfl, (blk_cell BK220.out 1).trans rfl, (blk_cell BK221.out 0).trans rfl, (blk_cell BK221.out 1).trans rfl⟩ (fun hHeld => ?_)
         clear hK K
         refine norm_ (a' := ?_) ?_ ?_
         rotate_left
         ·show Act.put _ (some 98) _ = _
          simp only [Act.put, List.setIfInBounds_toArray, List.set_cons_zero, List.set_cons_succ, i64_w, i32_w]
          rfl
         refine one_ (i := 4) (N := some 99) #[true, true, true, true, true, false, false, false, true, false, false] rfl rfl (one_of HT_.out (by kernel_rfl)) (by decide) (fun K hK => ?_)
         refine goes_ Try.func7 (by kernel_rfl) rfl #[.agg #[.slice Ao196 t292.length co196, .slice Ao197 t295.length co197], .agg #[.slice Ao198 t298.length co198, .slice Ao199 t301.length co199]] (by rfl) rfl rfl (by (try simp only [List.map_toArray, List.map_cons, List.map_nil]); first | done | rfl | (simp only [List.length_drop, List.length_take]; rfl)) ?_
         with_reducible refine (impl_JoinMeanders.calls kj113 _ _ t292 _ _ t295 _ _ t298 _ _ t301 t304 t307 t310 _ ?side1 ?side2 ?side3 ?side4 ?side5 ?side6 ?side7 ?side8 A181.out).mono ?_
         (case side1 => exact (Kd.R_reads' HO294.out).2.2)
         (case side2 => exact (Kd.R_reads' HO294.out).2.1)
         (case side3 => exact (Kd.R_reads' HO297.out).2.2)
         (case side4 => exact (Kd.R_reads' HO297.out).2.1)
         (case side5 => exact (Kd.R_reads' HO300.out).2.2)
         (case side6 => exact (Kd.R_reads' HO300.out).2.1)
         (case side7 => exact (Kd.R_reads' HO303.out).2.2)
         (case side8 => exact (Kd.R_reads' HO303.out).2.1)
         rintro e w200 ⟨v305, v308, rfl, ho0, ho1, hb⟩
         refine ⟨_, rfl, ?_⟩
         have HO306 := Aside0.mk (Kd.R_lower (Kd.R_new' (Kd.R_new' (Kd.R_new' (Kd.R_new' (Kd.R_new' (Kd.R_new' (Kd.R_new' (Kd.R_new' (Kd.R_new' (Kd.R_new' (Kd.R_new' (Kd.R_new' ho0 (Kd.R_lt HO_244000.out)) (Kd.R_lt HO_244001.out)) (Kd.R_lt HO_251000.out)) (Kd.R_lt HO_251001.out)) (Kd.R_lt HO_258000.out)) (Kd.R_lt HO_258001.out)) (Kd.R_lt HO_266000.out)) (Kd.R_lt HO_266001.out)) (Kd.R_lt HO294.out)) (Kd.R_lt HO297.out)) (Kd.R_lt HO300.out)) (Kd.R_lt HO303.out)) (below_size HB.out))
         have HO309 := Aside0.mk (Kd.R_lower (Kd.R_new' (Kd.R_new' (Kd.R_new' (Kd.R_new' (Kd.R_new' (Kd.R_new' (Kd.R_new' (Kd.R_new' (Kd.R_new' (Kd.R_new' (Kd.R_new' (Kd.R_new' ho1 (Kd.R_lt HO_244000.out)) (Kd.R_lt HO_244001.out)) (Kd.R_lt HO_251000.out)) (Kd.R_lt HO_251001.out)) (Kd.R_lt HO_258000.out)) (Kd.R_lt HO_258001.out)) (Kd.R_lt HO_266000.out)) (Kd.R_lt HO_266001.out)) (Kd.R_lt HO294.out)) (Kd.R_lt HO297.out)) (Kd.R_lt HO300.out)) (Kd.R_lt HO303.out)) (below_size HB.out))
         replace HO_244000 := Aside0.mk (R2_ HO_244000.out hb ho0 ho1)
         replace HO_244001 := Aside0.mk (R2_ HO_244001.out hb ho0 ho1)
         replace HO_251000 := Aside0.mk (R2_ HO_251000.out hb ho0 ho1)
         replace HO_251001 := Aside0.mk (R2_ HO_251001.out hb ho0 ho1)
         replace HO_258000 := Aside0.mk (R2_ HO_258000.out hb ho0 ho1)
         replace HO_258001 := Aside0.mk (R2_ HO_258001.out hb ho0 ho1)
         replace HO_266000 := Aside0.mk (R2_ HO_266000.out hb ho0 ho1)
         replace HO_266001 := Aside0.mk (R2_ HO_266001.out hb ho0 ho1)
         replace HO294 := Aside0.mk (R2_ HO294.out hb ho0 ho1)
         replace HO297 := Aside0.mk (R2_ HO297.out hb ho0 ho1)
         replace HO300 := Aside0.mk (R2_ HO300.out hb ho0 ho1)
         replace HO303 := Aside0.mk (R2_ HO303.out hb ho0 ho1)
         replace BK220 := Aside0.mk (blk_below BK220.out hb)
         replace BK221 := Aside0.mk (blk_below BK221.out hb)
         replace BK243 := Aside0.mk (blk_below BK243.out hb)
         replace BK250 := Aside0.mk (blk_below BK250.out hb)
         replace BK257 := Aside0.mk (blk_below BK257.out hb)
         replace BK265 := Aside0.mk (blk_below BK265.out hb)
         replace BK311 := Aside0.mk (blk_below BK311.out hb)
         replace HB := Aside0.mk (below_step HB.out hb)
         (try clear hb)
         (try clear hb2)
         (try clear hk)
         (try clear hi)
         (try clear ho0)
         (try clear ho1)
         refine hK.out _ _ ⟨(blk_cell BK220.out 0).trans rfl, (blk_cell BK220.out 1).trans rfl, (blk_cell BK221.out 0).trans rfl, (blk_cell BK221.out 1).trans rfl⟩ (fun hHeld => ?_)
         clear hK K
         refine norm_ (a' := ?_) ?_ ?_
         rotate_left
         ·show Act.put _ (some 99) _ = _
          simp only [Act.put, List.setIfInBounds_toArray, List.set_cons_zero, List.set_cons_succ, i64_w, i32_w]
          rfl
         refine pure_ (i := 5) (N := some 94) (v := ?_) (a' := ?_) #[true, true, true, true, true, true, false, false, true, false, false] rfl rfl (any_of HT_.out (by kernel_rfl)) (fun _ _ _ h => h) (Or.inl ⟨by rfl, ?_⟩) ?_ ?_
         rotate_left
         ·intro w'
          go_simp
          with_reducible rfl
         rotate_left
         ·simp only [Act.put, List.setIfInBounds_toArray, List.set_cons_zero, List.set_cons_succ, i64_w, i32_w]
          rfl
         refine pure_ (i := 6) (N := some 100) (v := ?_) (a' := ?_) #[true, true, true, true, true, true, true, false, true, false, false] rfl rfl (any_of HT_.out (by kernel_rfl)) (fun _ _ _ h => h) (Or.inl ⟨by rfl, ?_⟩) ?_ ?_
         rotate_left
         ·intro w'
          go_simp
          with_reducible rfl
         rotate_left
         ·simp only [Act.put, List.setIfInBounds_toArray, List.set_cons_zero, List.set_cons_succ, i64_w, i32_w]
          rfl
         refine pure_ (i := 7) (N := some 101) (v := ?_) (a' := ?_) #[true, true, true, true, true, true, true, true, true, false, false] rfl rfl (any_of HT_.out (by kernel_rfl)) (fun _ _ _ h => h) (Or.inl ⟨by rfl, ?_⟩) ?_ ?_
         rotate_left
         ·intro w'
          go_simp
          with_reducible rfl
         rotate_left
         ·simp only [Act.put, List.setIfInBounds_toArray, List.set_cons_zero, List.set_cons_succ, i64_w, i32_w]
          rfl
         exact norm_ (by simp only [putAll, Act.put, List.setIfInBounds_toArray, List.set_cons_zero, List.set_cons_succ]) (hCont (.slice Ao196 t292.length co196, .slice Ao197 t295.length co197, .slice Ao198 t298.length co198, .slice Ao199 t301.length co199, v305, v308, gb311) _ ⟨hHeld, (by (with_reducible repeat (first | apply Kd.R_alloc | apply Kd.R_drewN | apply Kd.R_drew)); exact Kd.R_mono HO294.out (fun _ hk => ⟨hk.1.1.1.1.1.1.1.1.1.1.1.1, ⟨hk.1.1.1.2, ⟨hk.1.1.2, ⟨hk.1.2, ⟨hk.2, ⟨hk.1.1.1.1.1.1.1.1.1.1.1.2, ⟨hk.1.1.1.1.1.1.1.1.1.1.2, ⟨hk.1.1.1.1.1.1.1.1.1.2, ⟨hk.1.1.1.1.1.1.1.1.2, ⟨hk.1.1.1.1.1.1.1.2, ⟨hk.1.1.1.1.1.1.2, ⟨hk.1.1.1.1.1.2, hk.1.1.1.1.2⟩⟩⟩⟩⟩⟩⟩⟩⟩⟩⟩⟩)), (by (with_reducible repeat (first | apply Kd.R_alloc | apply Kd.R_drewN | apply Kd.R_drew)); exact Kd.R_mono HO297.out (fun _ hk => ⟨hk.1.1.1.1.1.1.1.1.1.1.1.1, ⟨hk.1.1.1.2, ⟨hk.1.1.2, ⟨hk.1.2, ⟨hk.2, ⟨hk.1.1.1.1.1.1.1.1.1.1.1.2, ⟨hk.1.1.1.1.1.1.1.1.1.1.2, ⟨hk.1.1.1.1.1.1.1.1.1.2, ⟨hk.1.1.1.1.1.1.1.1.2, ⟨hk.1.1.1.1.1.1.1.2, ⟨hk.1.1.1.1.1.1.2, ⟨hk.1.1.1.1.1.2, hk.1.1.1.1.2⟩⟩⟩⟩⟩⟩⟩⟩⟩⟩⟩⟩)), (by (with_reducible repeat (first | apply Kd.R_alloc | apply Kd.R_drewN | apply Kd.R_drew)); exact Kd.R_mono HO300.out (fun _ hk => ⟨hk.1.1.1.2, ⟨hk.1.1.2, ⟨hk.1.1.1.1.1.1.1.1.1.1.1.1, ⟨hk.1.2, ⟨hk.2, ⟨hk.1.1.1.1.1.1.1.1.1.1.1.2, ⟨hk.1.1.1.1.1.1.1.1.1.1.2, ⟨hk.1.1.1.1.1.1.1.1.1.2, ⟨hk.1.1.1.1.1.1.1.1.2, ⟨hk.1.1.1.1.1.1.1.2, ⟨hk.1.1.1.1.1.1.2, ⟨hk.1.1.1.1.1.2, hk.1.1.1.1.2⟩⟩⟩⟩⟩⟩⟩⟩⟩⟩⟩⟩)), (by (with_reducible repeat (first | apply Kd.R_alloc | apply Kd.R_drewN | apply Kd.R_drew)); exact Kd.R_mono HO303.out (fun _ hk => ⟨hk.1.1.1.2, ⟨hk.1.1.2, ⟨hk.1.1.1.1.1.1.1.1.1.1.1.1, ⟨hk.1.2, ⟨hk.2, ⟨hk.1.1.1.1.1.1.1.1.1.1.1.2, ⟨hk.1.1.1.1.1.1.1.1.1.1.2, ⟨hk.1.1.1.1.1.1.1.1.1.2, ⟨hk.1.1.1.1.1.1.1.1.2, ⟨hk.1.1.1.1.1.1.1.2, ⟨hk.1.1.1.1.1.1.2, ⟨hk.1.1.1.1.1.2, hk.1.1.1.1.2⟩⟩⟩⟩⟩⟩⟩⟩⟩⟩⟩⟩)), (by (with_reducible repeat (first | apply Kd.R_alloc | apply Kd.R_drewN | apply Kd.R_drew)); exact Kd.R_mono HO306.out (fun _ hk => ⟨hk.1.1.1.2, ⟨hk.1.1.2, ⟨hk.1.2, ⟨hk.2, ⟨hk.1.1.1.1.1.1.1.1.1.1.1.1, ⟨hk.1.1.1.1.1.1.1.1.1.1.1.2, ⟨hk.1.1.1.1.1.1.1.1.1.1.2, ⟨hk.1.1.1.1.1.1.1.1.1.2, ⟨hk.1.1.1.1.1.1.1.1.2, ⟨hk.1.1.1.1.1.1.1.2, ⟨hk.1.1.1.1.1.1.2, ⟨hk.1.1.1.1.1.2, hk.1.1.1.1.2⟩⟩⟩⟩⟩⟩⟩⟩⟩⟩⟩⟩)), (by (with_reducible repeat (first | apply Kd.R_alloc | apply Kd.R_drewN | apply Kd.R_drew)); exact Kd.R_mono HO309.out (fun _ hk => ⟨hk.1.1.1.2, ⟨hk.1.1.2, ⟨hk.1.2, ⟨hk.2, ⟨hk.1.1.1.1.1.1.1.1.1.1.1.1, ⟨hk.1.1.1.1.1.1.1.1.1.1.1.2, ⟨hk.1.1.1.1.1.1.1.1.1.1.2, ⟨hk.1.1.1.1.1.1.1.1.1.2, ⟨hk.1.1.1.1.1.1.1.1.2, ⟨hk.1.1.1.1.1.1.1.2, ⟨hk.1.1.1.1.1.1.2, ⟨hk.1.1.1.1.1.2, hk.1.1.1.1.2⟩⟩⟩⟩⟩⟩⟩⟩⟩⟩⟩⟩)), (by (with_reducible repeat (first | apply Kd.R_alloc | apply Kd.R_drewN | apply Kd.R_drew)); exact Kd.R_mono HO_244000.out (fun _ hk => ⟨hk.1.1.1.1.1.2, ⟨hk.1.1.1.1.2, ⟨hk.1.1.1.2, ⟨hk.1.1.2, ⟨hk.1.2, ⟨hk.2, ⟨hk.1.1.1.1.1.1.1, ⟨hk.1.1.1.1.1.1.2.1, ⟨hk.1.1.1.1.1.1.2.2.1, ⟨hk.1.1.1.1.1.1.2.2.2.1, ⟨hk.1.1.1.1.1.1.2.2.2.2.1, ⟨hk.1.1.1.1.1.1.2.2.2.2.2.1, hk.1.1.1.1.1.1.2.2.2.2.2.2⟩⟩⟩⟩⟩⟩⟩⟩⟩⟩⟩⟩)), (by (with_reducible repeat (first | apply Kd.R_alloc | apply Kd.R_drewN | apply Kd.R_drew)); exact Kd.R_mono HO_244001.out (fun _ hk => ⟨hk.1.1.1.1.1.2, ⟨hk.1.1.1.1.2, ⟨hk.1.1.1.2, ⟨hk.1.1.2, ⟨hk.1.2, ⟨hk.2, ⟨hk.1.1.1.1.1.1.1, ⟨hk.1.1.1.1.1.1.2.1, ⟨hk.1.1.1.1.1.1.2.2.1, ⟨hk.1.1.1.1.1.1.2.2.2.1, ⟨hk.1.1.1.1.1.1.2.2.2.2.1, ⟨hk.1.1.1.1.1.1.2.2.2.2.2.1, hk.1.1.1.1.1.1.2.2.2.2.2.2⟩⟩⟩⟩⟩⟩⟩⟩⟩⟩⟩⟩)), (by (with_reducible repeat (first | apply Kd.R_alloc | apply Kd.R_drewN | apply Kd.R_drew)); exact Kd.R_mono HO_251000.out (fun _ hk => ⟨hk.1.1.1.1.1.2, ⟨hk.1.1.1.1.2, ⟨hk.1.1.1.2, ⟨hk.1.1.2, ⟨hk.1.2, ⟨hk.2, ⟨hk.1.1.1.1.1.1.1, ⟨hk.1.1.1.1.1.1.2.1, ⟨hk.1.1.1.1.1.1.2.2.1, ⟨hk.1.1.1.1.1.1.2.2.2.1, ⟨hk.1.1.1.1.1.1.2.2.2.2.1, ⟨hk.1.1.1.1.1.1.2.2.2.2.2.1, hk.1.1.1.1.1.1.2.2.2.2.2.2⟩⟩⟩⟩⟩⟩⟩⟩⟩⟩⟩⟩)), (by (with_reducible repeat (first | apply Kd.R_alloc | apply Kd.R_drewN | apply Kd.R_drew)); exact Kd.R_mono HO_251001.out (fun _ hk => ⟨hk.1.1.1.1.1.2, ⟨hk.1.1.1.1.2, ⟨hk.1.1.1.2, ⟨hk.1.1.2, ⟨hk.1.2, ⟨hk.2, ⟨hk.1.1.1.1.1.1.1, ⟨hk.1.1.1.1.1.1.2.1, ⟨hk.1.1.1.1.1.1.2.2.1, ⟨hk.1.1.1.1.1.1.2.2.2.1, ⟨hk.1.1.1.1.1.1.2.2.2.2.1, ⟨hk.1.1.1.1.1.1.2.2.2.2.2.1, hk.1.1.1.1.1.1.2.2.2.2.2.2⟩⟩⟩⟩⟩⟩⟩⟩⟩⟩⟩⟩)), (by (with_reducible repeat (first | apply Kd.R_alloc | apply Kd.R_drewN | apply Kd.R_drew)); exact Kd.R_mono HO_258000.out (fun _ hk => ⟨hk.1.1.1.1.1.2, ⟨hk.1.1.1.1.2, ⟨hk.1.1.1.2, ⟨hk.1.1.2, ⟨hk.1.2, ⟨hk.2, ⟨hk.1.1.1.1.1.1.1, ⟨hk.1.1.1.1.1.1.2.1, ⟨hk.1.1.1.1.1.1.2.2.1, ⟨hk.1.1.1.1.1.1.2.2.2.1, ⟨hk.1.1.1.1.1.1.2.2.2.2.1, ⟨hk.1.1.1.1.1.1.2.2.2.2.2.1, hk.1.1.1.1.1.1.2.2.2.2.2.2⟩⟩⟩⟩⟩⟩⟩⟩⟩⟩⟩⟩)), (by (with_reducible repeat (first | apply Kd.R_alloc | apply Kd.R_drewN | apply Kd.R_drew)); exact Kd.R_mono HO_258001.out (fun _ hk => ⟨hk.1.1.1.1.1.2, ⟨hk.1.1.1.1.2, ⟨hk.1.1.1.2, ⟨hk.1.1.2, ⟨hk.1.2, ⟨hk.2, ⟨hk.1.1.1.1.1.1.1, ⟨hk.1.1.1.1.1.1.2.1, ⟨hk.1.1.1.1.1.1.2.2.1, ⟨hk.1.1.1.1.1.1.2.2.2.1, ⟨hk.1.1.1.1.1.1.2.2.2.2.1, ⟨hk.1.1.1.1.1.1.2.2.2.2.2.1, hk.1.1.1.1.1.1.2.2.2.2.2.2⟩⟩⟩⟩⟩⟩⟩⟩⟩⟩⟩⟩)), (by (with_reducible repeat (first | apply Kd.R_alloc | apply Kd.R_drewN | apply Kd.R_drew)); exact Kd.R_mono HO_266000.out (fun _ hk => ⟨hk.1.1.1.1.1.2, ⟨hk.1.1.1.1.2, ⟨hk.1.1.1.2, ⟨hk.1.1.2, ⟨hk.1.2, ⟨hk.2, ⟨hk.1.1.1.1.1.1.1, ⟨hk.1.1.1.1.1.1.2.1, ⟨hk.1.1.1.1.1.1.2.2.1, ⟨hk.1.1.1.1.1.1.2.2.2.1, ⟨hk.1.1.1.1.1.1.2.2.2.2.1, ⟨hk.1.1.1.1.1.1.2.2.2.2.2.1, hk.1.1.1.1.1.1.2.2.2.2.2.2⟩⟩⟩⟩⟩⟩⟩⟩⟩⟩⟩⟩)), (by (with_reducible repeat (first | apply Kd.R_alloc | apply Kd.R_drewN | apply Kd.R_drew)); exact Kd.R_mono HO_266001.out (fun _ hk => ⟨hk.1.1.1.1.1.2, ⟨hk.1.1.1.1.2, ⟨hk.1.1.1.2, ⟨hk.1.1.2, ⟨hk.1.2, ⟨hk.2, ⟨hk.1.1.1.1.1.1.1, ⟨hk.1.1.1.1.1.1.2.1, ⟨hk.1.1.1.1.1.1.2.2.1, ⟨hk.1.1.1.1.1.1.2.2.2.1, ⟨hk.1.1.1.1.1.1.2.2.2.2.1, ⟨hk.1.1.1.1.1.1.2.2.2.2.2.1, hk.1.1.1.1.1.1.2.2.2.2.2.2⟩⟩⟩⟩⟩⟩⟩⟩⟩⟩⟩⟩)), BK220.out, BK221.out, BK243.out, BK250.out, BK257.out, BK265.out, BK311.out, GW311.out, GE311.out, NB220_311.out, NB311_220.out, NB221_311.out, NB311_221.out, NB243_311.out, NB311_243.out, NB250_311.out, NB311_250.out, NB257_311.out, NB311_257.out, NB265_311.out, NB311_265.out, HB.out⟩)
       ·skip
        refine box_step ?hg (N := 15) ?hd (cs := #[.slice none 0 0, .slice none 0 0]) (t := 26) ?hr ?_; (case hd => rfl); (case hg => rfl); (case hr => first | (go_simp; done) | (go_simp; rfl))
        intro gb311 hg w193 hbox hb
        replace HO_244000 := Aside0.mk (Kd.R_below HO_244000.out hb)
        replace HO_244001 := Aside0.mk (Kd.R_below HO_244001.out hb)
        replace HO_251000 := Aside0.mk (Kd.R_below HO_251000.out hb)
        replace HO_251001 := Aside0.mk (Kd.R_below HO_251001.out hb)
        replace HO_258000 := Aside0.mk (Kd.R_below HO_258000.out hb)
        replace HO_258001 := Aside0.mk (Kd.R_below HO_258001.out hb)
        replace HO_266000 := Aside0.mk (Kd.R_below HO_266000.out hb)
        replace HO_266001 := Aside0.mk (Kd.R_below HO_266001.out hb)
        have BK311 := Aside0.mk (hbox)
        have GW311 := Aside0.mk ((by rw [hg]; exact (below_size HB.out) : w.heap.size ≤ gb311))
        have GE311 := Aside0.mk ((by rw [hg]; exact (below_size HB.out) : w.heap.size ≤ gb311))
        replace HB := Aside0.mk (below_step HB.out hb)
        have NB220_311 := Aside0.mk ((by rw [hg]; exact Nat.ne_of_lt (blk_lt (g := gb220) (o := .cells #[.slice A0_0 l0_0.length c0_0, .slice A0_1 l0_1.length c0_1] 24 (0, 0)) BK220.out) : gb220 ≠ gb311))
        have NB311_220 := Aside0.mk ((by rw [hg]; exact Nat.ne_of_gt (blk_lt (g := gb220) (o := .cells #[.slice A0_0 l0_0.length c0_0, .slice A0_1 l0_1.length c0_1] 24 (0, 0)) BK220.out) : gb311 ≠ gb220))
        replace BK220 := Aside0.mk (blk_below BK220.out hb)
        have NB221_311 := Aside0.mk ((by rw [hg]; exact Nat.ne_of_lt (blk_lt (g := gb221) (o := .cells #[.slice A1_0 l1_0.length c1_0, .slice A1_1 l1_1.length c1_1] 24 (0, 0)) BK221.out) : gb221 ≠ gb311))
        have NB311_221 := Aside0.mk ((by rw [hg]; exact Nat.ne_of_gt (blk_lt (g := gb221) (o := .cells #[.slice A1_0 l1_0.length c1_0, .slice A1_1 l1_1.length c1_1] 24 (0, 0)) BK221.out) : gb311 ≠ gb221))
        replace BK221 := Aside0.mk (blk_below BK221.out hb)
        have NB243_311 := Aside0.mk ((by rw [hg]; exact Nat.ne_of_lt (blk_lt (g := gb243) (o := .cells #[.slice Ao43 t236.length co43, .slice Ao45 t239.length co45] 26 (0, 0)) BK243.out) : gb243 ≠ gb311))
        have NB311_243 := Aside0.mk ((by rw [hg]; exact Nat.ne_of_gt (blk_lt (g := gb243) (o := .cells #[.slice Ao43 t236.length co43, .slice Ao45 t239.length co45] 26 (0, 0)) BK243.out) : gb311 ≠ gb243))
        replace BK243 := Aside0.mk (blk_below BK243.out hb)
        have NB250_311 := Aside0.mk ((by rw [hg]; exact Nat.ne_of_lt (blk_lt (g := gb250) (o := .cells #[.slice Ao51 t282.length co51, .slice Ao56 t283.length co56] 26 (0, 0)) BK250.out) : gb250 ≠ gb311))
        have NB311_250 := Aside0.mk ((by rw [hg]; exact Nat.ne_of_gt (blk_lt (g := gb250) (o := .cells #[.slice Ao51 t282.length co51, .slice Ao56 t283.length co56] 26 (0, 0)) BK250.out) : gb311 ≠ gb250))
        replace BK250 := Aside0.mk (blk_below BK250.out hb)
        have NB257_311 := Aside0.mk ((by rw [hg]; exact Nat.ne_of_lt (blk_lt (g := gb257) (o := .cells #[.slice Ao61 t285.length co61, .slice Ao67 t286.length co67] 26 (0, 0)) BK257.out) : gb257 ≠ gb311))
        have NB311_257 := Aside0.mk ((by rw [hg]; exact Nat.ne_of_gt (blk_lt (g := gb257) (o := .cells #[.slice Ao61 t285.length co61, .slice Ao67 t286.length co67] 26 (0, 0)) BK257.out) : gb311 ≠ gb257))
        replace BK257 := Aside0.mk (blk_below BK257.out hb)
        have NB265_311 := Aside0.mk ((by rw [hg]; exact Nat.ne_of_lt (blk_lt (g := gb265) (o := .cells #[.slice Ao71 t258.length co71, .slice Ao78 t261.length co78] 26 (0, 0)) BK265.out) : gb265 ≠ gb311))
        have NB311_265 := Aside0.mk ((by rw [hg]; exact Nat.ne_of_gt (blk_lt (g := gb265) (o := .cells #[.slice Ao71 t258.length co71, .slice Ao78 t261.length co78] 26 (0, 0)) BK265.out) : gb311 ≠ gb265))
        replace BK265 := Aside0.mk (blk_below BK265.out hb)
        clear hb hbox hg
        refine hK.out _ _ ⟨(blk_cell BK220.out 0).trans rfl, (blk_cell BK220.out 1).trans rfl, (blk_cell BK221.out 0).trans rfl, (blk_cell BK221.out 1).trans rfl⟩ (fun hHeld => ?_)
        clear hK K
        refine norm_ (a' := ?_) ?_ ?_
        rotate_left
        ·show Act.put _ (some 15) _ = _
         simp only [Act.put, List.setIfInBounds_toArray, List.set_cons_zero, List.set_cons_succ, i64_w, i32_w]
         rfl
        refine one_ (i := 1) (N := some 96) #[true, true, true, false, false, false, false, false, true, false, false] rfl rfl (one_of HT_.out (by kernel_rfl)) (by decide) (fun K hK => ?_)
        refine goes_ Try.func6 (by kernel_rfl) rfl #[.agg #[.slice A0_0 l0_0.length c0_0, .slice A0_1 l0_1.length c0_1]] (by rfl) rfl rfl (by (try simp only [List.map_toArray, List.map_cons, List.map_nil]); first | done | rfl | (simp only [List.length_drop, List.length_take]; rfl)) ?_
        with_reducible refine (laws_toMeander.calls kj113 _ _ l0_0 _ _ l0_1 t292 t295 _ ?side1 ?side2 ?side3 ?side4 A179.out).mono ?_
        (case side1 => exact (Kd.C_below HR0_0.out HB.out))
        (case side2 => exact HC0_0.out)
        (case side3 => exact (Kd.C_below HR0_1.out HB.out))
        (case side4 => exact HC0_1.out)
        rintro e w194 ⟨v293, v296, rfl, ho0, ho1, hb⟩
        refine ⟨_, rfl, ?_⟩
        have HO294 := Aside0.mk (Kd.R_lower (Kd.R_new' (Kd.R_new' (Kd.R_new' (Kd.R_new' (Kd.R_new' (Kd.R_new' (Kd.R_new' (Kd.R_new' ho0 (Kd.R_lt HO_244000.out)) (Kd.R_lt HO_244001.out)) (Kd.R_lt HO_251000.out)) (Kd.R_lt HO_251001.out)) (Kd.R_lt HO_258000.out)) (Kd.R_lt HO_258001.out)) (Kd.R_lt HO_266000.out)) (Kd.R_lt HO_266001.out)) (below_size HB.out))
        have HO297 := Aside0.mk (Kd.R_lower (Kd.R_new' (Kd.R_new' (Kd.R_new' (Kd.R_new' (Kd.R_new' (Kd.R_new' (Kd.R_new' (Kd.R_new' ho1 (Kd.R_lt HO_244000.out)) (Kd.R_lt HO_244001.out)) (Kd.R_lt HO_251000.out)) (Kd.R_lt HO_251001.out)) (Kd.R_lt HO_258000.out)) (Kd.R_lt HO_258001.out)) (Kd.R_lt HO_266000.out)) (Kd.R_lt HO_266001.out)) (below_size HB.out))
        replace HO_244000 := Aside0.mk (R2_ HO_244000.out hb ho0 ho1)
        replace HO_244001 := Aside0.mk (R2_ HO_244001.out hb ho0 ho1)
        replace HO_251000 := Aside0.mk (R2_ HO_251000.out hb ho0 ho1)
        replace HO_251001 := Aside0.mk (R2_ HO_251001.out hb ho0 ho1)
        replace HO_258000 := Aside0.mk (R2_ HO_258000.out hb ho0 ho1)
        replace HO_258001 := Aside0.mk (R2_ HO_258001.out hb ho0 ho1)
        replace HO_266000 := Aside0.mk (R2_ HO_266000.out hb ho0 ho1)
        replace HO_266001 := Aside0.mk (R2_ HO_266001.out hb ho0 ho1)
        replace BK220 := Aside0.mk (blk_below BK220.out hb)
        replace BK221 := Aside0.mk (blk_below BK221.out hb)
        replace BK243 := Aside0.mk (blk_below BK243.out hb)
        replace BK250 := Aside0.mk (blk_below BK250.out hb)
        replace BK257 := Aside0.mk (blk_below BK257.out hb)
        replace BK265 := Aside0.mk (blk_below BK265.out hb)
        replace BK311 := Aside0.mk (blk_below BK311.out hb)
        replace HB := Aside0.mk (below_step HB.out hb)
        (try clear hb)
        (try clear hb2)
        (try clear hk)
        (try clear hi)
        (try clear ho0)
        (try clear ho1)
        refine hK.out _ _ ⟨(blk_cell BK220.out 0).trans rfl, (blk_cell BK220.out 1).trans rfl, (blk_cell BK221.out 0).trans rfl, (blk_cell BK221.out 1).trans rfl⟩ (fun hHeld => ?_)
        clear hK K
        refine norm_ (a' := ?_) ?_ ?_
        rotate_left
        ·show Act.put _ (some 96) _ = _
         simp only [Act.put, List.setIfInBounds_toArray, List.set_cons_zero, List.set_cons_succ, i64_w, i32_w]
         rfl
        refine one_ (i := 3) (N := some 98) #[true, true, true, true, false, false, false, false, true, false, false] rfl rfl (one_of HT_.out (by kernel_rfl)) (by decide) (fun K hK => ?_)
        refine goes_ Try.func6 (by kernel_rfl) rfl #[.agg #[.slice A1_0 l1_0.length c1_0, .slice A1_1 l1_1.length c1_1]] (by rfl) rfl rfl (by (try simp only [List.map_toArray, List.map_cons, List.map_nil]); first | done | rfl | (simp only [List.length_drop, List.length_take]; rfl)) ?_
        with_reducible refine (laws_toMeander.calls kj113 _ _ l1_0 _ _ l1_1 t298 t301 _ ?side1 ?side2 ?side3 ?side4 A180.out).mono ?_
        (case side1 => exact (Kd.C_below HR1_0.out HB.out))
        (case side2 => exact HC1_0.out)
        (case side3 => exact (Kd.C_below HR1_1.out HB.out))
        (case side4 => exact HC1_1.out)
        rintro e w195 ⟨v299, v302, rfl, ho0, ho1, hb⟩
        refine ⟨_, rfl, ?_⟩
        have HO300 := Aside0.mk (Kd.R_lower (Kd.R_new' (Kd.R_new' (Kd.R_new' (Kd.R_new' (Kd.R_new' (Kd.R_new' (Kd.R_new' (Kd.R_new' (Kd.R_new' (Kd.R_new' ho0 (Kd.R_lt HO_244000.out)) (Kd.R_lt HO_244001.out)) (Kd.R_lt HO_251000.out)) (Kd.R_lt HO_251001.out)) (Kd.R_lt HO_258000.out)) (Kd.R_lt HO_258001.out)) (Kd.R_lt HO_266000.out)) (Kd.R_lt HO_266001.out)) (Kd.R_lt HO294.out)) (Kd.R_lt HO297.out)) (below_size HB.out))
        have HO303 := Aside0.mk (Kd.R_lower (Kd.R_new' (Kd.R_new' (Kd.R_new' (Kd.R_new' (Kd.R_new' (Kd.R_new' (Kd.R_new' (Kd.R_new' (Kd.R_new' (Kd.R_new' ho1 (Kd.R_lt HO_244000.out)) (Kd.R_lt HO_244001.out)) (Kd.R_lt HO_251000.out)) (Kd.R_lt HO_251001.out)) (Kd.R_lt HO_258000.out)) (Kd.R_lt HO_258001.out)) (Kd.R_lt HO_266000.out)) (Kd.R_lt HO_266001.out)) (Kd.R_lt HO294.out)) (Kd.R_lt HO297.out)) (below_size HB.out))
        replace HO_244000 := Aside0.mk (R2_ HO_244000.out hb ho0 ho1)
        replace HO_244001 := Aside0.mk (R2_ HO_244001.out hb ho0 ho1)
        replace HO_251000 := Aside0.mk (R2_ HO_251000.out hb ho0 ho1)
        replace HO_251001 := Aside0.mk (R2_ HO_251001.out hb ho0 ho1)
        replace HO_258000 := Aside0.mk (R2_ HO_258000.out hb ho0 ho1)
        replace HO_258001 := Aside0.mk (R2_ HO_258001.out hb ho0 ho1)
        replace HO_266000 := Aside0.mk (R2_ HO_266000.out hb ho0 ho1)
        replace HO_266001 := Aside0.mk (R2_ HO_266001.out hb ho0 ho1)
        replace HO294 := Aside0.mk (R2_ HO294.out hb ho0 ho1)
        replace HO297 := Aside0.mk (R2_ HO297.out hb ho0 ho1)
        replace BK220 := Aside0.mk (blk_below BK220.out hb)
        replace BK221 := Aside0.mk (blk_below BK221.out hb)
        replace BK243 := Aside0.mk (blk_below BK243.out hb)
        replace BK250 := Aside0.mk (blk_below BK250.out hb)
        replace BK257 := Aside0.mk (blk_below BK257.out hb)
        replace BK265 := Aside0.mk (blk_below BK265.out hb)
        replace BK311 := Aside0.mk (blk_below BK311.out hb)
        replace HB := Aside0.mk (below_step HB.out hb)
        (try clear hb)
        (try clear hb2)
        (try clear hk)
        (try clear hi)
        (try clear ho0)
        (try clear ho1)
        obtain ⟨Ao196, co196, eo196⟩ := Kd.R_slice HO294.out
        (first | subst eo196 | (injection eo196 with f1_ f2_ f3_; have f4_ := f1_.symm; have f5_ := f3_.symm; clear f1_ f2_ f3_; subst f4_; subst f5_))
        obtain ⟨Ao197, co197, eo197⟩ := Kd.R_slice HO297.out
        (first | subst eo197 | (injection eo197 with f1_ f2_ f3_; have f4_ := f1_.symm; have f5_ := f3_.symm; clear f1_ f2_ f3_; subst f4_; subst f5_))
        obtain ⟨Ao198, co198, eo198⟩ := Kd.R_slice HO300.out
        (first | subst eo198 | (injection eo198 with f1_ f2_ f3_; have f4_ := f1_.symm; have f5_ := f3_.symm; clear f1_ f2_ f3_; subst f4_; subst f5_))
        obtain ⟨Ao199, co199, eo199⟩ := Kd.R_slice HO303.out
        (first | subst eo199 | (injection eo199 with f1_ f2_ f3_; have f4_ := f1_.symm; have f5_ := f3_.symm; clear f1_ f2_ f3_; subst f4_; subst f5_))
        refine hK.out _ _ ⟨(blk_cell BK220.out 0).trans rfl, (blk_cell BK220.out 1).trans rfl, (blk_cell BK221.out 0).trans rfl, (blk_cell BK221.out 1).trans rfl⟩ (fun hHeld => ?_)
        clear hK K
        refine norm_ (a' := ?_) ?_ ?_
        rotate_left
        ·show Act.put _ (some 98) _ = _
         simp only [Act.put, List.setIfInBounds_toArray, List.set_cons_zero, List.set_cons_succ, i64_w, i32_w]
         rfl
        refine one_ (i := 4) (N := some 99) #[true, true, true, true, true, false, false, false, true, false, false] rfl rfl (one_of HT_.out (by kernel_rfl)) (by decide) (fun K hK => ?_)
        refine goes_ Try.func7 (by kernel_rfl) rfl #[.agg #[.slice Ao196 t292.length co196, .slice Ao197 t295.length co197], .agg #[.slice Ao198 t298.length co198, .slice Ao199 t301.length co199]] (by rfl) rfl rfl (by (try simp only [List.map_toArray, List.map_cons, List.map_nil]); first | done | rfl | (simp only [List.length_drop, List.length_take]; rfl)) ?_
        with_reducible refine (impl_JoinMeanders.calls kj113 _ _ t292 _ _ t295 _ _ t298 _ _ t301 t304 t307 t310 _ ?side1 ?side2 ?side3 ?side4 ?side5 ?side6 ?side7 ?side8 A181.out).mono ?_
        (case side1 => exact (Kd.R_reads' HO294.out).2.2)
        (case side2 => exact (Kd.R_reads' HO294.out).2.1)
        (case side3 => exact (Kd.R_reads' HO297.out).2.2)
        (case side4 => exact (Kd.R_reads' HO297.out).2.1)
        (case side5 => exact (Kd.R_reads' HO300.out).2.2)
        (case side6 => exact (Kd.R_reads' HO300.out).2.1)
        (case side7 => exact (Kd.R_reads' HO303.out).2.2)
        (case side8 => exact (Kd.R_reads' HO303.out).2.1)
        rintro e w200 ⟨v305, v308, rfl, ho0, ho1, hb⟩
        refine ⟨_, rfl, ?_⟩
        have HO306 := Aside0.mk (Kd.R_lower (Kd.R_new' (Kd.R_new' (Kd.R_new' (Kd.R_new' (Kd.R_new' (Kd.R_new' (Kd.R_new' (Kd.R_new' (Kd.R_new' (Kd.R_new' (Kd.R_new' (Kd.R_new' ho0 (Kd.R_lt HO_244000.out)) (Kd.R_lt HO_244001.out)) (Kd.R_lt HO_251000.out)) (Kd.R_lt HO_251001.out)) (Kd.R_lt HO_258000.out)) (Kd.R_lt HO_258001.out)) (Kd.R_lt HO_266000.out)) (Kd.R_lt HO_266001.out)) (Kd.R_lt HO294.out)) (Kd.R_lt HO297.out)) (Kd.R_lt HO300.out)) (Kd.R_lt HO303.out)) (below_size HB.out))
        have HO309 := Aside0.mk (Kd.R_lower (Kd.R_new' (Kd.R_new' (Kd.R_new' (Kd.R_new' (Kd.R_new' (Kd.R_new' (Kd.R_new' (Kd.R_new' (Kd.R_new' (Kd.R_new' (Kd.R_new' (Kd.R_new' ho1 (Kd.R_lt HO_244000.out)) (Kd.R_lt HO_244001.out)) (Kd.R_lt HO_251000.out)) (Kd.R_lt HO_251001.out)) (Kd.R_lt HO_258000.out)) (Kd.R_lt HO_258001.out)) (Kd.R_lt HO_266000.out)) (Kd.R_lt HO_266001.out)) (Kd.R_lt HO294.out)) (Kd.R_lt HO297.out)) (Kd.R_lt HO300.out)) (Kd.R_lt HO303.out)) (below_size HB.out))
        replace HO_244000 := Aside0.mk (R2_ HO_244000.out hb ho0 ho1)
        replace HO_244001 := Aside0.mk (R2_ HO_244001.out hb ho0 ho1)
        replace HO_251000 := Aside0.mk (R2_ HO_251000.out hb ho0 ho1)
        replace HO_251001 := Aside0.mk (R2_ HO_251001.out hb ho0 ho1)
        replace HO_258000 := Aside0.mk (R2_ HO_258000.out hb ho0 ho1)
        replace HO_258001 := Aside0.mk (R2_ HO_258001.out hb ho0 ho1)
        replace HO_266000 := Aside0.mk (R2_ HO_266000.out hb ho0 ho1)
        replace HO_266001 := Aside0.mk (R2_ HO_266001.out hb ho0 ho1)
        replace HO294 := Aside0.mk (R2_ HO294.out hb ho0 ho1)
        replace HO297 := Aside0.mk (R2_ HO297.out hb ho0 ho1)
        replace HO300 := Aside0.mk (R2_ HO300.out hb ho0 ho1)
        replace HO303 := Aside0.mk (R2_ HO303.out hb ho0 ho1)
        replace BK220 := Aside0.mk (blk_below BK220.out hb)
        replace BK221 := Aside0.mk (blk_below BK221.out hb)
        replace BK243 := Aside0.mk (blk_below BK243.out hb)
        replace BK250 := Aside0.mk (blk_below BK250.out hb)
        replace BK257 := Aside0.mk (blk_below BK257.out hb)
        replace BK265 := Aside0.mk (blk_below BK265.out hb)
        replace BK311 := Aside0.mk (blk_below BK311.out hb)
        replace HB := Aside0.mk (below_step HB.out hb)
        (try clear hb)
        (try clear hb2)
        (try clear hk)
        (try clear hi)
        (try clear ho0)
        (try clear ho1)
        refine hK.out _ _ ⟨(blk_cell BK220.out 0).trans rfl, (blk_cell BK220.out 1).trans rfl, (blk_cell BK221.out 0).trans rfl, (blk_cell BK221.out 1).trans rfl⟩ (fun hHeld => ?_)
        clear hK K
        refine norm_ (a' := ?_) ?_ ?_
        rotate_left
        ·show Act.put _ (some 99) _ = _
         simp only [Act.put, List.setIfInBounds_toArray, List.set_cons_zero, List.set_cons_succ, i64_w, i32_w]
         rfl
        refine pure_ (i := 5) (N := some 94) (v := ?_) (a' := ?_) #[true, true, true, true, true, true, false, false, true, false, false] rfl rfl (any_of HT_.out (by kernel_rfl)) (fun _ _ _ h => h) (Or.inl ⟨by rfl, ?_⟩) ?_ ?_
        rotate_left
        ·intro w'
         go_simp
         with_reducible rfl
        rotate_left
        ·simp only [Act.put, List.setIfInBounds_toArray, List.set_cons_zero, List.set_cons_succ, i64_w, i32_w]
         rfl
        refine pure_ (i := 6) (N := some 100) (v := ?_) (a' := ?_) #[true, true, true, true, true, true, true, false, true, false, false] rfl rfl (any_of HT_.out (by kernel_rfl)) (fun _ _ _ h => h) (Or.inl ⟨by rfl, ?_⟩) ?_ ?_
        rotate_left
        ·intro w'
         go_simp
         with_reducible rfl
        rotate_left
        ·simp only [Act.put, List.setIfInBounds_toArray, List.set_cons_zero, List.set_cons_succ, i64_w, i32_w]
         rfl
        refine pure_ (i := 7) (N := some 101) (v := ?_) (a' := ?_) #[true, true, true, true, true, true, true, true, true, false, false] rfl rfl (any_of HT_.out (by kernel_rfl)) (fun _ _ _ h => h) (Or.inl ⟨by rfl, ?_⟩) ?_ ?_
        rotate_left
        ·intro w'
         go_simp
         with_reducible rfl
        rotate_left
        ·simp only [Act.put, List.setIfInBounds_toArray, List.set_cons_zero, List.set_cons_succ, i64_w, i32_w]
         rfl
        exact norm_ (by simp only [putAll, Act.put, List.setIfInBounds_toArray, List.set_cons_zero, List.set_cons_succ]) (hCont (.slice Ao196 t292.length co196, .slice Ao197 t295.length co197, .slice Ao198 t298.length co198, .slice Ao199 t301.length co199, v305, v308, gb311) _ ⟨hHeld, (by (with_reducible repeat (first | apply Kd.R_alloc | apply Kd.R_drewN | apply Kd.R_drew)); exact Kd.R_mono HO294.out (fun _ hk => ⟨hk.1.1.1.1.1.1.1.1.1.1.1.1, ⟨hk.1.1.1.2, ⟨hk.1.1.2, ⟨hk.1.2, ⟨hk.2, ⟨hk.1.1.1.1.1.1.1.1.1.1.1.2, ⟨hk.1.1.1.1.1.1.1.1.1.1.2, ⟨hk.1.1.1.1.1.1.1.1.1.2, ⟨hk.1.1.1.1.1.1.1.1.2, ⟨hk.1.1.1.1.1.1.1.2, ⟨hk.1.1.1.1.1.1.2, ⟨hk.1.1.1.1.1.2, hk.1.1.1.1.2⟩⟩⟩⟩⟩⟩⟩⟩⟩⟩⟩⟩)), (by (with_reducible repeat (first | apply Kd.R_alloc | apply Kd.R_drewN | apply Kd.R_drew)); exact Kd.R_mono HO297.out (fun _ hk => ⟨hk.1.1.1.1.1.1.1.1.1.1.1.1, ⟨hk.1.1.1.2, ⟨hk.1.1.2, ⟨hk.1.2, ⟨hk.2, ⟨hk.1.1.1.1.1.1.1.1.1.1.1.2, ⟨hk.1.1.1.1.1.1.1.1.1.1.2, ⟨hk.1.1.1.1.1.1.1.1.1.2, ⟨hk.1.1.1.1.1.1.1.1.2, ⟨hk.1.1.1.1.1.1.1.2, ⟨hk.1.1.1.1.1.1.2, ⟨hk.1.1.1.1.1.2, hk.1.1.1.1.2⟩⟩⟩⟩⟩⟩⟩⟩⟩⟩⟩⟩)), (by (with_reducible repeat (first | apply Kd.R_alloc | apply Kd.R_drewN | apply Kd.R_drew)); exact Kd.R_mono HO300.out (fun _ hk => ⟨hk.1.1.1.2, ⟨hk.1.1.2, ⟨hk.1.1.1.1.1.1.1.1.1.1.1.1, ⟨hk.1.2, ⟨hk.2, ⟨hk.1.1.1.1.1.1.1.1.1.1.1.2, ⟨hk.1.1.1.1.1.1.1.1.1.1.2, ⟨hk.1.1.1.1.1.1.1.1.1.2, ⟨hk.1.1.1.1.1.1.1.1.2, ⟨hk.1.1.1.1.1.1.1.2, ⟨hk.1.1.1.1.1.1.2, ⟨hk.1.1.1.1.1.2, hk.1.1.1.1.2⟩⟩⟩⟩⟩⟩⟩⟩⟩⟩⟩⟩)), (by (with_reducible repeat (first | apply Kd.R_alloc | apply Kd.R_drewN | apply Kd.R_drew)); exact Kd.R_mono HO303.out (fun _ hk => ⟨hk.1.1.1.2, ⟨hk.1.1.2, ⟨hk.1.1.1.1.1.1.1.1.1.1.1.1, ⟨hk.1.2, ⟨hk.2, ⟨hk.1.1.1.1.1.1.1.1.1.1.1.2, ⟨hk.1.1.1.1.1.1.1.1.1.1.2, ⟨hk.1.1.1.1.1.1.1.1.1.2, ⟨hk.1.1.1.1.1.1.1.1.2, ⟨hk.1.1.1.1.1.1.1.2, ⟨hk.1.1.1.1.1.1.2, ⟨hk.1.1.1.1.1.2, hk.1.1.1.1.2⟩⟩⟩⟩⟩⟩⟩⟩⟩⟩⟩⟩)), (by (with_reducible repeat (first | apply Kd.R_alloc | apply Kd.R_drewN | apply Kd.R_drew)); exact Kd.R_mono HO306.out (fun _ hk => ⟨hk.1.1.1.2, ⟨hk.1.1.2, ⟨hk.1.2, ⟨hk.2, ⟨hk.1.1.1.1.1.1.1.1.1.1.1.1, ⟨hk.1.1.1.1.1.1.1.1.1.1.1.2, ⟨hk.1.1.1.1.1.1.1.1.1.1.2, ⟨hk.1.1.1.1.1.1.1.1.1.2, ⟨hk.1.1.1.1.1.1.1.1.2, ⟨hk.1.1.1.1.1.1.1.2, ⟨hk.1.1.1.1.1.1.2, ⟨hk.1.1.1.1.1.2, hk.1.1.1.1.2⟩⟩⟩⟩⟩⟩⟩⟩⟩⟩⟩⟩)), (by (with_reducible repeat (first | apply Kd.R_alloc | apply Kd.R_drewN | apply Kd.R_drew)); exact Kd.R_mono HO309.out (fun _ hk => ⟨hk.1.1.1.2, ⟨hk.1.1.2, ⟨hk.1.2, ⟨hk.2, ⟨hk.1.1.1.1.1.1.1.1.1.1.1.1, ⟨hk.1.1.1.1.1.1.1.1.1.1.1.2, ⟨hk.1.1.1.1.1.1.1.1.1.1.2, ⟨hk.1.1.1.1.1.1.1.1.1.2, ⟨hk.1.1.1.1.1.1.1.1.2, ⟨hk.1.1.1.1.1.1.1.2, ⟨hk.1.1.1.1.1.1.2, ⟨hk.1.1.1.1.1.2, hk.1.1.1.1.2⟩⟩⟩⟩⟩⟩⟩⟩⟩⟩⟩⟩)), (by (with_reducible repeat (first | apply Kd.R_alloc | apply Kd.R_drewN | apply Kd.R_drew)); exact Kd.R_mono HO_244000.out (fun _ hk => ⟨hk.1.1.1.1.1.2, ⟨hk.1.1.1.1.2, ⟨hk.1.1.1.2, ⟨hk.1.1.2, ⟨hk.1.2, ⟨hk.2, ⟨hk.1.1.1.1.1.1.1, ⟨hk.1.1.1.1.1.1.2.1, ⟨hk.1.1.1.1.1.1.2.2.1, ⟨hk.1.1.1.1.1.1.2.2.2.1, ⟨hk.1.1.1.1.1.1.2.2.2.2.1, ⟨hk.1.1.1.1.1.1.2.2.2.2.2.1, hk.1.1.1.1.1.1.2.2.2.2.2.2⟩⟩⟩⟩⟩⟩⟩⟩⟩⟩⟩⟩)), (by (with_reducible repeat (first | apply Kd.R_alloc | apply Kd.R_drewN | apply Kd.R_drew)); exact Kd.R_mono HO_244001.out (fun _ hk => ⟨hk.1.1.1.1.1.2, ⟨hk.1.1.1.1.2, ⟨hk.1.1.1.2, ⟨hk.1.1.2, ⟨hk.1.2, ⟨hk.2, ⟨hk.1.1.1.1.1.1.1, ⟨hk.1.1.1.1.1.1.2.1, ⟨hk.1.1.1.1.1.1.2.2.1, ⟨hk.1.1.1.1.1.1.2.2.2.1, ⟨hk.1.1.1.1.1.1.2.2.2.2.1, ⟨hk.1.1.1.1.1.1.2.2.2.2.2.1, hk.1.1.1.1.1.1.2.2.2.2.2.2⟩⟩⟩⟩⟩⟩⟩⟩⟩⟩⟩⟩)), (by (with_reducible repeat (first | apply Kd.R_alloc | apply Kd.R_drewN | apply Kd.R_drew)); exact Kd.R_mono HO_251000.out (fun _ hk => ⟨hk.1.1.1.1.1.2, ⟨hk.1.1.1.1.2, ⟨hk.1.1.1.2, ⟨hk.1.1.2, ⟨hk.1.2, ⟨hk.2, ⟨hk.1.1.1.1.1.1.1, ⟨hk.1.1.1.1.1.1.2.1, ⟨hk.1.1.1.1.1.1.2.2.1, ⟨hk.1.1.1.1.1.1.2.2.2.1, ⟨hk.1.1.1.1.1.1.2.2.2.2.1, ⟨hk.1.1.1.1.1.1.2.2.2.2.2.1, hk.1.1.1.1.1.1.2.2.2.2.2.2⟩⟩⟩⟩⟩⟩⟩⟩⟩⟩⟩⟩)), (by (with_reducible repeat (first | apply Kd.R_alloc | apply Kd.R_drewN | apply Kd.R_drew)); exact Kd.R_mono HO_251001.out (fun _ hk => ⟨hk.1.1.1.1.1.2, ⟨hk.1.1.1.1.2, ⟨hk.1.1.1.2, ⟨hk.1.1.2, ⟨hk.1.2, ⟨hk.2, ⟨hk.1.1.1.1.1.1.1, ⟨hk.1.1.1.1.1.1.2.1, ⟨hk.1.1.1.1.1.1.2.2.1, ⟨hk.1.1.1.1.1.1.2.2.2.1, ⟨hk.1.1.1.1.1.1.2.2.2.2.1, ⟨hk.1.1.1.1.1.1.2.2.2.2.2.1, hk.1.1.1.1.1.1.2.2.2.2.2.2⟩⟩⟩⟩⟩⟩⟩⟩⟩⟩⟩⟩)), (by (with_reducible repeat (first | apply Kd.R_alloc | apply Kd.R_drewN | apply Kd.R_drew)); exact Kd.R_mono HO_258000.out (fun _ hk => ⟨hk.1.1.1.1.1.2, ⟨hk.1.1.1.1.2, ⟨hk.1.1.1.2, ⟨hk.1.1.2, ⟨hk.1.2, ⟨hk.2, ⟨hk.1.1.1.1.1.1.1, ⟨hk.1.1.1.1.1.1.2.1, ⟨hk.1.1.1.1.1.1.2.2.1, ⟨hk.1.1.1.1.1.1.2.2.2.1, ⟨hk.1.1.1.1.1.1.2.2.2.2.1, ⟨hk.1.1.1.1.1.1.2.2.2.2.2.1, hk.1.1.1.1.1.1.2.2.2.2.2.2⟩⟩⟩⟩⟩⟩⟩⟩⟩⟩⟩⟩)), (by (with_reducible repeat (first | apply Kd.R_alloc | apply Kd.R_drewN | apply Kd.R_drew)); exact Kd.R_mono HO_258001.out (fun _ hk => ⟨hk.1.1.1.1.1.2, ⟨hk.1.1.1.1.2, ⟨hk.1.1.1.2, ⟨hk.1.1.2, ⟨hk.1.2, ⟨hk.2, ⟨hk.1.1.1.1.1.1.1, ⟨hk.1.1.1.1.1.1.2.1, ⟨hk.1.1.1.1.1.1.2.2.1, ⟨hk.1.1.1.1.1.1.2.2.2.1, ⟨hk.1.1.1.1.1.1.2.2.2.2.1, ⟨hk.1.1.1.1.1.1.2.2.2.2.2.1, hk.1.1.1.1.1.1.2.2.2.2.2.2⟩⟩⟩⟩⟩⟩⟩⟩⟩⟩⟩⟩)), (by (with_reducible repeat (first | apply Kd.R_alloc | apply Kd.R_drewN | apply Kd.R_drew)); exact Kd.R_mono HO_266000.out (fun _ hk => ⟨hk.1.1.1.1.1.2, ⟨hk.1.1.1.1.2, ⟨hk.1.1.1.2, ⟨hk.1.1.2, ⟨hk.1.2, ⟨hk.2, ⟨hk.1.1.1.1.1.1.1, ⟨hk.1.1.1.1.1.1.2.1, ⟨hk.1.1.1.1.1.1.2.2.1, ⟨hk.1.1.1.1.1.1.2.2.2.1, ⟨hk.1.1.1.1.1.1.2.2.2.2.1, ⟨hk.1.1.1.1.1.1.2.2.2.2.2.1, hk.1.1.1.1.1.1.2.2.2.2.2.2⟩⟩⟩⟩⟩⟩⟩⟩⟩⟩⟩⟩)), (by (with_reducible repeat (first | apply Kd.R_alloc | apply Kd.R_drewN | apply Kd.R_drew)); exact Kd.R_mono HO_266001.out (fun _ hk => ⟨hk.1.1.1.1.1.2, ⟨hk.1.1.1.1.2, ⟨hk.1.1.1.2, ⟨hk.1.1.2, ⟨hk.1.2, ⟨hk.2, ⟨hk.1.1.1.1.1.1.1, ⟨hk.1.1.1.1.1.1.2.1, ⟨hk.1.1.1.1.1.1.2.2.1, ⟨hk.1.1.1.1.1.1.2.2.2.1, ⟨hk.1.1.1.1.1.1.2.2.2.2.1, ⟨hk.1.1.1.1.1.1.2.2.2.2.2.1, hk.1.1.1.1.1.1.2.2.2.2.2.2⟩⟩⟩⟩⟩⟩⟩⟩⟩⟩⟩⟩)), BK220.out, BK221.out, BK243.out, BK250.out, BK257.out, BK265.out, BK311.out, GW311.out, GE311.out, NB220_311.out, NB311_220.out, NB221_311.out, NB311_221.out, NB243_311.out, NB311_243.out, NB250_311.out, NB311_250.out, NB257_311.out, NB311_257.out, NB265_311.out, NB311_265.out, HB.out⟩)
      rintro ⟨v293, v296, v299, v302, v305, v308, gb311⟩ w201 ⟨hS_, h0_, h1_, h2_, h3_, h4_, h5_, h6_, h7_, h8_, h9_, h10_, h11_, h12_, h13_, h14_, h15_, h16_, h17_, h18_, h19_, h20_, h21_, h22_, h23_, h24_, h25_, h26_, h27_, h28_, h29_, h30_, h31_, h32_, h33_, h34_, h35_⟩
      have HO294 := (⟨h0_⟩ : Aside0 (Kd.R (Kd.int .i64) 3 w201 w.heap.size (fun k_ => some k_ ≠ (v296 : Value).ownBlock ∧ some k_ ≠ (v299 : Value).ownBlock ∧ some k_ ≠ (v302 : Value).ownBlock ∧ some k_ ≠ (v305 : Value).ownBlock ∧ some k_ ≠ (v308 : Value).ownBlock ∧ some k_ ≠ (.slice Ao43 t236.length co43 : Value).ownBlock ∧ some k_ ≠ (.slice Ao45 t239.length co45 : Value).ownBlock ∧ some k_ ≠ (.slice Ao51 t282.length co51 : Value).ownBlock ∧ some k_ ≠ (.slice Ao56 t283.length co56 : Value).ownBlock ∧ some k_ ≠ (.slice Ao61 t285.length co61 : Value).ownBlock ∧ some k_ ≠ (.slice Ao67 t286.length co67 : Value).ownBlock ∧ some k_ ≠ (.slice Ao71 t258.length co71 : Value).ownBlock ∧ some k_ ≠ (.slice Ao78 t261.length co78 : Value).ownBlock) v293 t292))
      have HO297 := (⟨h1_⟩ : Aside0 (Kd.R (Kd.int .i64) 3 w201 w.heap.size (fun k_ => some k_ ≠ (v293 : Value).ownBlock ∧ some k_ ≠ (v299 : Value).ownBlock ∧ some k_ ≠ (v302 : Value).ownBlock ∧ some k_ ≠ (v305 : Value).ownBlock ∧ some k_ ≠ (v308 : Value).ownBlock ∧ some k_ ≠ (.slice Ao43 t236.length co43 : Value).ownBlock ∧ some k_ ≠ (.slice Ao45 t239.length co45 : Value).ownBlock ∧ some k_ ≠ (.slice Ao51 t282.length co51 : Value).ownBlock ∧ some k_ ≠ (.slice Ao56 t283.length co56 : Value).ownBlock ∧ some k_ ≠ (.slice Ao61 t285.length co61 : Value).ownBlock ∧ some k_ ≠ (.slice Ao67 t286.length co67 : Value).ownBlock ∧ some k_ ≠ (.slice Ao71 t258.length co71 : Value).ownBlock ∧ some k_ ≠ (.slice Ao78 t261.length co78 : Value).ownBlock) v296 t295))
      have HO300 := (⟨h2_⟩ : Aside0 (Kd.R (Kd.int .i64) 3 w201 w.heap.size (fun k_ => some k_ ≠ (v293 : Value).ownBlock ∧ some k_ ≠ (v296 : Value).ownBlock ∧ some k_ ≠ (v302 : Value).ownBlock ∧ some k_ ≠ (v305 : Value).ownBlock ∧ some k_ ≠ (v308 : Value).ownBlock ∧ some k_ ≠ (.slice Ao43 t236.length co43 : Value).ownBlock ∧ some k_ ≠ (.slice Ao45 t239.length co45 : Value).ownBlock ∧ some k_ ≠ (.slice Ao51 t282.length co51 : Value).ownBlock ∧ some k_ ≠ (.slice Ao56 t283.length co56 : Value).ownBlock ∧ some k_ ≠ (.slice Ao61 t285.length co61 : Value).ownBlock ∧ some k_ ≠ (.slice Ao67 t286.length co67 : Value).ownBlock ∧ some k_ ≠ (.slice Ao71 t258.length co71 : Value).ownBlock ∧ some k_ ≠ (.slice Ao78 t261.length co78 : Value).ownBlock) v299 t298))
      have HO303 := (⟨h3_⟩ : Aside0 (Kd.R (Kd.int .i64) 3 w201 w.heap.size (fun k_ => some k_ ≠ (v293 : Value).ownBlock ∧ some k_ ≠ (v296 : Value).ownBlock ∧ some k_ ≠ (v299 : Value).ownBlock ∧ some k_ ≠ (v305 : Value).ownBlock ∧ some k_ ≠ (v308 : Value).ownBlock ∧ some k_ ≠ (.slice Ao43 t236.length co43 : Value).ownBlock ∧ some k_ ≠ (.slice Ao45 t239.length co45 : Value).ownBlock ∧ some k_ ≠ (.slice Ao51 t282.length co51 : Value).ownBlock ∧ some k_ ≠ (.slice Ao56 t283.length co56 : Value).ownBlock ∧ some k_ ≠ (.slice Ao61 t285.length co61 : Value).ownBlock ∧ some k_ ≠ (.slice Ao67 t286.length co67 : Value).ownBlock ∧ some k_ ≠ (.slice Ao71 t258.length co71 : Value).ownBlock ∧ some k_ ≠ (.slice Ao78 t261.length co78 : Value).ownBlock) v302 t301))
      have HO306 := (⟨h4_⟩ : Aside0 (Kd.R (Kd.int .i64) 3 w201 w.heap.size (fun k_ => some k_ ≠ (v293 : Value).ownBlock ∧ some k_ ≠ (v296 : Value).ownBlock ∧ some k_ ≠ (v299 : Value).ownBlock ∧ some k_ ≠ (v302 : Value).ownBlock ∧ some k_ ≠ (v308 : Value).ownBlock ∧ some k_ ≠ (.slice Ao43 t236.length co43 : Value).ownBlock ∧ some k_ ≠ (.slice Ao45 t239.length co45 : Value).ownBlock ∧ some k_ ≠ (.slice Ao51 t282.length co51 : Value).ownBlock ∧ some k_ ≠ (.slice Ao56 t283.length co56 : Value).ownBlock ∧ some k_ ≠ (.slice Ao61 t285.length co61 : Value).ownBlock ∧ some k_ ≠ (.slice Ao67 t286.length co67 : Value).ownBlock ∧ some k_ ≠ (.slice Ao71 t258.length co71 : Value).ownBlock ∧ some k_ ≠ (.slice Ao78 t261.length co78 : Value).ownBlock) v305 t304))
      have HO309 := (⟨h5_⟩ : Aside0 (Kd.R (Kd.int .i64) 3 w201 w.heap.size (fun k_ => some k_ ≠ (v293 : Value).ownBlock ∧ some k_ ≠ (v296 : Value).ownBlock ∧ some k_ ≠ (v299 : Value).ownBlock ∧ some k_ ≠ (v302 : Value).ownBlock ∧ some k_ ≠ (v305 : Value).ownBlock ∧ some k_ ≠ (.slice Ao43 t236.length co43 : Value).ownBlock ∧ some k_ ≠ (.slice Ao45 t239.length co45 : Value).ownBlock ∧ some k_ ≠ (.slice Ao51 t282.length co51 : Value).ownBlock ∧ some k_ ≠ (.slice Ao56 t283.length co56 : Value).ownBlock ∧ some k_ ≠ (.slice Ao61 t285.length co61 : Value).ownBlock ∧ some k_ ≠ (.slice Ao67 t286.length co67 : Value).ownBlock ∧ some k_ ≠ (.slice Ao71 t258.length co71 : Value).ownBlock ∧ some k_ ≠ (.slice Ao78 t261.length co78 : Value).ownBlock) v308 t307))
      replace HO_244000 := (⟨h6_⟩ : Aside0 (Kd.R (Kd.int .i64) 3 w201 w.heap.size (fun k_ => some k_ ≠ (v293 : Value).ownBlock ∧ some k_ ≠ (v296 : Value).ownBlock ∧ some k_ ≠ (v299 : Value).ownBlock ∧ some k_ ≠ (v302 : Value).ownBlock ∧ some k_ ≠ (v305 : Value).ownBlock ∧ some k_ ≠ (v308 : Value).ownBlock ∧ some k_ ≠ (.slice Ao45 t239.length co45 : Value).ownBlock ∧ some k_ ≠ (.slice Ao51 t282.length co51 : Value).ownBlock ∧ some k_ ≠ (.slice Ao56 t283.length co56 : Value).ownBlock ∧ some k_ ≠ (.slice Ao61 t285.length co61 : Value).ownBlock ∧ some k_ ≠ (.slice Ao67 t286.length co67 : Value).ownBlock ∧ some k_ ≠ (.slice Ao71 t258.length co71 : Value).ownBlock ∧ some k_ ≠ (.slice Ao78 t261.length co78 : Value).ownBlock) (.slice Ao43 t236.length co43) t236))
      replace HO_244001 := (⟨h7_⟩ : Aside0 (Kd.R (Kd.int .i64) 3 w201 w.heap.size (fun k_ => some k_ ≠ (v293 : Value).ownBlock ∧ some k_ ≠ (v296 : Value).ownBlock ∧ some k_ ≠ (v299 : Value).ownBlock ∧ some k_ ≠ (v302 : Value).ownBlock ∧ some k_ ≠ (v305 : Value).ownBlock ∧ some k_ ≠ (v308 : Value).ownBlock ∧ some k_ ≠ (.slice Ao43 t236.length co43 : Value).ownBlock ∧ some k_ ≠ (.slice Ao51 t282.length co51 : Value).ownBlock ∧ some k_ ≠ (.slice Ao56 t283.length co56 : Value).ownBlock ∧ some k_ ≠ (.slice Ao61 t285.length co61 : Value).ownBlock ∧ some k_ ≠ (.slice Ao67 t286.length co67 : Value).ownBlock ∧ some k_ ≠ (.slice Ao71 t258.length co71 : Value).ownBlock ∧ some k_ ≠ (.slice Ao78 t261.length co78 : Value).ownBlock) (.slice Ao45 t239.length co45) t239))
      replace HO_251000 := (⟨h8_⟩ : Aside0 (Kd.R (Kd.int .i64) 3 w201 w.heap.size (fun k_ => some k_ ≠ (v293 : Value).ownBlock ∧ some k_ ≠ (v296 : Value).ownBlock ∧ some k_ ≠ (v299 : Value).ownBlock ∧ some k_ ≠ (v302 : Value).ownBlock ∧ some k_ ≠ (v305 : Value).ownBlock ∧ some k_ ≠ (v308 : Value).ownBlock ∧ some k_ ≠ (.slice Ao43 t236.length co43 : Value).ownBlock ∧ some k_ ≠ (.slice Ao45 t239.length co45 : Value).ownBlock ∧ some k_ ≠ (.slice Ao56 t283.length co56 : Value).ownBlock ∧ some k_ ≠ (.slice Ao61 t285.length co61 : Value).ownBlock ∧ some k_ ≠ (.slice Ao67 t286.length co67 : Value).ownBlock ∧ some k_ ≠ (.slice Ao71 t258.length co71 : Value).ownBlock ∧ some k_ ≠ (.slice Ao78 t261.length co78 : Value).ownBlock) (.slice Ao51 t282.length co51) t282))
      replace HO_251001 := (⟨h9_⟩ : Aside0 (Kd.R (Kd.int .i64) 3 w201 w.heap.size (fun k_ => some k_ ≠ (v293 : Value).ownBlock ∧ some k_ ≠ (v296 : Value).ownBlock ∧ some k_ ≠ (v299 : Value).ownBlock ∧ some k_ ≠ (v302 : Value).ownBlock ∧ some k_ ≠ (v305 : Value).ownBlock ∧ some k_ ≠ (v308 : Value).ownBlock ∧ some k_ ≠ (.slice Ao43 t236.length co43 : Value).ownBlock ∧ some k_ ≠ (.slice Ao45 t239.length co45 : Value).ownBlock ∧ some k_ ≠ (.slice Ao51 t282.length co51 : Value).ownBlock ∧ some k_ ≠ (.slice Ao61 t285.length co61 : Value).ownBlock ∧ some k_ ≠ (.slice Ao67 t286.length co67 : Value).ownBlock ∧ some k_ ≠ (.slice Ao71 t258.length co71 : Value).ownBlock ∧ some k_ ≠ (.slice Ao78 t261.length co78 : Value).ownBlock) (.slice Ao56 t283.length co56) t283))
      replace HO_258000 := (⟨h10_⟩ : Aside0 (Kd.R (Kd.int .i64) 3 w201 w.heap.size (fun k_ => some k_ ≠ (v293 : Value).ownBlock ∧ some k_ ≠ (v296 : Value).ownBlock ∧ some k_ ≠ (v299 : Value).ownBlock ∧ some k_ ≠ (v302 : Value).ownBlock ∧ some k_ ≠ (v305 : Value).ownBlock ∧ some k_ ≠ (v308 : Value).ownBlock ∧ some k_ ≠ (.slice Ao43 t236.length co43 : Value).ownBlock ∧ some k_ ≠ (.slice Ao45 t239.length co45 : Value).ownBlock ∧ some k_ ≠ (.slice Ao51 t282.length co51 : Value).ownBlock ∧ some k_ ≠ (.slice Ao56 t283.length co56 : Value).ownBlock ∧ some k_ ≠ (.slice Ao67 t286.length co67 : Value).ownBlock ∧ some k_ ≠ (.slice Ao71 t258.length co71 : Value).ownBlock ∧ some k_ ≠ (.slice Ao78 t261.length co78 : Value).ownBlock) (.slice Ao61 t285.length co61) t285))
      replace HO_258001 := (⟨h11_⟩ : Aside0 (Kd.R (Kd.int .i64) 3 w201 w.heap.size (fun k_ => some k_ ≠ (v293 : Value).ownBlock ∧ some k_ ≠ (v296 : Value).ownBlock ∧ some k_ ≠ (v299 : Value).ownBlock ∧ some k_ ≠ (v302 : Value).ownBlock ∧ some k_ ≠ (v305 : Value).ownBlock ∧ some k_ ≠ (v308 : Value).ownBlock ∧ some k_ ≠ (.slice Ao43 t236.length co43 : Value).ownBlock ∧ some k_ ≠ (.slice Ao45 t239.length co45 : Value).ownBlock ∧ some k_ ≠ (.slice Ao51 t282.length co51 : Value).ownBlock ∧ some k_ ≠ (.slice Ao56 t283.length co56 : Value).ownBlock ∧ some k_ ≠ (.slice Ao61 t285.length co61 : Value).ownBlock ∧ some k_ ≠ (.slice Ao71 t258.length co71 : Value).ownBlock ∧ some k_ ≠ (.slice Ao78 t261.length co78 : Value).ownBlock) (.slice Ao67 t286.length co67) t286))
      replace HO_266000 := (⟨h12_⟩ : Aside0 (Kd.R (Kd.int .i64) 3 w201 w.heap.size (fun k_ => some k_ ≠ (v293 : Value).ownBlock ∧ some k_ ≠ (v296 : Value).ownBlock ∧ some k_ ≠ (v299 : Value).ownBlock ∧ some k_ ≠ (v302 : Value).ownBlock ∧ some k_ ≠ (v305 : Value).ownBlock ∧ some k_ ≠ (v308 : Value).ownBlock ∧ some k_ ≠ (.slice Ao43 t236.length co43 : Value).ownBlock ∧ some k_ ≠ (.slice Ao45 t239.length co45 : Value).ownBlock ∧ some k_ ≠ (.slice Ao51 t282.length co51 : Value).ownBlock ∧ some k_ ≠ (.slice Ao56 t283.length co56 : Value).ownBlock ∧ some k_ ≠ (.slice Ao61 t285.length co61 : Value).ownBlock ∧ some k_ ≠ (.slice Ao67 t286.length co67 : Value).ownBlock ∧ some k_ ≠ (.slice Ao78 t261.length co78 : Value).ownBlock) (.slice Ao71 t258.length co71) t289))
      replace HO_266001 := (⟨h13_⟩ : Aside0 (Kd.R (Kd.int .i64) 3 w201 w.heap.size (fun k_ => some k_ ≠ (v293 : Value).ownBlock ∧ some k_ ≠ (v296 : Value).ownBlock ∧ some k_ ≠ (v299 : Value).ownBlock ∧ some k_ ≠ (v302 : Value).ownBlock ∧ some k_ ≠ (v305 : Value).ownBlock ∧ some k_ ≠ (v308 : Value).ownBlock ∧ some k_ ≠ (.slice Ao43 t236.length co43 : Value).ownBlock ∧ some k_ ≠ (.slice Ao45 t239.length co45 : Value).ownBlock ∧ some k_ ≠ (.slice Ao51 t282.length co51 : Value).ownBlock ∧ some k_ ≠ (.slice Ao56 t283.length co56 : Value).ownBlock ∧ some k_ ≠ (.slice Ao61 t285.length co61 : Value).ownBlock ∧ some k_ ≠ (.slice Ao67 t286.length co67 : Value).ownBlock ∧ some k_ ≠ (.slice Ao71 t258.length co71 : Value).ownBlock) (.slice Ao78 t261.length co78) t290))
      replace BK220 := (⟨h14_⟩ : Aside0 (w201.heap[gb220]? = some (.cells #[.slice A0_0 l0_0.length c0_0, .slice A0_1 l0_1.length c0_1] 24 (0, 0))))
      replace BK221 := (⟨h15_⟩ : Aside0 (w201.heap[gb221]? = some (.cells #[.slice A1_0 l1_0.length c1_0, .slice A1_1 l1_1.length c1_1] 24 (0, 0))))
      replace BK243 := (⟨h16_⟩ : Aside0 (w201.heap[gb243]? = some (.cells #[.slice Ao43 t236.length co43, .slice Ao45 t239.length co45] 26 (0, 0))))
      replace BK250 := (⟨h17_⟩ : Aside0 (w201.heap[gb250]? = some (.cells #[.slice Ao51 t282.length co51, .slice Ao56 t283.length co56] 26 (0, 0))))
      replace BK257 := (⟨h18_⟩ : Aside0 (w201.heap[gb257]? = some (.cells #[.slice Ao61 t285.length co61, .slice Ao67 t286.length co67] 26 (0, 0))))
      replace BK265 := (⟨h19_⟩ : Aside0 (w201.heap[gb265]? = some (.cells #[.slice Ao71 t258.length co71, .slice Ao78 t261.length co78] 26 (0, 0))))
      have BK311 := (⟨h20_⟩ : Aside0 (w201.heap[gb311]? = some (.cells #[.slice none 0 0, .slice none 0 0] 26 (0, 0))))
      have GW311 := (⟨h21_⟩ : Aside0 (w.heap.size ≤ gb311))
      have GE311 := (⟨h22_⟩ : Aside0 (w.heap.size ≤ gb311))
      have NB220_311 := (⟨h23_⟩ : Aside0 (gb220 ≠ gb311))
      have NB311_220 := (⟨h24_⟩ : Aside0 (gb311 ≠ gb220))
      have NB221_311 := (⟨h25_⟩ : Aside0 (gb221 ≠ gb311))
      have NB311_221 := (⟨h26_⟩ : Aside0 (gb311 ≠ gb221))
      have NB243_311 := (⟨h27_⟩ : Aside0 (gb243 ≠ gb311))
      have NB311_243 := (⟨h28_⟩ : Aside0 (gb311 ≠ gb243))
      have NB250_311 := (⟨h29_⟩ : Aside0 (gb250 ≠ gb311))
      have NB311_250 := (⟨h30_⟩ : Aside0 (gb311 ≠ gb250))
      have NB257_311 := (⟨h31_⟩ : Aside0 (gb257 ≠ gb311))
      have NB311_257 := (⟨h32_⟩ : Aside0 (gb311 ≠ gb257))
      have NB265_311 := (⟨h33_⟩ : Aside0 (gb265 ≠ gb311))
      have NB311_265 := (⟨h34_⟩ : Aside0 (gb311 ≠ gb265))
      replace HB := (⟨h35_⟩ : Aside0 (Below w.heap.size w w201))
      clear h0_ h1_ h2_ h3_ h4_ h5_ h6_ h7_ h8_ h9_ h10_ h11_ h12_ h13_ h14_ h15_ h16_ h17_ h18_ h19_ h20_ h21_ h22_ h23_ h24_ h25_ h26_ h27_ h28_ h29_ h30_ h31_ h32_ h33_ h34_ h35_
      have hHeld : w201.cell? ⟨gb220, 0, none⟩ = some (.slice A0_0 l0_0.length c0_0) ∧ w201.cell? ⟨gb220, 1, none⟩ = some (.slice A0_1 l0_1.length c0_1) ∧ w201.cell? ⟨gb221, 0, none⟩ = some (.slice A1_0 l1_0.length c1_0) ∧ w201.cell? ⟨gb221, 1, none⟩ = some (.slice A1_1 l1_1.length c1_1) := hS_
      obtain ⟨Ao202, co202, eo202⟩ := Kd.R_slice HO306.out
      (first | subst eo202 | (injection eo202 with f1_ f2_ f3_; have f4_ := f1_.symm; have f5_ := f3_.symm; clear f1_ f2_ f3_; subst f4_; subst f5_))
      obtain ⟨Ao204, co204, eo204⟩ := Kd.R_slice HO309.out
      (first | subst eo204 | (injection eo204 with f1_ f2_ f3_; have f4_ := f1_.symm; have f5_ := f3_.symm; clear f1_ f2_ f3_; subst f4_; subst f5_))
      refine norm_ (a' := ?_) ?_ ?_
      rotate_left
      ·simp only [putAll, Act.put, List.setIfInBounds_toArray, List.set_cons_zero, List.set_cons_succ]
       rfl
      refine one_ (i := 9) (N := none) #[true, true, true, true, true, true, true, true, true, true, false] rfl rfl (one_of HT_.out (by kernel_rfl)) (by decide) (fun K hK => ?_)
      have hs203 : w201.cell? ⟨gb311, 0, none⟩ = some (.slice none 0 0) := (blk_cell BK311.out 0).trans rfl
      have hfs203 := blk_frozen BK311.out 0
      have hns203_0 := NB220_311.out
      have hns203_1 := NB221_311.out
      have hns203_2 := NB243_311.out
      have hns203_3 := NB250_311.out
      have hns203_4 := NB257_311.out
      have hns203_5 := NB265_311.out
      have hms203_0 := NB311_220.out
      have hms203_1 := NB311_221.out
      have hms203_2 := NB311_243.out
      have hms203_3 := NB311_250.out
      have hms203_4 := NB311_257.out
      have hms203_5 := NB311_265.out
      have hs205 : w201.cell? ⟨gb311, 1, none⟩ = some (.slice none 0 0) := (blk_cell BK311.out 1).trans rfl
      have hfs205 := blk_frozen BK311.out 1
      have hns205_0 := NB220_311.out
      have hns205_1 := NB221_311.out
      have hns205_2 := NB243_311.out
      have hns205_3 := NB250_311.out
      have hns205_4 := NB257_311.out
      have hns205_5 := NB265_311.out
      have hms205_0 := NB311_220.out
      have hms205_1 := NB311_221.out
      have hms205_2 := NB311_243.out
      have hms205_3 := NB311_250.out
      have hms205_4 := NB311_257.out
      have hms205_5 := NB311_265.out
      refine skip_ (w1 := ?_) (by rfl) rfl ?_ ?_
      rotate_left
      ·go_simp
       rfl
      refine hK.out _ _ ⟨((cell_far (p := ⟨gb311, _, none⟩) NB220_311.out _).trans (((cell_far (p := ⟨gb311, _, none⟩) NB220_311.out _).trans (hHeld.1)))), ((cell_far (p := ⟨gb311, _, none⟩) NB220_311.out _).trans (((cell_far (p := ⟨gb311, _, none⟩) NB220_311.out _).trans (hHeld.2.1)))), ((cell_far (p := ⟨gb311, _, none⟩) NB221_311.out _).trans (((cell_far (p := ⟨gb311, _, none⟩) NB221_311.out _).trans (hHeld.2.2.1)))), ((cell_far (p := ⟨gb311, _, none⟩) NB221_311.out _).trans (((cell_far (p := ⟨gb311, _, none⟩) NB221_311.out _).trans (hHeld.2.2.2))))⟩ (fun hHeld => ?_)
      clear hK K
      refine pure_ (i := 10) (N := some 16) (v := ?_) (a' := ?_) #[true, true, true, true, true, true, true, true, true, true, true] rfl rfl (any_of HT_.out (by kernel_rfl)) (fun _ _ _ h => h) (Or.inl ⟨by rfl, ?_⟩) ?_ ?_
      rotate_left
      ·intro w'
       go_simp
       with_reducible rfl
      rotate_left
      ·simp only [Act.put, List.setIfInBounds_toArray, List.set_cons_zero, List.set_cons_succ, i64_w, i32_w]
       rfl
      refine done_ (done_of HT_.out (by kernel_rfl)) ?_
      go_upto_region 32 with (fail)
      go_cut [110] (fun v110 wc => ∃ (kq : Nat) (x110_181 : Bool), v110 = .bool x110_181 ∧ Aside0 (laws_FnExactJoinMeanders.j2 kq t288 x110_181 t289 t290 = some r) ∧ Aside0 (kq ≤ kj113) ∧ Aside0 (Kd.R (Kd.int .i64) 3 wc w.heap.size (fun k_ => some k_ ≠ ((.slice Ao45 t239.length co45) : Value).ownBlock ∧ some k_ ≠ ((.slice Ao51 t282.length co51) : Value).ownBlock ∧ some k_ ≠ ((.slice Ao56 t283.length co56) : Value).ownBlock ∧ some k_ ≠ ((.slice Ao61 t285.length co61) : Value).ownBlock ∧ some k_ ≠ ((.slice Ao67 t286.length co67) : Value).ownBlock ∧ some k_ ≠ ((.slice Ao71 t258.length co71) : Value).ownBlock ∧ some k_ ≠ ((.slice Ao78 t261.length co78) : Value).ownBlock ∧ some k_ ≠ ((.slice Ao202 t304.length co202) : Value).ownBlock ∧ some k_ ≠ ((.slice Ao204 t307.length co204) : Value).ownBlock) (.slice Ao43 t236.length co43) t236) ∧ Aside0 (Kd.R (Kd.int .i64) 3 wc w.heap.size (fun k_ => some k_ ≠ ((.slice Ao43 t236.length co43) : Value).ownBlock ∧ some k_ ≠ ((.slice Ao51 t282.length co51) : Value).ownBlock ∧ some k_ ≠ ((.slice Ao56 t283.length co56) : Value).ownBlock ∧ some k_ ≠ ((.slice Ao61 t285.length co61) : Value).ownBlock ∧ some k_ ≠ ((.slice Ao67 t286.length co67) : Value).ownBlock ∧ some k_ ≠ ((.slice Ao71 t258.length co71) : Value).ownBlock ∧ some k_ ≠ ((.slice Ao78 t261.length co78) : Value).ownBlock ∧ some k_ ≠ ((.slice Ao202 t304.length co202) : Value).ownBlock ∧ some k_ ≠ ((.slice Ao204 t307.length co204) : Value).ownBlock) (.slice Ao45 t239.length co45) t239) ∧ Aside0 (Kd.R (Kd.int .i64) 3 wc w.heap.size (fun k_ => some k_ ≠ ((.slice Ao43 t236.length co43) : Value).ownBlock ∧ some k_ ≠ ((.slice Ao45 t239.length co45) : Value).ownBlock ∧ some k_ ≠ ((.slice Ao56 t283.length co56) : Value).ownBlock ∧ some k_ ≠ ((.slice Ao61 t285.length co61) : Value).ownBlock ∧ some k_ ≠ ((.slice Ao67 t286.length co67) : Value).ownBlock ∧ some k_ ≠ ((.slice Ao71 t258.length co71) : Value).ownBlock ∧ some k_ ≠ ((.slice Ao78 t261.length co78) : Value).ownBlock ∧ some k_ ≠ ((.slice Ao202 t304.length co202) : Value).ownBlock ∧ some k_ ≠ ((.slice Ao204 t307.length co204) : Value).ownBlock) (.slice Ao51 t282.length co51) t282) ∧ Aside0 (Kd.R (Kd.int .i64) 3 wc w.heap.size (fun k_ => some k_ ≠ ((.slice Ao43 t236.length co43) : Value).ownBlock ∧ some k_ ≠ ((.slice Ao45 t239.length co45) : Value).ownBlock ∧ some k_ ≠ ((.slice Ao51 t282.length co51) : Value).ownBlock ∧ some k_ ≠ ((.slice Ao61 t285.length co61) : Value).ownBlock ∧ some k_ ≠ ((.slice Ao67 t286.length co67) : Value).ownBlock ∧ some k_ ≠ ((.slice Ao71 t258.length co71) : Value).ownBlock ∧ some k_ ≠ ((.slice Ao78 t261.length co78) : Value).ownBlock ∧ some k_ ≠ ((.slice Ao202 t304.length co202) : Value).ownBlock ∧ some k_ ≠ ((.slice Ao204 t307.length co204) : Value).ownBlock) (.slice Ao56 t283.length co56) t283) ∧ Aside0 (Kd.R (Kd.int .i64) 3 wc w.heap.size (fun k_ => some k_ ≠ ((.slice Ao43 t236.length co43) : Value).ownBlock ∧ some k_ ≠ ((.slice Ao45 t239.length co45) : Value).ownBlock ∧ some k_ ≠ ((.slice Ao51 t282.length co51) : Value).ownBlock ∧ some k_ ≠ ((.slice Ao56 t283.length co56) : Value).ownBlock ∧ some k_ ≠ ((.slice Ao67 t286.length co67) : Value).ownBlock ∧ some k_ ≠ ((.slice Ao71 t258.length co71) : Value).ownBlock ∧ some k_ ≠ ((.slice Ao78 t261.length co78) : Value).ownBlock ∧ some k_ ≠ ((.slice Ao202 t304.length co202) : Value).ownBlock ∧ some k_ ≠ ((.slice Ao204 t307.length co204) : Value).ownBlock) (.slice Ao61 t285.length co61) t285) ∧ Aside0 (Kd.R (Kd.int .i64) 3 wc w.heap.size (fun k_ => some k_ ≠ ((.slice Ao43 t236.length co43) : Value).ownBlock ∧ some k_ ≠ ((.slice Ao45 t239.length co45) : Value).ownBlock ∧ some k_ ≠ ((.slice Ao51 t282.length co51) : Value).ownBlock ∧ some k_ ≠ ((.slice Ao56 t283.length co56) : Value).ownBlock ∧ some k_ ≠ ((.slice Ao61 t285.length co61) : Value).ownBlock ∧ some k_ ≠ ((.slice Ao71 t258.length co71) : Value).ownBlock ∧ some k_ ≠ ((.slice Ao78 t261.length co78) : Value).ownBlock ∧ some k_ ≠ ((.slice Ao202 t304.length co202) : Value).ownBlock ∧ some k_ ≠ ((.slice Ao204 t307.length co204) : Value).ownBlock) (.slice Ao67 t286.length co67) t286) ∧ Aside0 (Kd.R (Kd.int .i64) 3 wc w.heap.size (fun k_ => some k_ ≠ ((.slice Ao43 t236.length co43) : Value).ownBlock ∧ some k_ ≠ ((.slice Ao45 t239.length co45) : Value).ownBlock ∧ some k_ ≠ ((.slice Ao51 t282.length co51) : Value).ownBlock ∧ some k_ ≠ ((.slice Ao56 t283.length co56) : Value).ownBlock ∧ some k_ ≠ ((.slice Ao61 t285.length co61) : Value).ownBlock ∧ some k_ ≠ ((.slice Ao67 t286.length co67) : Value).ownBlock ∧ some k_ ≠ ((.slice Ao78 t261.length co78) : Value).ownBlock ∧ some k_ ≠ ((.slice Ao202 t304.length co202) : Value).ownBlock ∧ some k_ ≠ ((.slice Ao204 t307.length co204) : Value).ownBlock) (.slice Ao71 t258.length co71) t289) ∧ Aside0 (Kd.R (Kd.int .i64) 3 wc w.heap.size (fun k_ => some k_ ≠ ((.slice Ao43 t236.length co43) : Value).ownBlock ∧ some k_ ≠ ((.slice Ao45 t239.length co45) : Value).ownBlock ∧ some k_ ≠ ((.slice Ao51 t282.length co51) : Value).ownBlock ∧ some k_ ≠ ((.slice Ao56 t283.length co56) : Value).ownBlock ∧ some k_ ≠ ((.slice Ao61 t285.length co61) : Value).ownBlock ∧ some k_ ≠ ((.slice Ao67 t286.length co67) : Value).ownBlock ∧ some k_ ≠ ((.slice Ao71 t258.length co71) : Value).ownBlock ∧ some k_ ≠ ((.slice Ao202 t304.length co202) : Value).ownBlock ∧ some k_ ≠ ((.slice Ao204 t307.length co204) : Value).ownBlock) (.slice Ao78 t261.length co78) t290) ∧ Aside0 (Kd.R (Kd.int .i64) 3 wc w.heap.size (fun k_ => some k_ ≠ ((.slice Ao43 t236.length co43) : Value).ownBlock ∧ some k_ ≠ ((.slice Ao45 t239.length co45) : Value).ownBlock ∧ some k_ ≠ ((.slice Ao51 t282.length co51) : Value).ownBlock ∧ some k_ ≠ ((.slice Ao56 t283.length co56) : Value).ownBlock ∧ some k_ ≠ ((.slice Ao61 t285.length co61) : Value).ownBlock ∧ some k_ ≠ ((.slice Ao67 t286.length co67) : Value).ownBlock ∧ some k_ ≠ ((.slice Ao71 t258.length co71) : Value).ownBlock ∧ some k_ ≠ ((.slice Ao78 t261.length co78) : Value).ownBlock ∧ some k_ ≠ ((.slice Ao204 t307.length co204) : Value).ownBlock) (.slice Ao202 t304.length co202) t304) ∧ Aside0 (Kd.R (Kd.int .i64) 3 wc w.heap.size (fun k_ => some k_ ≠ ((.slice Ao43 t236.length co43) : Value).ownBlock ∧ some k_ ≠ ((.slice Ao45 t239.length co45) : Value).ownBlock ∧ some k_ ≠ ((.slice Ao51 t282.length co51) : Value).ownBlock ∧ some k_ ≠ ((.slice Ao56 t283.length co56) : Value).ownBlock ∧ some k_ ≠ ((.slice Ao61 t285.length co61) : Value).ownBlock ∧ some k_ ≠ ((.slice Ao67 t286.length co67) : Value).ownBlock ∧ some k_ ≠ ((.slice Ao71 t258.length co71) : Value).ownBlock ∧ some k_ ≠ ((.slice Ao78 t261.length co78) : Value).ownBlock ∧ some k_ ≠ ((.slice Ao202 t304.length co202) : Value).ownBlock) (.slice Ao204 t307.length co204) t307) ∧ Aside0 (wc.heap[gb220]? = some (.cells #[(.slice A0_0 l0_0.length c0_0), (.slice A0_1 l0_1.length c0_1)] 24 (0, 0))) ∧ Aside0 (wc.heap[gb221]? = some (.cells #[(.slice A1_0 l1_0.length c1_0), (.slice A1_1 l1_1.length c1_1)] 24 (0, 0))) ∧ Aside0 (wc.heap[gb243]? = some (.cells #[(.slice Ao43 t236.length co43), (.slice Ao45 t239.length co45)] 26 (0, 0))) ∧ Aside0 (wc.heap[gb250]? = some (.cells #[(.slice Ao51 t282.length co51), (.slice Ao56 t283.length co56)] 26 (0, 0))) ∧ Aside0 (wc.heap[gb257]? = some (.cells #[(.slice Ao61 t285.length co61), (.slice Ao67 t286.length co67)] 26 (0, 0))) ∧ Aside0 (wc.heap[gb265]? = some (.cells #[(.slice Ao71 t258.length co71), (.slice Ao78 t261.length co78)] 26 (0, 0))) ∧ Aside0 (wc.heap[gb311]? = some (.cells #[(.slice Ao202 t304.length co202), (.slice Ao204 t307.length co204)] 26 (0, 0))) ∧ Aside0 (Below w.heap.size w wc))
      case first =>
       have H := HC182.out
       clear HC182
       replace H := Option.bind_eq_some_iff.mp H
       obtain ⟨t312, A2060, H⟩ := H
       replace H : (if t312 = true then (laws_FnExactJoinMeanders.j2 kj113 t288 (t310 != t242) t289 t290) else (laws_FnExactJoinMeanders.j2 kj113 t288 true t289 t290)) = some r := H
       have A206 := Aside0.mk A2060
       clear A2060
       by_cases c207 : t312 = true
       ·subst c207
        have H1 : (laws_FnExactJoinMeanders.j2 kj113 t288 (t310 != t242) t289 t290) = some r := by rw [if_pos rfl] at H; exact H
        clear H
        have H := H1
        clear H1
        have H' := Aside0.mk H
        clear H
        have hnb208 := NB311_220.out
        have hnc208 := NB220_311.out
        have hnb209 := NB311_221.out
        have hnc209 := NB221_311.out
        have hnb210 := NB311_243.out
        have hnc210 := NB243_311.out
        have hnb211 := NB311_250.out
        have hnc211 := NB250_311.out
        have hnb212 := NB311_257.out
        have hnc212 := NB257_311.out
        have hnb213 := NB311_265.out
        have hnc213 := NB265_311.out
        have hcz214_0 : w201.cell? ⟨gb311, 0, none⟩ = some (.slice none 0 0) := (blk_cell BK311.out 0).trans rfl
        have hcz214_1 : w201.cell? ⟨gb311, 1, none⟩ = some (.slice none 0 0) := (blk_cell BK311.out 1).trans rfl
        have hfz214_0 := blk_frozen BK311.out 0
        have hfz214_1 := blk_frozen BK311.out 1
        have hnb215 := NB243_220.out
        have hnc215 := NB220_243.out
        have hnb216 := NB243_221.out
        have hnc216 := NB221_243.out
        have hnb217 := NB243_250.out
        have hnc217 := NB250_243.out
        have hnb218 := NB243_257.out
        have hnc218 := NB257_243.out
        have hnb219 := NB243_265.out
        have hnc219 := NB265_243.out
        have hcz220_0 : w201.cell? ⟨gb243, 0, none⟩ = some (.slice Ao43 t236.length co43) := (blk_cell BK243.out 0).trans rfl
        have hcz220_1 : w201.cell? ⟨gb243, 1, none⟩ = some (.slice Ao45 t239.length co45) := (blk_cell BK243.out 1).trans rfl
        have hfz220_0 := blk_frozen BK243.out 0
        have hfz220_1 := blk_frozen BK243.out 1
        go_wp2_with (first | ((with_reducible refine gate_callee (f := 8) rfl ?_); refine goesL_ (some 104) rfl rfl Try.func8 (by kernel_rfl) rfl #[.agg #[.slice Ao202 t304.length co202, .slice Ao204 t307.length co204], .agg #[.slice Ao43 t236.length co43, .slice Ao45 t239.length co45]] rfl (by (try simp only [List.map_toArray, List.map_cons, List.map_nil]); first | done | rfl | (simp only [List.length_drop, List.length_take]; rfl)) ?_; (with_reducible refine (laws_eqMeander.calls kj113 _ _ t304 _ _ t307 _ _ t236 _ _ t239 true _ ?side1 ?side2 ?side3 ?side4 ?side5 ?side6 ?side7 ?side8 A206.out).mono ?_); (case side1 => refine (Kd.R_reads' (e := 3) (base := w.heap.size) (ok := fun k_ => (some k_ ≠ (v293 : Value).ownBlock ∧ (some k_ ≠ (v296 : Value).ownBlock ∧ (some k_ ≠ (v299 : Value).ownBlock ∧ (some k_ ≠ (v302 : Value).ownBlock ∧ (some k_ ≠ (.slice Ao204 t307.length co204 : Value).ownBlock ∧ (some k_ ≠ (.slice Ao43 t236.length co43 : Value).ownBlock ∧ (some k_ ≠ (.slice Ao45 t239.length co45 : Value).ownBlock ∧ (some k_ ≠ (.slice Ao51 t282.length co51 : Value).ownBlock ∧ (some k_ ≠ (.slice Ao56 t283.length co56 : Value).ownBlock ∧ (some k_ ≠ (.slice Ao61 t285.length co61 : Value).ownBlock ∧ (some k_ ≠ (.slice Ao67 t286.length co67 : Value).ownBlock ∧ (some k_ ≠ (.slice Ao71 t258.length co71 : Value).ownBlock ∧ some k_ ≠ (.slice Ao78 t261.length co78 : Value).ownBlock))))))))))))) (n := t304.length) (c := co202) ?_).2.2; exact (by (with_reducible repeat (first | apply Kd.R_alloc | apply Kd.R_drewN | apply Kd.R_drew)); exact (Kd.R_mono (Kd.R_far (p := ⟨gb311, 1, none⟩) (Kd.R_far (p := ⟨gb311, 0, none⟩) (Kd.R_types HO306.out BK311.out (by decide)) (fun _ hk => hk.2) (.slice Ao202 t304.length co202)) (fun _ hk => hk.2) (.slice Ao204 t307.length co204)) (fun _ h_ => h_.1)))); (case side2 => exact (Kd.R_reads' HO306.out).2.1); (case side3 => refine (Kd.R_reads' (e := 3) (base := w.heap.size) (ok := fun k_ => (some k_ ≠ (v293 : Value).ownBlock ∧ (some k_ ≠ (v296 : Value).ownBlock ∧ (some k_ ≠ (v299 : Value).ownBlock ∧ (some k_ ≠ (v302 : Value).ownBlock ∧ (some k_ ≠ (.slice Ao202 t304.length co202 : Value).ownBlock ∧ (some k_ ≠ (.slice Ao43 t236.length co43 : Value).ownBlock ∧ (some k_ ≠ (.slice Ao45 t239.length co45 : Value).ownBlock ∧ (some k_ ≠ (.slice Ao51 t282.length co51 : Value).ownBlock ∧ (some k_ ≠ (.slice Ao56 t283.length co56 : Value).ownBlock ∧ (some k_ ≠ (.slice Ao61 t285.length co61 : Value).ownBlock ∧ (some k_ ≠ (.slice Ao67 t286.length co67 : Value).ownBlock ∧ (some k_ ≠ (.slice Ao71 t258.length co71 : Value).ownBlock ∧ some k_ ≠ (.slice Ao78 t261.length co78 : Value).ownBlock))))))))))))) (n := t307.length) (c := co204) ?_).2.2; exact (by (with_reducible repeat (first | apply Kd.R_alloc | apply Kd.R_drewN | apply Kd.R_drew)); exact (Kd.R_mono (Kd.R_far (p := ⟨gb311, 1, none⟩) (Kd.R_far (p := ⟨gb311, 0, none⟩) (Kd.R_types HO309.out BK311.out (by decide)) (fun _ hk => hk.2) (.slice Ao202 t304.length co202)) (fun _ hk => hk.2) (.slice Ao204 t307.length co204)) (fun _ h_ => h_.1)))); (case side4 => exact (Kd.R_reads' HO309.out).2.1); (case side5 => refine (Kd.R_reads' (e := 3) (base := w.heap.size) (ok := fun k_ => (some k_ ≠ (v293 : Value).ownBlock ∧ (some k_ ≠ (v296 : Value).ownBlock ∧ (some k_ ≠ (v299 : Value).ownBlock ∧ (some k_ ≠ (v302 : Value).ownBlock ∧ (some k_ ≠ (.slice Ao202 t304.length co202 : Value).ownBlock ∧ (some k_ ≠ (.slice Ao204 t307.length co204 : Value).ownBlock ∧ (some k_ ≠ (.slice Ao45 t239.length co45 : Value).ownBlock ∧ (some k_ ≠ (.slice Ao51 t282.length co51 : Value).ownBlock ∧ (some k_ ≠ (.slice Ao56 t283.length co56 : Value).ownBlock ∧ (some k_ ≠ (.slice Ao61 t285.length co61 : Value).ownBlock ∧ (some k_ ≠ (.slice Ao67 t286.length co67 : Value).ownBlock ∧ (some k_ ≠ (.slice Ao71 t258.length co71 : Value).ownBlock ∧ some k_ ≠ (.slice Ao78 t261.length co78 : Value).ownBlock))))))))))))) (n := t236.length) (c := co43) ?_).2.2; exact (by (with_reducible repeat (first | apply Kd.R_alloc | apply Kd.R_drewN | apply Kd.R_drew)); exact (Kd.R_mono (Kd.R_far (p := ⟨gb311, 1, none⟩) (Kd.R_far (p := ⟨gb311, 0, none⟩) (Kd.R_types HO_244000.out BK311.out (by decide)) (fun _ hk => hk.2) (.slice Ao202 t304.length co202)) (fun _ hk => hk.2) (.slice Ao204 t307.length co204)) (fun _ h_ => h_.1)))); (case side6 => exact (Kd.R_reads' HO_244000.out).2.1); (case side7 => refine (Kd.R_reads' (e := 3) (base := w.heap.size) (ok := fun k_ => (some k_ ≠ (v293 : Value).ownBlock ∧ (some k_ ≠ (v296 : Value).ownBlock ∧ (some k_ ≠ (v299 : Value).ownBlock ∧ (some k_ ≠ (v302 : Value).ownBlock ∧ (some k_ ≠ (.slice Ao202 t304.length co202 : Value).ownBlock ∧ (some k_ ≠ (.slice Ao204 t307.length co204 : Value).ownBlock ∧ (some k_ ≠ (.slice Ao43 t236.length co43 : Value).ownBlock ∧ (some k_ ≠ (.slice Ao51 t282.length co51 : Value).ownBlock ∧ (some k_ ≠ (.slice Ao56 t283.length co56 : Value).ownBlock ∧ (some k_ ≠ (.slice Ao61 t285.length co61 : Value).ownBlock ∧ (some k_ ≠ (.slice Ao67 t286.length co67 : Value).ownBlock ∧ (some k_ ≠ (.slice Ao71 t258.length co71 : Value).ownBlock ∧ some k_ ≠ (.slice Ao78 t261.length co78 : Value).ownBlock))))))))))))) (n := t239.length) (c := co45) ?_).2.2; exact (by (with_reducible repeat (first | apply Kd.R_alloc | apply Kd.R_drewN | apply Kd.R_drew)); exact (Kd.R_mono (Kd.R_far (p := ⟨gb311, 1, none⟩) (Kd.R_far (p := ⟨gb311, 0, none⟩) (Kd.R_types HO_244001.out BK311.out (by decide)) (fun _ hk => hk.2) (.slice Ao202 t304.length co202)) (fun _ hk => hk.2) (.slice Ao204 t307.length co204)) (fun _ h_ => h_.1)))); (case side8 => exact (Kd.R_reads' HO_244001.out).2.1); rintro e w221 ⟨rfl, hb⟩; refine ⟨_, rfl, ?_⟩; replace HO_244000 := Aside0.mk (Kd.R_below (by (with_reducible repeat (first | apply Kd.R_alloc | apply Kd.R_drewN | apply Kd.R_drew)); exact (Kd.R_mono (Kd.R_far (p := ⟨gb311, 1, none⟩) (Kd.R_far (p := ⟨gb311, 0, none⟩) (Kd.R_types HO_244000.out BK311.out (by decide)) (fun _ hk => hk.2) (.slice Ao202 t304.length co202)) (fun _ hk => hk.2) (.slice Ao204 t307.length co204)) (fun _ h_ => h_.1))) hb); replace HO_244001 := Aside0.mk (Kd.R_below (by (with_reducible repeat (first | apply Kd.R_alloc | apply Kd.R_drewN | apply Kd.R_drew)); exact (Kd.R_mono (Kd.R_far (p := ⟨gb311, 1, none⟩) (Kd.R_far (p := ⟨gb311, 0, none⟩) (Kd.R_types HO_244001.out BK311.out (by decide)) (fun _ hk => hk.2) (.slice Ao202 t304.length co202)) (fun _ hk => hk.2) (.slice Ao204 t307.length co204)) (fun _ h_ => h_.1))) hb); replace HO_251000 := Aside0.mk (Kd.R_below (by (with_reducible repeat (first | apply Kd.R_alloc | apply Kd.R_drewN | apply Kd.R_drew)); exact (Kd.R_mono (Kd.R_far (p := ⟨gb311, 1, none⟩) (Kd.R_far (p := ⟨gb311, 0, none⟩) (Kd.R_types HO_251000.out BK311.out (by decide)) (fun _ hk => hk.2) (.slice Ao202 t304.length co202)) (fun _ hk => hk.2) (.slice Ao204 t307.length co204)) (fun _ h_ => h_.1))) hb); replace HO_251001 := Aside0.mk (Kd.R_below (by (with_reducible repeat (first | apply Kd.R_alloc | apply Kd.R_drewN | apply Kd.R_drew)); exact (Kd.R_mono (Kd.R_far (p := ⟨gb311, 1, none⟩) (Kd.R_far (p := ⟨gb311, 0, none⟩) (Kd.R_types HO_251001.out BK311.out (by decide)) (fun _ hk => hk.2) (.slice Ao202 t304.length co202)) (fun _ hk => hk.2) (.slice Ao204 t307.length co204)) (fun _ h_ => h_.1))) hb); replace HO_258000 := Aside0.mk (Kd.R_below (by (with_reducible repeat (first | apply Kd.R_alloc | apply Kd.R_drewN | apply Kd.R_drew)); exact (Kd.R_mono (Kd.R_far (p := ⟨gb311, 1, none⟩) (Kd.R_far (p := ⟨gb311, 0, none⟩) (Kd.R_types HO_258000.out BK311.out (by decide)) (fun _ hk => hk.2) (.slice Ao202 t304.length co202)) (fun _ hk => hk.2) (.slice Ao204 t307.length co204)) (fun _ h_ => h_.1))) hb); replace HO_258001 := Aside0.mk (Kd.R_below (by (with_reducible repeat (first | apply Kd.R_alloc | apply Kd.R_drewN | apply Kd.R_drew)); exact (Kd.R_mono (Kd.R_far (p := ⟨gb311, 1, none⟩) (Kd.R_far (p := ⟨gb311, 0, none⟩) (Kd.R_types HO_258001.out BK311.out (by decide)) (fun _ hk => hk.2) (.slice Ao202 t304.length co202)) (fun _ hk => hk.2) (.slice Ao204 t307.length co204)) (fun _ h_ => h_.1))) hb); replace HO_266000 := Aside0.mk (Kd.R_below (by (with_reducible repeat (first | apply Kd.R_alloc | apply Kd.R_drewN | apply Kd.R_drew)); exact (Kd.R_mono (Kd.R_far (p := ⟨gb311, 1, none⟩) (Kd.R_far (p := ⟨gb311, 0, none⟩) (Kd.R_types HO_266000.out BK311.out (by decide)) (fun _ hk => hk.2) (.slice Ao202 t304.length co202)) (fun _ hk => hk.2) (.slice Ao204 t307.length co204)) (fun _ h_ => h_.1))) hb); replace HO_266001 := Aside0.mk (Kd.R_below (by (with_reducible repeat (first | apply Kd.R_alloc | apply Kd.R_drewN | apply Kd.R_drew)); exact (Kd.R_mono (Kd.R_far (p := ⟨gb311, 1, none⟩) (Kd.R_far (p := ⟨gb311, 0, none⟩) (Kd.R_types HO_266001.out BK311.out (by decide)) (fun _ hk => hk.2) (.slice Ao202 t304.length co202)) (fun _ hk => hk.2) (.slice Ao204 t307.length co204)) (fun _ h_ => h_.1))) hb); replace HO294 := Aside0.mk (Kd.R_below (by (with_reducible repeat (first | apply Kd.R_alloc | apply Kd.R_drewN | apply Kd.R_drew)); exact (Kd.R_mono (Kd.R_far (p := ⟨gb311, 1, none⟩) (Kd.R_far (p := ⟨gb311, 0, none⟩) (Kd.R_types HO294.out BK311.out (by decide)) (fun _ hk => hk.2) (.slice Ao202 t304.length co202)) (fun _ hk => hk.2) (.slice Ao204 t307.length co204)) (fun _ h_ => h_.1))) hb); replace HO297 := Aside0.mk (Kd.R_below (by (with_reducible repeat (first | apply Kd.R_alloc | apply Kd.R_drewN | apply Kd.R_drew)); exact (Kd.R_mono (Kd.R_far (p := ⟨gb311, 1, none⟩) (Kd.R_far (p := ⟨gb311, 0, none⟩) (Kd.R_types HO297.out BK311.out (by decide)) (fun _ hk => hk.2) (.slice Ao202 t304.length co202)) (fun _ hk => hk.2) (.slice Ao204 t307.length co204)) (fun _ h_ => h_.1))) hb); replace HO300 := Aside0.mk (Kd.R_below (by (with_reducible repeat (first | apply Kd.R_alloc | apply Kd.R_drewN | apply Kd.R_drew)); exact (Kd.R_mono (Kd.R_far (p := ⟨gb311, 1, none⟩) (Kd.R_far (p := ⟨gb311, 0, none⟩) (Kd.R_types HO300.out BK311.out (by decide)) (fun _ hk => hk.2) (.slice Ao202 t304.length co202)) (fun _ hk => hk.2) (.slice Ao204 t307.length co204)) (fun _ h_ => h_.1))) hb); replace HO303 := Aside0.mk (Kd.R_below (by (with_reducible repeat (first | apply Kd.R_alloc | apply Kd.R_drewN | apply Kd.R_drew)); exact (Kd.R_mono (Kd.R_far (p := ⟨gb311, 1, none⟩) (Kd.R_far (p := ⟨gb311, 0, none⟩) (Kd.R_types HO303.out BK311.out (by decide)) (fun _ hk => hk.2) (.slice Ao202 t304.length co202)) (fun _ hk => hk.2) (.slice Ao204 t307.length co204)) (fun _ h_ => h_.1))) hb); replace HO306 := Aside0.mk (Kd.R_below (by (with_reducible repeat (first | apply Kd.R_alloc | apply Kd.R_drewN | apply Kd.R_drew)); exact (Kd.R_mono (Kd.R_far (p := ⟨gb311, 1, none⟩) (Kd.R_far (p := ⟨gb311, 0, none⟩) (Kd.R_types HO306.out BK311.out (by decide)) (fun _ hk => hk.2) (.slice Ao202 t304.length co202)) (fun _ hk => hk.2) (.slice Ao204 t307.length co204)) (fun _ h_ => h_.1))) hb); replace HO309 := Aside0.mk (Kd.R_below (by (with_reducible repeat (first | apply Kd.R_alloc | apply Kd.R_drewN | apply Kd.R_drew)); exact (Kd.R_mono (Kd.R_far (p := ⟨gb311, 1, none⟩) (Kd.R_far (p := ⟨gb311, 0, none⟩) (Kd.R_types HO309.out BK311.out (by decide)) (fun _ hk => hk.2) (.slice Ao202 t304.length co202)) (fun _ hk => hk.2) (.slice Ao204 t307.length co204)) (fun _ h_ => h_.1))) hb); replace BK220 := Aside0.mk (blk_below (g := gb220) (o := .cells #[.slice A0_0 l0_0.length c0_0, .slice A0_1 l0_1.length c0_1] 24 (0, 0)) (by (with_reducible repeat (first | refine blk_drewN ?_ _ | refine blk_drew ?_ | refine blk_alloc ?_ _)); refine blk_far ?_ NB220_311.out _; (with_reducible repeat (first | refine blk_drewN ?_ _ | refine blk_drew ?_ | refine blk_alloc ?_ _)); refine blk_far ?_ NB220_311.out _; (with_reducible repeat (first | refine blk_drewN ?_ _ | refine blk_drew ?_ | refine blk_alloc ?_ _)); exact BK220.out) hb); replace BK221 := Aside0.mk (blk_below (g := gb221) (o := .cells #[.slice A1_0 l1_0.length c1_0, .slice A1_1 l1_1.length c1_1] 24 (0, 0)) (by (with_reducible repeat (first | refine blk_drewN ?_ _ | refine blk_drew ?_ | refine blk_alloc ?_ _)); refine blk_far ?_ NB221_311.out _; (with_reducible repeat (first | refine blk_drewN ?_ _ | refine blk_drew ?_ | refine blk_alloc ?_ _)); refine blk_far ?_ NB221_311.out _; (with_reducible repeat (first | refine blk_drewN ?_ _ | refine blk_drew ?_ | refine blk_alloc ?_ _)); exact BK221.out) hb); replace BK243 := Aside0.mk (blk_below (g := gb243) (o := .cells #[.slice Ao43 t236.length co43, .slice Ao45 t239.length co45] 26 (0, 0)) (by (with_reducible repeat (first | refine blk_drewN ?_ _ | refine blk_drew ?_ | refine blk_alloc ?_ _)); refine blk_far ?_ NB243_311.out _; (with_reducible repeat (first | refine blk_drewN ?_ _ | refine blk_drew ?_ | refine blk_alloc ?_ _)); refine blk_far ?_ NB243_311.out _; (with_reducible repeat (first | refine blk_drewN ?_ _ | refine blk_drew ?_ | refine blk_alloc ?_ _)); exact BK243.out) hb); replace BK250 := Aside0.mk (blk_below (g := gb250) (o := .cells #[.slice Ao51 t282.length co51, .slice Ao56 t283.length co56] 26 (0, 0)) (by (with_reducible repeat (first | refine blk_drewN ?_ _ | refine blk_drew ?_ | refine blk_alloc ?_ _)); refine blk_far ?_ NB250_311.out _; (with_reducible repeat (first | refine blk_drewN ?_ _ | refine blk_drew ?_ | refine blk_alloc ?_ _)); refine blk_far ?_ NB250_311.out _; (with_reducible repeat (first | refine blk_drewN ?_ _ | refine blk_drew ?_ | refine blk_alloc ?_ _)); exact BK250.out) hb); replace BK257 := Aside0.mk (blk_below (g := gb257) (o := .cells #[.slice Ao61 t285.length co61, .slice Ao67 t286.length co67] 26 (0, 0)) (by (with_reducible repeat (first | refine blk_drewN ?_ _ | refine blk_drew ?_ | refine blk_alloc ?_ _)); refine blk_far ?_ NB257_311.out _; (with_reducible repeat (first | refine blk_drewN ?_ _ | refine blk_drew ?_ | refine blk_alloc ?_ _)); refine blk_far ?_ NB257_311.out _; (with_reducible repeat (first | refine blk_drewN ?_ _ | refine blk_drew ?_ | refine blk_alloc ?_ _)); exact BK257.out) hb); replace BK265 := Aside0.mk (blk_below (g := gb265) (o := .cells #[.slice Ao71 t258.length co71, .slice Ao78 t261.length co78] 26 (0, 0)) (by (with_reducible repeat (first | refine blk_drewN ?_ _ | refine blk_drew ?_ | refine blk_alloc ?_ _)); refine blk_far ?_ NB265_311.out _; (with_reducible repeat (first | refine blk_drewN ?_ _ | refine blk_drew ?_ | refine blk_alloc ?_ _)); refine blk_far ?_ NB265_311.out _; (with_reducible repeat (first | refine blk_drewN ?_ _ | refine blk_drew ?_ | refine blk_alloc ?_ _)); exact BK265.out) hb); replace BK311 := Aside0.mk (blk_below (g := gb311) (o := .cells #[.slice Ao202 t304.length co202, .slice Ao204 t307.length co204] 26 (0, 0)) (by (with_reducible repeat (first | refine blk_drewN ?_ _ | refine blk_drew ?_ | refine blk_alloc ?_ _)); refine blk_put (cs := #[.slice Ao202 t304.length co202, .slice none 0 0]) ?_ 1 _ rfl; (with_reducible repeat (first | refine blk_drewN ?_ _ | refine blk_drew ?_ | refine blk_alloc ?_ _)); refine blk_put (cs := #[.slice none 0 0, .slice none 0 0]) ?_ 0 _ rfl; (with_reducible repeat (first | refine blk_drewN ?_ _ | refine blk_drew ?_ | refine blk_alloc ?_ _)); exact BK311.out) hb); replace HB := Aside0.mk (below_step (by repeat (first | (with_reducible first | exact HB.out | apply below_alloc | apply pw_below_drewN | apply below_drew1 | refine below_set ?_ GE220.out | refine below_set ?_ GE221.out | refine below_set ?_ GE243.out | refine below_set ?_ GE250.out | refine below_set ?_ GE257.out | refine below_set ?_ GE265.out | refine below_set ?_ GE311.out) | exact HB.out)) hb); (try clear hb); (try clear hb2); (try clear hk); (try clear hi)))
        go_meet
        case rel => exact ⟨_, ((t310 != t242)), (by first | rfl | (simp; done) | (simp [*]; done)), H', ⟨by have := HJ24.out; have := HJ113.out; first | omega | exact Nat.le_refl _⟩, ⟨by (try simp only [hl251000_113]); (try simp only [hl251001_113]); (try simp only [hl258000_113]); (try simp only [hl258001_113]); (with_reducible repeat (first | apply Kd.R_alloc | apply Kd.R_drewN | apply Kd.R_drew)); exact Kd.R_mono HO_244000.out (fun _ hk => ⟨hk.2.2.2.2.2.2.1, ⟨hk.2.2.2.2.2.2.2.1, ⟨hk.2.2.2.2.2.2.2.2.1, ⟨hk.2.2.2.2.2.2.2.2.2.1, ⟨hk.2.2.2.2.2.2.2.2.2.2.1, ⟨hk.2.2.2.2.2.2.2.2.2.2.2.1, ⟨hk.2.2.2.2.2.2.2.2.2.2.2.2, ⟨hk.2.2.2.2.1, hk.2.2.2.2.2.1⟩⟩⟩⟩⟩⟩⟩⟩)⟩, ⟨by (try simp only [hl251000_113]); (try simp only [hl251001_113]); (try simp only [hl258000_113]); (try simp only [hl258001_113]); (with_reducible repeat (first | apply Kd.R_alloc | apply Kd.R_drewN | apply Kd.R_drew)); exact Kd.R_mono HO_244001.out (fun _ hk => ⟨hk.2.2.2.2.2.2.1, ⟨hk.2.2.2.2.2.2.2.1, ⟨hk.2.2.2.2.2.2.2.2.1, ⟨hk.2.2.2.2.2.2.2.2.2.1, ⟨hk.2.2.2.2.2.2.2.2.2.2.1, ⟨hk.2.2.2.2.2.2.2.2.2.2.2.1, ⟨hk.2.2.2.2.2.2.2.2.2.2.2.2, ⟨hk.2.2.2.2.1, hk.2.2.2.2.2.1⟩⟩⟩⟩⟩⟩⟩⟩)⟩, ⟨by (try simp only [hl251000_113]); (try simp only [hl251001_113]); (try simp only [hl258000_113]); (try simp only [hl258001_113]); (with_reducible repeat (first | apply Kd.R_alloc | apply Kd.R_drewN | apply Kd.R_drew)); exact Kd.R_mono HO_251000.out (fun _ hk => ⟨hk.2.2.2.2.2.2.1, ⟨hk.2.2.2.2.2.2.2.1, ⟨hk.2.2.2.2.2.2.2.2.1, ⟨hk.2.2.2.2.2.2.2.2.2.1, ⟨hk.2.2.2.2.2.2.2.2.2.2.1, ⟨hk.2.2.2.2.2.2.2.2.2.2.2.1, ⟨hk.2.2.2.2.2.2.2.2.2.2.2.2, ⟨hk.2.2.2.2.1, hk.2.2.2.2.2.1⟩⟩⟩⟩⟩⟩⟩⟩)⟩, ⟨by (try simp only [hl251000_113]); (try simp only [hl251001_113]); (try simp only [hl258000_113]); (try simp only [hl258001_113]); (with_reducible repeat (first | apply Kd.R_alloc | apply Kd.R_drewN | apply Kd.R_drew)); exact Kd.R_mono HO_251001.out (fun _ hk => ⟨hk.2.2.2.2.2.2.1, ⟨hk.2.2.2.2.2.2.2.1, ⟨hk.2.2.2.2.2.2.2.2.1, ⟨hk.2.2.2.2.2.2.2.2.2.1, ⟨hk.2.2.2.2.2.2.2.2.2.2.1, ⟨hk.2.2.2.2.2.2.2.2.2.2.2.1, ⟨hk.2.2.2.2.2.2.2.2.2.2.2.2, ⟨hk.2.2.2.2.1, hk.2.2.2.2.2.1⟩⟩⟩⟩⟩⟩⟩⟩)⟩, ⟨by (try simp only [hl251000_113]); (try simp only [hl251001_113]); (try simp only [hl258000_113]); (try simp only [hl258001_113]); (with_reducible repeat (first | apply Kd.R_alloc | apply Kd.R_drewN | apply Kd.R_drew)); exact Kd.R_mono HO_258000.out (fun _ hk => ⟨hk.2.2.2.2.2.2.1, ⟨hk.2.2.2.2.2.2.2.1, ⟨hk.2.2.2.2.2.2.2.2.1, ⟨hk.2.2.2.2.2.2.2.2.2.1, ⟨hk.2.2.2.2.2.2.2.2.2.2.1, ⟨hk.2.2.2.2.2.2.2.2.2.2.2.1, ⟨hk.2.2.2.2.2.2.2.2.2.2.2.2, ⟨hk.2.2.2.2.1, hk.2.2.2.2.2.1⟩⟩⟩⟩⟩⟩⟩⟩)⟩, ⟨by (try simp only [hl251000_113]); (try simp only [hl251001_113]); (try simp only [hl258000_113]); (try simp only [hl258001_113]); (with_reducible repeat (first | apply Kd.R_alloc | apply Kd.R_drewN | apply Kd.R_drew)); exact Kd.R_mono HO_258001.out (fun _ hk => ⟨hk.2.2.2.2.2.2.1, ⟨hk.2.2.2.2.2.2.2.1, ⟨hk.2.2.2.2.2.2.2.2.1, ⟨hk.2.2.2.2.2.2.2.2.2.1, ⟨hk.2.2.2.2.2.2.2.2.2.2.1, ⟨hk.2.2.2.2.2.2.2.2.2.2.2.1, ⟨hk.2.2.2.2.2.2.2.2.2.2.2.2, ⟨hk.2.2.2.2.1, hk.2.2.2.2.2.1⟩⟩⟩⟩⟩⟩⟩⟩)⟩, ⟨by (try simp only [hl251000_113]); (try simp only [hl251001_113]); (try simp only [hl258000_113]); (try simp only [hl258001_113]); (with_reducible repeat (first | apply Kd.R_alloc | apply Kd.R_drewN | apply Kd.R_drew)); exact Kd.R_mono HO_266000.out (fun _ hk => ⟨hk.2.2.2.2.2.2.1, ⟨hk.2.2.2.2.2.2.2.1, ⟨hk.2.2.2.2.2.2.2.2.1, ⟨hk.2.2.2.2.2.2.2.2.2.1, ⟨hk.2.2.2.2.2.2.2.2.2.2.1, ⟨hk.2.2.2.2.2.2.2.2.2.2.2.1, ⟨hk.2.2.2.2.2.2.2.2.2.2.2.2, ⟨hk.2.2.2.2.1, hk.2.2.2.2.2.1⟩⟩⟩⟩⟩⟩⟩⟩)⟩, ⟨by (try simp only [hl251000_113]); (try simp only [hl251001_113]); (try simp only [hl258000_113]); (try simp only [hl258001_113]); (with_reducible repeat (first | apply Kd.R_alloc | apply Kd.R_drewN | apply Kd.R_drew)); exact Kd.R_mono HO_266001.out (fun _ hk => ⟨hk.2.2.2.2.2.2.1, ⟨hk.2.2.2.2.2.2.2.1, ⟨hk.2.2.2.2.2.2.2.2.1, ⟨hk.2.2.2.2.2.2.2.2.2.1, ⟨hk.2.2.2.2.2.2.2.2.2.2.1, ⟨hk.2.2.2.2.2.2.2.2.2.2.2.1, ⟨hk.2.2.2.2.2.2.2.2.2.2.2.2, ⟨hk.2.2.2.2.1, hk.2.2.2.2.2.1⟩⟩⟩⟩⟩⟩⟩⟩)⟩, ⟨by (try simp only [hl251000_113]); (try simp only [hl251001_113]); (try simp only [hl258000_113]); (try simp only [hl258001_113]); (with_reducible repeat (first | apply Kd.R_alloc | apply Kd.R_drewN | apply Kd.R_drew)); exact Kd.R_mono HO306.out (fun _ hk => ⟨hk.2.2.2.2.2.1, ⟨hk.2.2.2.2.2.2.1, ⟨hk.2.2.2.2.2.2.2.1, ⟨hk.2.2.2.2.2.2.2.2.1, ⟨hk.2.2.2.2.2.2.2.2.2.1, ⟨hk.2.2.2.2.2.2.2.2.2.2.1, ⟨hk.2.2.2.2.2.2.2.2.2.2.2.1, ⟨hk.2.2.2.2.2.2.2.2.2.2.2.2, hk.2.2.2.2.1⟩⟩⟩⟩⟩⟩⟩⟩)⟩, ⟨by (try simp only [hl251000_113]); (try simp only [hl251001_113]); (try simp only [hl258000_113]); (try simp only [hl258001_113]); (with_reducible repeat (first | apply Kd.R_alloc | apply Kd.R_drewN | apply Kd.R_drew)); exact Kd.R_mono HO309.out (fun _ hk => ⟨hk.2.2.2.2.2.1, ⟨hk.2.2.2.2.2.2.1, ⟨hk.2.2.2.2.2.2.2.1, ⟨hk.2.2.2.2.2.2.2.2.1, ⟨hk.2.2.2.2.2.2.2.2.2.1, ⟨hk.2.2.2.2.2.2.2.2.2.2.1, ⟨hk.2.2.2.2.2.2.2.2.2.2.2.1, ⟨hk.2.2.2.2.2.2.2.2.2.2.2.2, hk.2.2.2.2.1⟩⟩⟩⟩⟩⟩⟩⟩)⟩, ⟨by (try simp only [hl251000_113]); (try simp only [hl251001_113]); (try simp only [hl258000_113]); (try simp only [hl258001_113]); (with_reducible repeat (first | refine blk_drewN ?_ _ | refine blk_drew ?_ | refine blk_alloc ?_ _)); exact BK220.out⟩, ⟨by (try simp only [hl251000_113]); (try simp only [hl251001_113]); (try simp only [hl258000_113]); (try simp only [hl258001_113]); (with_reducible repeat (first | refine blk_drewN ?_ _ | refine blk_drew ?_ | refine blk_alloc ?_ _)); exact BK221.out⟩, ⟨by (try simp only [hl251000_113]); (try simp only [hl251001_113]); (try simp only [hl258000_113]); (try simp only [hl258001_113]); (with_reducible repeat (first | refine blk_drewN ?_ _ | refine blk_drew ?_ | refine blk_alloc ?_ _)); exact BK243.out⟩, ⟨by (try simp only [hl251000_113]); (try simp only [hl251001_113]); (try simp only [hl258000_113]); (try simp only [hl258001_113]); (with_reducible repeat (first | refine blk_drewN ?_ _ | refine blk_drew ?_ | refine blk_alloc ?_ _)); exact BK250.out⟩, ⟨by (try simp only [hl251000_113]); (try simp only [hl251001_113]); (try simp only [hl258000_113]); (try simp only [hl258001_113]); (with_reducible repeat (first | refine blk_drewN ?_ _ | refine blk_drew ?_ | refine blk_alloc ?_ _)); exact BK257.out⟩, ⟨by (try simp only [hl251000_113]); (try simp only [hl251001_113]); (try simp only [hl258000_113]); (try simp only [hl258001_113]); (with_reducible repeat (first | refine blk_drewN ?_ _ | refine blk_drew ?_ | refine blk_alloc ?_ _)); exact BK265.out⟩, ⟨by (try simp only [hl251000_113]); (try simp only [hl251001_113]); (try simp only [hl258000_113]); (try simp only [hl258001_113]); (with_reducible repeat (first | refine blk_drewN ?_ _ | refine blk_drew ?_ | refine blk_alloc ?_ _)); exact BK311.out⟩, ⟨by repeat (first | (with_reducible first | exact HB.out | apply below_alloc | apply pw_below_drewN | apply below_drew1 | refine below_set ?_ GE220.out | refine below_set ?_ GE221.out | refine below_set ?_ GE243.out | refine below_set ?_ GE250.out | refine below_set ?_ GE257.out | refine below_set ?_ GE265.out | refine below_set ?_ GE311.out) | exact HB.out)⟩⟩
       ·replace c207 := Bool.eq_false_iff.mpr c207
        subst c207
        have H1 : (laws_FnExactJoinMeanders.j2 kj113 t288 true t289 t290) = some r := by rw [if_neg (show ¬ (false = true) by decide)] at H; exact H
        rw [hr_] at H1; exact absurd H1 (laws_FnExactJoinMeanders.j2_no _ _ _ _)
      case rest =>
       clear HC182
       try clear c1
       try clear c2
       try clear p2
       try clear c6
       try clear c7
       try clear c8
       try clear c20
       try clear c21
       try clear c22
       try clear c23
       try clear c207
       try clear c208
       try clear c209
       try clear c210
       try clear c211
       try clear c212
       try clear c213
       try clear c215
       try clear c216
       try clear c217
       try clear c218
       try clear c219
       try clear c222
       try clear c223
       try clear c224
       try clear c225
       try clear c226
       try clear c227
       try clear c229
       try clear c230
       try clear c231
       try clear c232
       try clear c233
       try clear hcz214_0
       try clear hcz214_1
       try clear hcz220_0
       try clear hcz220_1
       try clear hcz228_0
       try clear hcz228_1
       try clear hcz234_0
       try clear hcz234_1
       try clear hfz214_0
       try clear hfz214_1
       try clear hfz220_0
       try clear hfz220_1
       try clear hfz228_0
       try clear hfz228_1
       try clear hfz234_0
       try clear hfz234_1
       obtain ⟨kq, x110_181, rfl, HA, HJ181, HO_244000, HO_244001, HO_251000, HO_251001, HO_258000, HO_258001, HO_266000, HO_266001, HO_312000, HO_312001, BK220, BK221, BK243, BK250, BK257, BK265, BK311, HB⟩ := hcut
       have hl266000_181 := (Kd.R_reads' HO_266000.out).1
       rw [hl266000_181] at HO_266000
       (try simp only [hl266000_181])
       (try simp only [hl266000_181] at BK220)
       (try simp only [hl266000_181] at BK221)
       (try simp only [hl266000_181] at BK243)
       (try simp only [hl266000_181] at BK250)
       (try simp only [hl266000_181] at BK257)
       (try simp only [hl266000_181] at BK265)
       (try simp only [hl266000_181] at BK311)
       (try simp only [hl266000_181] at HO_244000)
       (try simp only [hl266000_181] at HO_244001)
       (try simp only [hl266000_181] at HO_251000)
       (try simp only [hl266000_181] at HO_251001)
       (try simp only [hl266000_181] at HO_258000)
       (try simp only [hl266000_181] at HO_258001)
       (try simp only [hl266000_181] at HO_266001)
       (try simp only [hl266000_181] at HO_312000)
       (try simp only [hl266000_181] at HO_312001)
       have hl266001_181 := (Kd.R_reads' HO_266001.out).1
       rw [hl266001_181] at HO_266001
       (try simp only [hl266001_181])
       (try simp only [hl266001_181] at BK220)
       (try simp only [hl266001_181] at BK221)
       (try simp only [hl266001_181] at BK243)
       (try simp only [hl266001_181] at BK250)
       (try simp only [hl266001_181] at BK257)
       (try simp only [hl266001_181] at BK265)
       (try simp only [hl266001_181] at BK311)
       (try simp only [hl266001_181] at HO_244000)
       (try simp only [hl266001_181] at HO_244001)
       (try simp only [hl266001_181] at HO_251000)
       (try simp only [hl266001_181] at HO_251001)
       (try simp only [hl266001_181] at HO_258000)
       (try simp only [hl266001_181] at HO_258001)
       (try simp only [hl266001_181] at HO_266000)
       (try simp only [hl266001_181] at HO_312000)
       (try simp only [hl266001_181] at HO_312001)
       cases kq with
       | zero => exact absurd HA.out (by simp [laws_FnExactJoinMeanders.j2])
       | succ kj181 =>
        have H := HA.out
        clear HA
        simp only [laws_FnExactJoinMeanders.j2] at H
        by_cases c236 : x110_181 = true
        ·subst c236
         have H1 : (some false) = some r := by rw [if_pos rfl] at H; exact H
         rw [hr_] at H1; exact absurd H1 (by decide)
        ·replace c236 := Bool.eq_false_iff.mpr c236
         subst c236
         have H1 : ((laws_heldMeander.f kj181 t289 t290 1).bind fun t313 => (if t313 < 0 then (some false) else (if t313 = t288 then (some true) else (some false)))) = some r := by rw [if_neg (show ¬ (false = true) by decide)] at H; exact H
         clear H
         have H := H1
         clear H1
         replace H := Option.bind_eq_some_iff.mp H
         obtain ⟨t313, A2370, H⟩ := H
         replace H : (if t313 < 0 then (some false) else (if t313 = t288 then (some true) else (some false))) = some r := H
         have A237 := Aside0.mk A2370
         clear A2370
         by_cases c238 : t313 < 0
         ·rw [if_pos c238] at H
          have c238b0 : decide (t313 < 0) = true := decide_eq_true c238
          clear c238
          obtain rfl := Option.some.inj H
          have hnb239 := NB265_220.out
          have hnc239 := NB220_265.out
          have hnb240 := NB265_221.out
          have hnc240 := NB221_265.out
          have hnb241 := NB265_243.out
          have hnc241 := NB243_265.out
          have hnb242 := NB265_250.out
          have hnc242 := NB250_265.out
          have hnb243 := NB265_257.out
          have hnc243 := NB257_265.out
          have hnb244 := NB265_311.out
          have hnc244 := NB311_265.out
          have hcz245_0 : wc.cell? ⟨gb265, 0, none⟩ = some (.slice Ao71 t289.length co71) := (blk_cell BK265.out 0).trans rfl
          have hcz245_1 : wc.cell? ⟨gb265, 1, none⟩ = some (.slice Ao78 t290.length co78) := (blk_cell BK265.out 1).trans rfl
          have hfz245_0 := blk_frozen BK265.out 0
          have hfz245_1 := blk_frozen BK265.out 1
          go_wp2_with (first | ((with_reducible refine gate_callee (f := 10) rfl ?_); refine goesL_ (some 113) rfl rfl Try.func10 (by kernel_rfl) rfl #[.agg #[.slice Ao71 t289.length co71, .slice Ao78 t290.length co78], .int .i64 1] rfl (by (try simp only [List.map_toArray, List.map_cons, List.map_nil]); first | done | rfl | (simp only [List.length_drop, List.length_take]; rfl)) ?_; (with_reducible refine (laws_heldMeander.calls kj181 _ _ t289 _ _ t290 1 t313 _ ?side1 ?side2 ?side3 ?side4 A237.out).mono ?_); (case side1 => repeat (first | exact (Kd.R_reads' HO_266000.out).2.2 | (with_reducible refine Kd.C_alloc ?_ _) | (with_reducible refine Kd.C_drewN ?_ _) | (with_reducible refine Kd.C_drew ?_))); (case side2 => exact (Kd.R_reads' HO_266000.out).2.1); (case side3 => repeat (first | exact (Kd.R_reads' HO_266001.out).2.2 | (with_reducible refine Kd.C_alloc ?_ _) | (with_reducible refine Kd.C_drewN ?_ _) | (with_reducible refine Kd.C_drew ?_))); (case side4 => exact (Kd.R_reads' HO_266001.out).2.1); rintro e w246 ⟨rfl, hb⟩; refine ⟨_, rfl, ?_⟩; replace HO_244000 := Aside0.mk (Kd.R_below (by (with_reducible repeat (first | apply Kd.R_alloc | apply Kd.R_drewN | apply Kd.R_drew)); exact HO_244000.out) hb); replace HO_244001 := Aside0.mk (Kd.R_below (by (with_reducible repeat (first | apply Kd.R_alloc | apply Kd.R_drewN | apply Kd.R_drew)); exact HO_244001.out) hb); replace HO_251000 := Aside0.mk (Kd.R_below (by (with_reducible repeat (first | apply Kd.R_alloc | apply Kd.R_drewN | apply Kd.R_drew)); exact HO_251000.out) hb); replace HO_251001 := Aside0.mk (Kd.R_below (by (with_reducible repeat (first | apply Kd.R_alloc | apply Kd.R_drewN | apply Kd.R_drew)); exact HO_251001.out) hb); replace HO_258000 := Aside0.mk (Kd.R_below (by (with_reducible repeat (first | apply Kd.R_alloc | apply Kd.R_drewN | apply Kd.R_drew)); exact HO_258000.out) hb); replace HO_258001 := Aside0.mk (Kd.R_below (by (with_reducible repeat (first | apply Kd.R_alloc | apply Kd.R_drewN | apply Kd.R_drew)); exact HO_258001.out) hb); replace HO_266000 := Aside0.mk (Kd.R_below (by (with_reducible repeat (first | apply Kd.R_alloc | apply Kd.R_drewN | apply Kd.R_drew)); exact HO_266000.out) hb); replace HO_266001 := Aside0.mk (Kd.R_below (by (with_reducible repeat (first | apply Kd.R_alloc | apply Kd.R_drewN | apply Kd.R_drew)); exact HO_266001.out) hb); replace HO_312000 := Aside0.mk (Kd.R_below (by (with_reducible repeat (first | apply Kd.R_alloc | apply Kd.R_drewN | apply Kd.R_drew)); exact HO_312000.out) hb); replace HO_312001 := Aside0.mk (Kd.R_below (by (with_reducible repeat (first | apply Kd.R_alloc | apply Kd.R_drewN | apply Kd.R_drew)); exact HO_312001.out) hb); replace BK220 := Aside0.mk (blk_below (g := gb220) (o := .cells #[.slice A0_0 l0_0.length c0_0, .slice A0_1 l0_1.length c0_1] 24 (0, 0)) (by (with_reducible repeat (first | refine blk_drewN ?_ _ | refine blk_drew ?_ | refine blk_alloc ?_ _)); exact BK220.out) hb); replace BK221 := Aside0.mk (blk_below (g := gb221) (o := .cells #[.slice A1_0 l1_0.length c1_0, .slice A1_1 l1_1.length c1_1] 24 (0, 0)) (by (with_reducible repeat (first | refine blk_drewN ?_ _ | refine blk_drew ?_ | refine blk_alloc ?_ _)); exact BK221.out) hb); replace BK243 := Aside0.mk (blk_below (g := gb243) (o := .cells #[.slice Ao43 t236.length co43, .slice Ao45 t239.length co45] 26 (0, 0)) (by (with_reducible repeat (first | refine blk_drewN ?_ _ | refine blk_drew ?_ | refine blk_alloc ?_ _)); exact BK243.out) hb); replace BK250 := Aside0.mk (blk_below (g := gb250) (o := .cells #[.slice Ao51 t282.length co51, .slice Ao56 t283.length co56] 26 (0, 0)) (by (with_reducible repeat (first | refine blk_drewN ?_ _ | refine blk_drew ?_ | refine blk_alloc ?_ _)); exact BK250.out) hb); replace BK257 := Aside0.mk (blk_below (g := gb257) (o := .cells #[.slice Ao61 t285.length co61, .slice Ao67 t286.length co67] 26 (0, 0)) (by (with_reducible repeat (first | refine blk_drewN ?_ _ | refine blk_drew ?_ | refine blk_alloc ?_ _)); exact BK257.out) hb); replace BK265 := Aside0.mk (blk_below (g := gb265) (o := .cells #[.slice Ao71 t289.length co71, .slice Ao78 t290.length co78] 26 (0, 0)) (by (with_reducible repeat (first | refine blk_drewN ?_ _ | refine blk_drew ?_ | refine blk_alloc ?_ _)); exact BK265.out) hb); replace BK311 := Aside0.mk (blk_below (g := gb311) (o := .cells #[.slice Ao202 t304.length co202, .slice Ao204 t307.length co204] 26 (0, 0)) (by (with_reducible repeat (first | refine blk_drewN ?_ _ | refine blk_drew ?_ | refine blk_alloc ?_ _)); exact BK311.out) hb); replace HB := Aside0.mk (below_step (by repeat (first | (with_reducible first | exact HB.out | apply below_alloc | apply pw_below_drewN | apply below_drew1 | refine below_set ?_ GE220.out | refine below_set ?_ GE221.out | refine below_set ?_ GE243.out | refine below_set ?_ GE250.out | refine below_set ?_ GE257.out | refine below_set ?_ GE265.out | refine below_set ?_ GE311.out) | exact HB.out)) hb); (try clear hb); (try clear hb2); (try clear hk); (try clear hi)))
          go_ret
          exact ⟨by first | rfl | (simp [errW_none, errW_some] <;> rfl) | (simp [*, errW_none, errW_some] <;> rfl), by repeat (first | (with_reducible first | exact HB.out | apply below_alloc | apply pw_below_drewN | apply below_drew1 | refine below_set ?_ GE220.out | refine below_set ?_ GE221.out | refine below_set ?_ GE243.out | refine below_set ?_ GE250.out | refine below_set ?_ GE257.out | refine below_set ?_ GE265.out | refine below_set ?_ GE311.out) | exact HB.out)⟩
         ·rw [if_neg c238] at H
          have c238b0 : decide (t313 < 0) = false := decide_eq_false c238
          clear c238
          by_cases c247 : t313 = t288
          ·rw [if_pos c247] at H
           have c247b0 : (t313 == t288) = true := beq_iff_eq.mpr c247
           have c247b1 : (t313 != t288) = false := bne_eq_false_iff_eq.mpr c247
           clear c247
           obtain rfl := Option.some.inj H
           have hnb248 := NB265_220.out
           have hnc248 := NB220_265.out
           have hnb249 := NB265_221.out
           have hnc249 := NB221_265.out
           have hnb250 := NB265_243.out
           have hnc250 := NB243_265.out
           have hnb251 := NB265_250.out
           have hnc251 := NB250_265.out
           have hnb252 := NB265_257.out
           have hnc252 := NB257_265.out
           have hnb253 := NB265_311.out
           have hnc253 := NB311_265.out
           have hcz254_0 : wc.cell? ⟨gb265, 0, none⟩ = some (.slice Ao71 t289.length co71) := (blk_cell BK265.out 0).trans rfl
           have hcz254_1 : wc.cell? ⟨gb265, 1, none⟩ = some (.slice Ao78 t290.length co78) := (blk_cell BK265.out 1).trans rfl
           have hfz254_0 := blk_frozen BK265.out 0
           have hfz254_1 := blk_frozen BK265.out 1
           go_wp2_with (first | ((with_reducible refine gate_callee (f := 10) rfl ?_); refine goesL_ (some 113) rfl rfl Try.func10 (by kernel_rfl) rfl #[.agg #[.slice Ao71 t289.length co71, .slice Ao78 t290.length co78], .int .i64 1] rfl (by (try simp only [List.map_toArray, List.map_cons, List.map_nil]); first | done | rfl | (simp only [List.length_drop, List.length_take]; rfl)) ?_; (with_reducible refine (laws_heldMeander.calls kj181 _ _ t289 _ _ t290 1 t313 _ ?side1 ?side2 ?side3 ?side4 A237.out).mono ?_); (case side1 => repeat (first | exact (Kd.R_reads' HO_266000.out).2.2 | (with_reducible refine Kd.C_alloc ?_ _) | (with_reducible refine Kd.C_drewN ?_ _) | (with_reducible refine Kd.C_drew ?_))); (case side2 => exact (Kd.R_reads' HO_266000.out).2.1); (case side3 => repeat (first | exact (Kd.R_reads' HO_266001.out).2.2 | (with_reducible refine Kd.C_alloc ?_ _) | (with_reducible refine Kd.C_drewN ?_ _) | (with_reducible refine Kd.C_drew ?_))); (case side4 => exact (Kd.R_reads' HO_266001.out).2.1); rintro e w255 ⟨rfl, hb⟩; refine ⟨_, rfl, ?_⟩; replace HO_244000 := Aside0.mk (Kd.R_below (by (with_reducible repeat (first | apply Kd.R_alloc | apply Kd.R_drewN | apply Kd.R_drew)); exact HO_244000.out) hb); replace HO_244001 := Aside0.mk (Kd.R_below (by (with_reducible repeat (first | apply Kd.R_alloc | apply Kd.R_drewN | apply Kd.R_drew)); exact HO_244001.out) hb); replace HO_251000 := Aside0.mk (Kd.R_below (by (with_reducible repeat (first | apply Kd.R_alloc | apply Kd.R_drewN | apply Kd.R_drew)); exact HO_251000.out) hb); replace HO_251001 := Aside0.mk (Kd.R_below (by (with_reducible repeat (first | apply Kd.R_alloc | apply Kd.R_drewN | apply Kd.R_drew)); exact HO_251001.out) hb); replace HO_258000 := Aside0.mk (Kd.R_below (by (with_reducible repeat (first | apply Kd.R_alloc | apply Kd.R_drewN | apply Kd.R_drew)); exact HO_258000.out) hb); replace HO_258001 := Aside0.mk (Kd.R_below (by (with_reducible repeat (first | apply Kd.R_alloc | apply Kd.R_drewN | apply Kd.R_drew)); exact HO_258001.out) hb); replace HO_266000 := Aside0.mk (Kd.R_below (by (with_reducible repeat (first | apply Kd.R_alloc | apply Kd.R_drewN | apply Kd.R_drew)); exact HO_266000.out) hb); replace HO_266001 := Aside0.mk (Kd.R_below (by (with_reducible repeat (first | apply Kd.R_alloc | apply Kd.R_drewN | apply Kd.R_drew)); exact HO_266001.out) hb); replace HO_312000 := Aside0.mk (Kd.R_below (by (with_reducible repeat (first | apply Kd.R_alloc | apply Kd.R_drewN | apply Kd.R_drew)); exact HO_312000.out) hb); replace HO_312001 := Aside0.mk (Kd.R_below (by (with_reducible repeat (first | apply Kd.R_alloc | apply Kd.R_drewN | apply Kd.R_drew)); exact HO_312001.out) hb); replace BK220 := Aside0.mk (blk_below (g := gb220) (o := .cells #[.slice A0_0 l0_0.length c0_0, .slice A0_1 l0_1.length c0_1] 24 (0, 0)) (by (with_reducible repeat (first | refine blk_drewN ?_ _ | refine blk_drew ?_ | refine blk_alloc ?_ _)); exact BK220.out) hb); replace BK221 := Aside0.mk (blk_below (g := gb221) (o := .cells #[.slice A1_0 l1_0.length c1_0, .slice A1_1 l1_1.length c1_1] 24 (0, 0)) (by (with_reducible repeat (first | refine blk_drewN ?_ _ | refine blk_drew ?_ | refine blk_alloc ?_ _)); exact BK221.out) hb); replace BK243 := Aside0.mk (blk_below (g := gb243) (o := .cells #[.slice Ao43 t236.length co43, .slice Ao45 t239.length co45] 26 (0, 0)) (by (with_reducible repeat (first | refine blk_drewN ?_ _ | refine blk_drew ?_ | refine blk_alloc ?_ _)); exact BK243.out) hb); replace BK250 := Aside0.mk (blk_below (g := gb250) (o := .cells #[.slice Ao51 t282.length co51, .slice Ao56 t283.length co56] 26 (0, 0)) (by (with_reducible repeat (first | refine blk_drewN ?_ _ | refine blk_drew ?_ | refine blk_alloc ?_ _)); exact BK250.out) hb); replace BK257 := Aside0.mk (blk_below (g := gb257) (o := .cells #[.slice Ao61 t285.length co61, .slice Ao67 t286.length co67] 26 (0, 0)) (by (with_reducible repeat (first | refine blk_drewN ?_ _ | refine blk_drew ?_ | refine blk_alloc ?_ _)); exact BK257.out) hb); replace BK265 := Aside0.mk (blk_below (g := gb265) (o := .cells #[.slice Ao71 t289.length co71, .slice Ao78 t290.length co78] 26 (0, 0)) (by (with_reducible repeat (first | refine blk_drewN ?_ _ | refine blk_drew ?_ | refine blk_alloc ?_ _)); exact BK265.out) hb); replace BK311 := Aside0.mk (blk_below (g := gb311) (o := .cells #[.slice Ao202 t304.length co202, .slice Ao204 t307.length co204] 26 (0, 0)) (by (with_reducible repeat (first | refine blk_drewN ?_ _ | refine blk_drew ?_ | refine blk_alloc ?_ _)); exact BK311.out) hb); replace HB := Aside0.mk (below_step (by repeat (first | (with_reducible first | exact HB.out | apply below_alloc | apply pw_below_drewN | apply below_drew1 | refine below_set ?_ GE220.out | refine below_set ?_ GE221.out | refine below_set ?_ GE243.out | refine below_set ?_ GE250.out | refine below_set ?_ GE257.out | refine below_set ?_ GE265.out | refine below_set ?_ GE311.out) | exact HB.out)) hb); (try clear hb); (try clear hb2); (try clear hk); (try clear hi)))
           go_ret
           exact ⟨by first | rfl | (simp [errW_none, errW_some] <;> rfl) | (simp [*, errW_none, errW_some] <;> rfl), by repeat (first | (with_reducible first | exact HB.out | apply below_alloc | apply pw_below_drewN | apply below_drew1 | refine below_set ?_ GE220.out | refine below_set ?_ GE221.out | refine below_set ?_ GE243.out | refine below_set ?_ GE250.out | refine below_set ?_ GE257.out | refine below_set ?_ GE265.out | refine below_set ?_ GE311.out) | exact HB.out)⟩
          ·rw [if_neg c247] at H
           have c247b0 : (t313 == t288) = false := beq_eq_false_iff_ne.mpr c247
           have c247b1 : (t313 != t288) = true := bne_iff_ne.mpr c247
           obtain rfl := Option.some.inj H
           have hnb256 := NB265_220.out
           have hnc256 := NB220_265.out
           have hnb257 := NB265_221.out
           have hnc257 := NB221_265.out
           have hnb258 := NB265_243.out
           have hnc258 := NB243_265.out
           have hnb259 := NB265_250.out
           have hnc259 := NB250_265.out
           have hnb260 := NB265_257.out
           have hnc260 := NB257_265.out
           have hnb261 := NB265_311.out
           have hnc261 := NB311_265.out
           have hcz262_0 : wc.cell? ⟨gb265, 0, none⟩ = some (.slice Ao71 t289.length co71) := (blk_cell BK265.out 0).trans rfl
           have hcz262_1 : wc.cell? ⟨gb265, 1, none⟩ = some (.slice Ao78 t290.length co78) := (blk_cell BK265.out 1).trans rfl
           have hfz262_0 := blk_frozen BK265.out 0
           have hfz262_1 := blk_frozen BK265.out 1
           go_wp2_with (first | ((with_reducible refine gate_callee (f := 10) rfl ?_); refine goesL_ (some 113) rfl rfl Try.func10 (by kernel_rfl) rfl #[.agg #[.slice Ao71 t289.length co71, .slice Ao78 t290.length co78], .int .i64 1] rfl (by (try simp only [List.map_toArray, List.map_cons, List.map_nil]); first | done | rfl | (simp only [List.length_drop, List.length_take]; rfl)) ?_; (with_reducible refine (laws_heldMeander.calls kj181 _ _ t289 _ _ t290 1 t313 _ ?side1 ?side2 ?side3 ?side4 A237.out).mono ?_); (case side1 => repeat (first | exact (Kd.R_reads' HO_266000.out).2.2 | (with_reducible refine Kd.C_alloc ?_ _) | (with_reducible refine Kd.C_drewN ?_ _) | (with_reducible refine Kd.C_drew ?_))); (case side2 => exact (Kd.R_reads' HO_266000.out).2.1); (case side3 => repeat (first | exact (Kd.R_reads' HO_266001.out).2.2 | (with_reducible refine Kd.C_alloc ?_ _) | (with_reducible refine Kd.C_drewN ?_ _) | (with_reducible refine Kd.C_drew ?_))); (case side4 => exact (Kd.R_reads' HO_266001.out).2.1); rintro e w263 ⟨rfl, hb⟩; refine ⟨_, rfl, ?_⟩; replace HO_244000 := Aside0.mk (Kd.R_below (by (with_reducible repeat (first | apply Kd.R_alloc | apply Kd.R_drewN | apply Kd.R_drew)); exact HO_244000.out) hb); replace HO_244001 := Aside0.mk (Kd.R_below (by (with_reducible repeat (first | apply Kd.R_alloc | apply Kd.R_drewN | apply Kd.R_drew)); exact HO_244001.out) hb); replace HO_251000 := Aside0.mk (Kd.R_below (by (with_reducible repeat (first | apply Kd.R_alloc | apply Kd.R_drewN | apply Kd.R_drew)); exact HO_251000.out) hb); replace HO_251001 := Aside0.mk (Kd.R_below (by (with_reducible repeat (first | apply Kd.R_alloc | apply Kd.R_drewN | apply Kd.R_drew)); exact HO_251001.out) hb); replace HO_258000 := Aside0.mk (Kd.R_below (by (with_reducible repeat (first | apply Kd.R_alloc | apply Kd.R_drewN | apply Kd.R_drew)); exact HO_258000.out) hb); replace HO_258001 := Aside0.mk (Kd.R_below (by (with_reducible repeat (first | apply Kd.R_alloc | apply Kd.R_drewN | apply Kd.R_drew)); exact HO_258001.out) hb); replace HO_266000 := Aside0.mk (Kd.R_below (by (with_reducible repeat (first | apply Kd.R_alloc | apply Kd.R_drewN | apply Kd.R_drew)); exact HO_266000.out) hb); replace HO_266001 := Aside0.mk (Kd.R_below (by (with_reducible repeat (first | apply Kd.R_alloc | apply Kd.R_drewN | apply Kd.R_drew)); exact HO_266001.out) hb); replace HO_312000 := Aside0.mk (Kd.R_below (by (with_reducible repeat (first | apply Kd.R_alloc | apply Kd.R_drewN | apply Kd.R_drew)); exact HO_312000.out) hb); replace HO_312001 := Aside0.mk (Kd.R_below (by (with_reducible repeat (first | apply Kd.R_alloc | apply Kd.R_drewN | apply Kd.R_drew)); exact HO_312001.out) hb); replace BK220 := Aside0.mk (blk_below (g := gb220) (o := .cells #[.slice A0_0 l0_0.length c0_0, .slice A0_1 l0_1.length c0_1] 24 (0, 0)) (by (with_reducible repeat (first | refine blk_drewN ?_ _ | refine blk_drew ?_ | refine blk_alloc ?_ _)); exact BK220.out) hb); replace BK221 := Aside0.mk (blk_below (g := gb221) (o := .cells #[.slice A1_0 l1_0.length c1_0, .slice A1_1 l1_1.length c1_1] 24 (0, 0)) (by (with_reducible repeat (first | refine blk_drewN ?_ _ | refine blk_drew ?_ | refine blk_alloc ?_ _)); exact BK221.out) hb); replace BK243 := Aside0.mk (blk_below (g := gb243) (o := .cells #[.slice Ao43 t236.length co43, .slice Ao45 t239.length co45] 26 (0, 0)) (by (with_reducible repeat (first | refine blk_drewN ?_ _ | refine blk_drew ?_ | refine blk_alloc ?_ _)); exact BK243.out) hb); replace BK250 := Aside0.mk (blk_below (g := gb250) (o := .cells #[.slice Ao51 t282.length co51, .slice Ao56 t283.length co56] 26 (0, 0)) (by (with_reducible repeat (first | refine blk_drewN ?_ _ | refine blk_drew ?_ | refine blk_alloc ?_ _)); exact BK250.out) hb); replace BK257 := Aside0.mk (blk_below (g := gb257) (o := .cells #[.slice Ao61 t285.length co61, .slice Ao67 t286.length co67] 26 (0, 0)) (by (with_reducible repeat (first | refine blk_drewN ?_ _ | refine blk_drew ?_ | refine blk_alloc ?_ _)); exact BK257.out) hb); replace BK265 := Aside0.mk (blk_below (g := gb265) (o := .cells #[.slice Ao71 t289.length co71, .slice Ao78 t290.length co78] 26 (0, 0)) (by (with_reducible repeat (first | refine blk_drewN ?_ _ | refine blk_drew ?_ | refine blk_alloc ?_ _)); exact BK265.out) hb); replace BK311 := Aside0.mk (blk_below (g := gb311) (o := .cells #[.slice Ao202 t304.length co202, .slice Ao204 t307.length co204] 26 (0, 0)) (by (with_reducible repeat (first | refine blk_drewN ?_ _ | refine blk_drew ?_ | refine blk_alloc ?_ _)); exact BK311.out) hb); replace HB := Aside0.mk (below_step (by repeat (first | (with_reducible first | exact HB.out | apply below_alloc | apply pw_below_drewN | apply below_drew1 | refine below_set ?_ GE220.out | refine below_set ?_ GE221.out | refine below_set ?_ GE243.out | refine below_set ?_ GE250.out | refine below_set ?_ GE257.out | refine below_set ?_ GE265.out | refine below_set ?_ GE311.out) | exact HB.out)) hb); (try clear hb); (try clear hb2); (try clear hk); (try clear hi)))
           go_ret
           exact ⟨by first | rfl | (simp [errW_none, errW_some] <;> rfl) | (simp [*, errW_none, errW_some] <;> rfl), by repeat (first | (with_reducible first | exact HB.out | apply below_alloc | apply pw_below_drewN | apply below_drew1 | refine below_set ?_ GE220.out | refine below_set ?_ GE221.out | refine below_set ?_ GE243.out | refine below_set ?_ GE250.out | refine below_set ?_ GE257.out | refine below_set ?_ GE265.out | refine below_set ?_ GE311.out) | exact HB.out)⟩
     ·rw [if_neg c178] at H
      have c178b0 : (t291 == t288) = false := beq_eq_false_iff_ne.mpr c178
      have c178b1 : (t291 != t288) = true := bne_iff_ne.mpr c178
      obtain rfl := Option.some.inj H
      have hnb264 := NB265_220.out
      have hnc264 := NB220_265.out
      have hnb265 := NB265_221.out
      have hnc265 := NB221_265.out
      have hnb266 := NB265_243.out
      have hnc266 := NB243_265.out
      have hnb267 := NB265_250.out
      have hnc267 := NB250_265.out
      have hnb268 := NB265_257.out
      have hnc268 := NB257_265.out
      have hcz269_0 : wc.cell? ⟨gb265, 0, none⟩ = some (.slice Ao71 t258.length co71) := (blk_cell BK265.out 0).trans rfl
      have hcz269_1 : wc.cell? ⟨gb265, 1, none⟩ = some (.slice Ao78 t261.length co78) := (blk_cell BK265.out 1).trans rfl
      have hfz269_0 := blk_frozen BK265.out 0
      have hfz269_1 := blk_frozen BK265.out 1
      go_wp2_with (first | ((with_reducible refine gate_callee (f := 9) rfl ?_); refine goesL_ (some 85) rfl rfl Try.func9 (by kernel_rfl) rfl #[.agg #[.slice Ao71 t258.length co71, .slice Ao78 t261.length co78], .int .i64 1] rfl (by (try simp only [List.map_toArray, List.map_cons, List.map_nil]); first | done | rfl | (simp only [List.length_drop, List.length_take]; rfl)) ?_; (with_reducible refine (laws_markMeander.calls kj113 (fun k_ => some k_ = (.slice Ao71 t258.length co71 : Value).ownBlock) (.slice Ao71 t258.length co71) t258 (fun k_ => some k_ = (.slice Ao78 t261.length co78 : Value).ownBlock) (.slice Ao78 t261.length co78) t261 1 t288 t289 t290 w _ ?side1 ?side2 ?side3 ?side4 ?side5 A166.out).mono ?_); (case side1 => repeat (first | (with_reducible first | exact HB.out | apply below_alloc | apply pw_below_drewN | apply below_drew1 | refine below_set ?_ GE220.out | refine below_set ?_ GE221.out | refine below_set ?_ GE243.out | refine below_set ?_ GE250.out | refine below_set ?_ GE257.out | refine below_set ?_ GE265.out) | exact HB.out)); (case side2 => exact Kd.R_tight rfl HO_266000.out); (case side3 => exact fun k_ e_ => (HO_266000.out.1 k_ e_.symm).2.2.2.2.2.2); (case side4 => exact Kd.R_tight rfl HO_266001.out); (case side5 => exact fun k_ e_ => (HO_266001.out.1 k_ e_.symm).2.2.2.2.2.2); rintro e w270 ⟨rfl, hy0, hy1, hb, hkp⟩; refine ⟨_, rfl, ?_⟩; replace HO_244000 := Aside0.mk (Kd.R_mono (ok' := fun k_ => some k_ ≠ (.slice Ao45 t239.length co45 : Value).ownBlock ∧ some k_ ≠ (.slice Ao51 t282.length co51 : Value).ownBlock ∧ some k_ ≠ (.slice Ao56 t283.length co56 : Value).ownBlock ∧ some k_ ≠ (.slice Ao61 t285.length co61 : Value).ownBlock ∧ some k_ ≠ (.slice Ao67 t286.length co67 : Value).ownBlock ∧ some k_ ≠ (.slice Ao71 t258.length co71 : Value).ownBlock ∧ some k_ ≠ (.slice Ao78 t261.length co78 : Value).ownBlock) (Kd.R_keptB (HO_244000.out) hkp (fun k_ hk_ hs_ => Or.elim hs_ (fun e_ => (hk_.2.2.2.2.2.1) e_) (fun e_ => (hk_.2.2.2.2.2.2) e_))) (fun k_ hk_ => ⟨hk_.1.1, hk_.1.2.1, hk_.1.2.2.1, hk_.1.2.2.2.1, hk_.1.2.2.2.2.1, hk_.1.2.2.2.2.2.1, hk_.1.2.2.2.2.2.2⟩)); replace HO_244001 := Aside0.mk (Kd.R_mono (ok' := fun k_ => some k_ ≠ (.slice Ao43 t236.length co43 : Value).ownBlock ∧ some k_ ≠ (.slice Ao51 t282.length co51 : Value).ownBlock ∧ some k_ ≠ (.slice Ao56 t283.length co56 : Value).ownBlock ∧ some k_ ≠ (.slice Ao61 t285.length co61 : Value).ownBlock ∧ some k_ ≠ (.slice Ao67 t286.length co67 : Value).ownBlock ∧ some k_ ≠ (.slice Ao71 t258.length co71 : Value).ownBlock ∧ some k_ ≠ (.slice Ao78 t261.length co78 : Value).ownBlock) (Kd.R_keptB (HO_244001.out) hkp (fun k_ hk_ hs_ => Or.elim hs_ (fun e_ => (hk_.2.2.2.2.2.1) e_) (fun e_ => (hk_.2.2.2.2.2.2) e_))) (fun k_ hk_ => ⟨hk_.1.1, hk_.1.2.1, hk_.1.2.2.1, hk_.1.2.2.2.1, hk_.1.2.2.2.2.1, hk_.1.2.2.2.2.2.1, hk_.1.2.2.2.2.2.2⟩)); replace HO_251000 := Aside0.mk (Kd.R_mono (ok' := fun k_ => some k_ ≠ (.slice Ao43 t236.length co43 : Value).ownBlock ∧ some k_ ≠ (.slice Ao45 t239.length co45 : Value).ownBlock ∧ some k_ ≠ (.slice Ao56 t283.length co56 : Value).ownBlock ∧ some k_ ≠ (.slice Ao61 t285.length co61 : Value).ownBlock ∧ some k_ ≠ (.slice Ao67 t286.length co67 : Value).ownBlock ∧ some k_ ≠ (.slice Ao71 t258.length co71 : Value).ownBlock ∧ some k_ ≠ (.slice Ao78 t261.length co78 : Value).ownBlock) (Kd.R_keptB (HO_251000.out) hkp (fun k_ hk_ hs_ => Or.elim hs_ (fun e_ => (hk_.2.2.2.2.2.1) e_) (fun e_ => (hk_.2.2.2.2.2.2) e_))) (fun k_ hk_ => ⟨hk_.1.1, hk_.1.2.1, hk_.1.2.2.1, hk_.1.2.2.2.1, hk_.1.2.2.2.2.1, hk_.1.2.2.2.2.2.1, hk_.1.2.2.2.2.2.2⟩)); replace HO_251001 := Aside0.mk (Kd.R_mono (ok' := fun k_ => some k_ ≠ (.slice Ao43 t236.length co43 : Value).ownBlock ∧ some k_ ≠ (.slice Ao45 t239.length co45 : Value).ownBlock ∧ some k_ ≠ (.slice Ao51 t282.length co51 : Value).ownBlock ∧ some k_ ≠ (.slice Ao61 t285.length co61 : Value).ownBlock ∧ some k_ ≠ (.slice Ao67 t286.length co67 : Value).ownBlock ∧ some k_ ≠ (.slice Ao71 t258.length co71 : Value).ownBlock ∧ some k_ ≠ (.slice Ao78 t261.length co78 : Value).ownBlock) (Kd.R_keptB (HO_251001.out) hkp (fun k_ hk_ hs_ => Or.elim hs_ (fun e_ => (hk_.2.2.2.2.2.1) e_) (fun e_ => (hk_.2.2.2.2.2.2) e_))) (fun k_ hk_ => ⟨hk_.1.1, hk_.1.2.1, hk_.1.2.2.1, hk_.1.2.2.2.1, hk_.1.2.2.2.2.1, hk_.1.2.2.2.2.2.1, hk_.1.2.2.2.2.2.2⟩)); replace HO_258000 := Aside0.mk (Kd.R_mono (ok' := fun k_ => some k_ ≠ (.slice Ao43 t236.length co43 : Value).ownBlock ∧ some k_ ≠ (.slice Ao45 t239.length co45 : Value).ownBlock ∧ some k_ ≠ (.slice Ao51 t282.length co51 : Value).ownBlock ∧ some k_ ≠ (.slice Ao56 t283.length co56 : Value).ownBlock ∧ some k_ ≠ (.slice Ao67 t286.length co67 : Value).ownBlock ∧ some k_ ≠ (.slice Ao71 t258.length co71 : Value).ownBlock ∧ some k_ ≠ (.slice Ao78 t261.length co78 : Value).ownBlock) (Kd.R_keptB (HO_258000.out) hkp (fun k_ hk_ hs_ => Or.elim hs_ (fun e_ => (hk_.2.2.2.2.2.1) e_) (fun e_ => (hk_.2.2.2.2.2.2) e_))) (fun k_ hk_ => ⟨hk_.1.1, hk_.1.2.1, hk_.1.2.2.1, hk_.1.2.2.2.1, hk_.1.2.2.2.2.1, hk_.1.2.2.2.2.2.1, hk_.1.2.2.2.2.2.2⟩)); replace HO_258001 := Aside0.mk (Kd.R_mono (ok' := fun k_ => some k_ ≠ (.slice Ao43 t236.length co43 : Value).ownBlock ∧ some k_ ≠ (.slice Ao45 t239.length co45 : Value).ownBlock ∧ some k_ ≠ (.slice Ao51 t282.length co51 : Value).ownBlock ∧ some k_ ≠ (.slice Ao56 t283.length co56 : Value).ownBlock ∧ some k_ ≠ (.slice Ao61 t285.length co61 : Value).ownBlock ∧ some k_ ≠ (.slice Ao71 t258.length co71 : Value).ownBlock ∧ some k_ ≠ (.slice Ao78 t261.length co78 : Value).ownBlock) (Kd.R_keptB (HO_258001.out) hkp (fun k_ hk_ hs_ => Or.elim hs_ (fun e_ => (hk_.2.2.2.2.2.1) e_) (fun e_ => (hk_.2.2.2.2.2.2) e_))) (fun k_ hk_ => ⟨hk_.1.1, hk_.1.2.1, hk_.1.2.2.1, hk_.1.2.2.2.1, hk_.1.2.2.2.2.1, hk_.1.2.2.2.2.2.1, hk_.1.2.2.2.2.2.2⟩)); replace BK220 := Aside0.mk (blk_kept (by (with_reducible repeat (first | refine blk_drewN ?_ _ | refine blk_drew ?_ | refine blk_alloc ?_ _)); exact BK220.out) hkp (fun hs_ => Or.elim hs_ (fun e_ => (fun e_ => (Kd.R_ne HO_266000.out BK220.out (by decide)) e_) e_) (fun e_ => (fun e_ => (Kd.R_ne HO_266001.out BK220.out (by decide)) e_) e_))); replace BK221 := Aside0.mk (blk_kept (by (with_reducible repeat (first | refine blk_drewN ?_ _ | refine blk_drew ?_ | refine blk_alloc ?_ _)); exact BK221.out) hkp (fun hs_ => Or.elim hs_ (fun e_ => (fun e_ => (Kd.R_ne HO_266000.out BK221.out (by decide)) e_) e_) (fun e_ => (fun e_ => (Kd.R_ne HO_266001.out BK221.out (by decide)) e_) e_))); replace BK243 := Aside0.mk (blk_kept (by (with_reducible repeat (first | refine blk_drewN ?_ _ | refine blk_drew ?_ | refine blk_alloc ?_ _)); exact BK243.out) hkp (fun hs_ => Or.elim hs_ (fun e_ => (fun e_ => (Kd.R_ne HO_266000.out BK243.out (by decide)) e_) e_) (fun e_ => (fun e_ => (Kd.R_ne HO_266001.out BK243.out (by decide)) e_) e_))); replace BK250 := Aside0.mk (blk_kept (by (with_reducible repeat (first | refine blk_drewN ?_ _ | refine blk_drew ?_ | refine blk_alloc ?_ _)); exact BK250.out) hkp (fun hs_ => Or.elim hs_ (fun e_ => (fun e_ => (Kd.R_ne HO_266000.out BK250.out (by decide)) e_) e_) (fun e_ => (fun e_ => (Kd.R_ne HO_266001.out BK250.out (by decide)) e_) e_))); replace BK257 := Aside0.mk (blk_kept (by (with_reducible repeat (first | refine blk_drewN ?_ _ | refine blk_drew ?_ | refine blk_alloc ?_ _)); exact BK257.out) hkp (fun hs_ => Or.elim hs_ (fun e_ => (fun e_ => (Kd.R_ne HO_266000.out BK257.out (by decide)) e_) e_) (fun e_ => (fun e_ => (Kd.R_ne HO_266001.out BK257.out (by decide)) e_) e_))); replace BK265 := Aside0.mk (blk_kept (by (with_reducible repeat (first | refine blk_drewN ?_ _ | refine blk_drew ?_ | refine blk_alloc ?_ _)); exact BK265.out) hkp (fun hs_ => Or.elim hs_ (fun e_ => (fun e_ => (Kd.R_ne HO_266000.out BK265.out (by decide)) e_) e_) (fun e_ => (fun e_ => (Kd.R_ne HO_266001.out BK265.out (by decide)) e_) e_))); replace HO_266000 := Aside0.mk (Kd.R_reok rfl hy0 (fun k_ e_ => HO_266000.out.1 k_ e_)); replace HO_266001 := Aside0.mk (Kd.R_reok rfl hy1 (fun k_ e_ => HO_266001.out.1 k_ e_)); replace HB := Aside0.mk (hb); (try clear hb); (try clear hkp); (try clear hy0); (try clear hy1); have hcz271_0 : w270.cell? ⟨gb265, 0, none⟩ = some (.slice Ao71 t258.length co71) := (blk_cell BK265.out 0).trans rfl; have hcz271_1 : w270.cell? ⟨gb265, 1, none⟩ = some (.slice Ao78 t261.length co78) := (blk_cell BK265.out 1).trans rfl; have hfz271_0 := blk_frozen BK265.out 0; have hfz271_1 := blk_frozen BK265.out 1) | ((with_reducible refine gate_callee (f := 10) rfl ?_); refine goesL_ (some 88) rfl rfl Try.func10 (by kernel_rfl) rfl #[.agg #[.slice Ao71 t289.length co71, .slice Ao78 t290.length co78], .int .i64 1] rfl (by (try simp only [List.map_toArray, List.map_cons, List.map_nil]); first | done | (rw [show t289.length = t258.length from (Kd.R_reads' HO_266000.out).1.symm, show t290.length = t261.length from (Kd.R_reads' HO_266001.out).1.symm] <;> rfl) | rfl | (simp only [List.length_drop, List.length_take]; rfl)) ?_; (with_reducible refine (laws_heldMeander.calls kj113 _ _ t289 _ _ t290 1 t291 _ ?side1 ?side2 ?side3 ?side4 A167.out).mono ?_); (case side1 => repeat (first | exact (Kd.R_reads' HO_266000.out).2.2 | (with_reducible refine Kd.C_alloc ?_ _) | (with_reducible refine Kd.C_drewN ?_ _) | (with_reducible refine Kd.C_drew ?_))); (case side2 => rw [show t289.length = t258.length from (Kd.R_reads' HO_266000.out).1.symm]; exact (Kd.R_reads' HO_266000.out).2.1); (case side3 => repeat (first | exact (Kd.R_reads' HO_266001.out).2.2 | (with_reducible refine Kd.C_alloc ?_ _) | (with_reducible refine Kd.C_drewN ?_ _) | (with_reducible refine Kd.C_drew ?_))); (case side4 => rw [show t290.length = t261.length from (Kd.R_reads' HO_266001.out).1.symm]; exact (Kd.R_reads' HO_266001.out).2.1); rintro e w272 ⟨rfl, hb⟩; refine ⟨_, rfl, ?_⟩; replace HO_244000 := Aside0.mk (Kd.R_below (by (with_reducible repeat (first | apply Kd.R_alloc | apply Kd.R_drewN | apply Kd.R_drew)); exact HO_244000.out) hb); replace HO_244001 := Aside0.mk (Kd.R_below (by (with_reducible repeat (first | apply Kd.R_alloc | apply Kd.R_drewN | apply Kd.R_drew)); exact HO_244001.out) hb); replace HO_251000 := Aside0.mk (Kd.R_below (by (with_reducible repeat (first | apply Kd.R_alloc | apply Kd.R_drewN | apply Kd.R_drew)); exact HO_251000.out) hb); replace HO_251001 := Aside0.mk (Kd.R_below (by (with_reducible repeat (first | apply Kd.R_alloc | apply Kd.R_drewN | apply Kd.R_drew)); exact HO_251001.out) hb); replace HO_258000 := Aside0.mk (Kd.R_below (by (with_reducible repeat (first | apply Kd.R_alloc | apply Kd.R_drewN | apply Kd.R_drew)); exact HO_258000.out) hb); replace HO_258001 := Aside0.mk (Kd.R_below (by (with_reducible repeat (first | apply Kd.R_alloc | apply Kd.R_drewN | apply Kd.R_drew)); exact HO_258001.out) hb); replace HO_266000 := Aside0.mk (Kd.R_below (by (with_reducible repeat (first | apply Kd.R_alloc | apply Kd.R_drewN | apply Kd.R_drew)); exact HO_266000.out) hb); replace HO_266001 := Aside0.mk (Kd.R_below (by (with_reducible repeat (first | apply Kd.R_alloc | apply Kd.R_drewN | apply Kd.R_drew)); exact HO_266001.out) hb); replace BK220 := Aside0.mk (blk_below (g := gb220) (o := .cells #[.slice A0_0 l0_0.length c0_0, .slice A0_1 l0_1.length c0_1] 24 (0, 0)) (by (with_reducible repeat (first | refine blk_drewN ?_ _ | refine blk_drew ?_ | refine blk_alloc ?_ _)); exact BK220.out) hb); replace BK221 := Aside0.mk (blk_below (g := gb221) (o := .cells #[.slice A1_0 l1_0.length c1_0, .slice A1_1 l1_1.length c1_1] 24 (0, 0)) (by (with_reducible repeat (first | refine blk_drewN ?_ _ | refine blk_drew ?_ | refine blk_alloc ?_ _)); exact BK221.out) hb); replace BK243 := Aside0.mk (blk_below (g := gb243) (o := .cells #[.slice Ao43 t236.length co43, .slice Ao45 t239.length co45] 26 (0, 0)) (by (with_reducible repeat (first | refine blk_drewN ?_ _ | refine blk_drew ?_ | refine blk_alloc ?_ _)); exact BK243.out) hb); replace BK250 := Aside0.mk (blk_below (g := gb250) (o := .cells #[.slice Ao51 t282.length co51, .slice Ao56 t283.length co56] 26 (0, 0)) (by (with_reducible repeat (first | refine blk_drewN ?_ _ | refine blk_drew ?_ | refine blk_alloc ?_ _)); exact BK250.out) hb); replace BK257 := Aside0.mk (blk_below (g := gb257) (o := .cells #[.slice Ao61 t285.length co61, .slice Ao67 t286.length co67] 26 (0, 0)) (by (with_reducible repeat (first | refine blk_drewN ?_ _ | refine blk_drew ?_ | refine blk_alloc ?_ _)); exact BK257.out) hb); replace BK265 := Aside0.mk (blk_below (g := gb265) (o := .cells #[.slice Ao71 t258.length co71, .slice Ao78 t261.length co78] 26 (0, 0)) (by (with_reducible repeat (first | refine blk_drewN ?_ _ | refine blk_drew ?_ | refine blk_alloc ?_ _)); exact BK265.out) hb); replace HB := Aside0.mk (below_step (by repeat (first | (with_reducible first | exact HB.out | apply below_alloc | apply pw_below_drewN | apply below_drew1 | refine below_set ?_ GE220.out | refine below_set ?_ GE221.out | refine below_set ?_ GE243.out | refine below_set ?_ GE250.out | refine below_set ?_ GE257.out | refine below_set ?_ GE265.out) | exact HB.out)) hb); (try clear hb); (try clear hb2); (try clear hk); (try clear hi)))
      go_ret
      exact ⟨by first | rfl | (simp [errW_none, errW_some] <;> rfl) | (simp [*, errW_none, errW_some] <;> rfl), by repeat (first | (with_reducible first | exact HB.out | apply below_alloc | apply pw_below_drewN | apply below_drew1 | refine below_set ?_ GE220.out | refine below_set ?_ GE221.out | refine below_set ?_ GE243.out | refine below_set ?_ GE250.out | refine below_set ?_ GE257.out | refine below_set ?_ GE265.out) | exact HB.out)⟩

end Go.Proofs.Ytakdhnhncmkigaa.QFnExactJoinMeanders
