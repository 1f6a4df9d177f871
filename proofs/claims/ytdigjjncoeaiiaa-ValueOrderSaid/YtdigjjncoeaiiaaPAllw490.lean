/- Printed by a program of this session (wip/gprint.py) over the translation, cut to what is named (wip/dcut.py). Not trusted: Lean checks it. -/
import Derived.Test.YtdigjjncoeaiiaaPAlld0
import Derived.Test.YtdigjjncoeaiiaaPAllw23
import Derived.Test.YtdigjjncoeaiiaaPAllw30
import Derived.Test.YtdigjjncoeaiiaaPAllw31
import Derived.Test.YtdigjjncoeaiiaaPAllw33
import Derived.Test.YtdigjjncoeaiiaaPAllw491
namespace Go.Proofs.Ytdigjjncoeaiiaa.PAll
open Go.RowKit Go.Proofs.YtdigjjncoeaiiaaW.PrintWords Go.Proofs.YtdigjjncoeaiiaaW.PrintLast Go.Proofs.YtdigjjncoeaiiaaW.PrintMore
attribute [local go_sem] max2_int min2_int max_two min_two max_three min_three max_four min_four -- for this text's walks alone
set_option linter.unusedVariables false
set_option linter.unusedSimpArgs false
set_option maxHeartbeats 8000000 in
set_option maxRecDepth 100000 in
theorem formelaw14_ValueOrder.calls_b {k : Nat} {a0_0 : Int} {a0_1 : Int} {A0_2 : Option Addr} {c0_2 : Nat} {l0_2 : List S24} {a1_0 : Int} {a1_1 : Int} {A1_2 : Option Addr} {c1_2 : Nat} {l1_2 : List S24} {a2 : Int} {a3 : Int} {a4_0 : Int} {a4_1 : Int} {a4_2 : Int} {a4_3 : Int} {a4_4 : Int} {a4_5 : Int} {a4_6 : Int} {a4_7 : Int} {r : Bool} {w : World} (hu24 : Try.prog.underlying 24 = some (TypeDesc.struct #[{ name := "Op", type := 3, offset := 0, embedded := false, tag := "", pkgPath := "", byteOffset := 0 }, { name := "N", type := 3, offset := 1, embedded := false, tag := "", pkgPath := "", byteOffset := 8 }, { name := "Kids", type := 22, offset := 2, embedded := false, tag := "", pkgPath := "", byteOffset := 16 }])) (hu25 : Try.prog.underlying 25 = some (TypeDesc.array 8 3)) (HR0_2 : Aside0 (k24.C w A0_2 l0_2.length l0_2)) (HC0_2 : Aside0 (l0_2.length ≤ c0_2)) (HR1_2 : Aside0 (k24.C w A1_2 l1_2.length l1_2)) (HC1_2 : Aside0 (l1_2.length ≤ c1_2)) {t331 : Bool} {t332 : Int} {t333 : Int} {t334 : List S24} {t337 : Int} {t338 : Int} {t339 : List S24} {t344 : Int} {t345 : Int} {t346 : List S24} (A9 : Aside0 (formelaw14_two.f 5 t332 t333 t334 t337 t338 t339 = some (t344, t345, t346))) {t349 : Int} {t350 : Int} {t351 : List S24} (A10 : Aside0 (formelaw14_two.f 5 a0_0 a0_1 l0_2 a1_0 a1_1 l1_2 = some (t349, t350, t351))) {t356 : Int} {t357 : Int} {t358 : List S24} (A11 : Aside0 (formelaw14_two.f 6 t337 t338 t339 t332 t333 t334 = some (t356, t357, t358))) (HC12 : Aside0 (((formeref14_Valid.f k t344 t345 t346).bind fun t362 => if t362 = true then (formeref14_Valid.f k t356 t357 t358).bind fun t363 => j0 k a2 a3 t331 (!t363) a4_0 a4_1 a4_2 a4_3 a4_4 a4_5 a4_6 a4_7 t344 t345 t346 t349 t350 t351 t356 t357 t358 else j0 k a2 a3 t331 true a4_0 a4_1 a4_2 a4_3 a4_4 a4_5 a4_6 a4_7 t344 t345 t346 t349 t350 t351 t356 t357 t358) = some r)) {gb328 : Nat} (GW328 : Aside0 (w.heap.size ≤ gb328)) {gb329 : Nat} (GW329 : Aside0 (w.heap.size ≤ gb329)) {gb330 : Nat} (GW330 : Aside0 (w.heap.size ≤ gb330)) (NB328_330 : Aside0 (gb328 ≠ gb330)) (NB330_328 : Aside0 (gb330 ≠ gb328)) (NB329_330 : Aside0 (gb329 ≠ gb330)) (NB330_329 : Aside0 (gb330 ≠ gb329)) (HT_ : Aside0 (rtab Region.Mode.any #[{ dst := some 24, op := Op.load 24 (Operand.tmp 5), type := 24, pos := "law.go:175", after := #[], guard := none }, { dst := some 25, op := Op.load 24 (Operand.tmp 6), type := 24, pos := "law.go:175", after := #[], guard := none }, { dst := some 26, op := Op.call { callee := Callee.value (Operand.func 22), args := #[Operand.const (Value.int IntKind.i64 9), Operand.tmp 24, Operand.tmp 25], argTypes := #[3, 24, 24] }, type := 24, pos := "law.go:175", after := #[{ on := 0, ground := Ground.data }, { on := 1, ground := Ground.data }], guard := none }, { dst := some 27, op := Op.load 24 (Operand.tmp 5), type := 24, pos := "law.go:175", after := #[], guard := none }, { dst := some 28, op := Op.load 24 (Operand.tmp 6), type := 24, pos := "law.go:175", after := #[], guard := none }, { dst := some 29, op := Op.call { callee := Callee.value (Operand.func 22), args := #[Operand.const (Value.int IntKind.i64 10), Operand.tmp 27, Operand.tmp 28], argTypes := #[3, 24, 24] }, type := 24, pos := "law.go:175", after := #[{ on := 3, ground := Ground.data }, { on := 4, ground := Ground.data }, { on := 2, ground := Ground.chain }], guard := none }, { dst := some 12, op := Op.alloc 24, type := 0, pos := "law.go:175", after := #[], guard := none }, { dst := some 13, op := Op.alloc 24, type := 0, pos := "law.go:175", after := #[], guard := none }, { dst := none, op := Op.store 24 (Operand.tmp 12) (Operand.tmp 26), type := 0, pos := "law.go:175", after := #[{ on := 6, ground := Ground.data }, { on := 2, ground := Ground.data }, { on := 5, ground := Ground.chain }, { on := 0, ground := Ground.phase }, { on := 1, ground := Ground.phase }, { on := 2, ground := Ground.phase }, { on := 3, ground := Ground.textOnly Departure.lateStores }, { on := 4, ground := Ground.textOnly Departure.lateStores }, { on := 5, ground := Ground.textOnly Departure.lateStoresUnsure }, { on := 6, ground := Ground.phase }, { on := 7, ground := Ground.phase }], guard := none }, { dst := none, op := Op.store 24 (Operand.tmp 13) (Operand.tmp 29), type := 0, pos := "law.go:175", after := #[{ on := 7, ground := Ground.data }, { on := 5, ground := Ground.data }, { on := 8, ground := Ground.chain }, { on := 0, ground := Ground.phase }, { on := 1, ground := Ground.phase }, { on := 2, ground := Ground.phase }, { on := 3, ground := Ground.phase }, { on := 4, ground := Ground.phase }, { on := 5, ground := Ground.phase }, { on := 6, ground := Ground.phase }, { on := 7, ground := Ground.phase }, { on := 8, ground := Ground.phase }], guard := none }] = T2)) (HW_ : Aside0 (waitsOk T2.snd B2 = true)) {gb342 : Nat} {gb343 : Nat} {w22 : World} (hS_ : w22.cell? { block := gb328, off := 0 } = some (Value.int IntKind.i64 a0_0) ∧ w22.cell? { block := gb328, off := 1 } = some (Value.int IntKind.i64 a0_1) ∧ w22.cell? { block := gb328, off := 2 } = some (Value.slice A0_2 l0_2.length c0_2) ∧ w22.cell? { block := gb329, off := 0 } = some (Value.int IntKind.i64 a1_0) ∧ w22.cell? { block := gb329, off := 1 } = some (Value.int IntKind.i64 a1_1) ∧ w22.cell? { block := gb329, off := 2 } = some (Value.slice A1_2 l1_2.length c1_2)) (GW342 : Aside0 (w.heap.size ≤ gb342)) (NB328_342 : Aside0 (gb328 ≠ gb342)) (NB342_328 : Aside0 (gb342 ≠ gb328)) (NB329_342 : Aside0 (gb329 ≠ gb342)) (NB342_329 : Aside0 (gb342 ≠ gb329)) (NB330_342 : Aside0 (gb330 ≠ gb342)) (NB342_330 : Aside0 (gb342 ≠ gb330)) (NB343_342 : Aside0 (gb343 ≠ gb342)) (NB342_343 : Aside0 (gb342 ≠ gb343)) (GW343 : Aside0 (w.heap.size ≤ gb343)) (NB328_343 : Aside0 (gb328 ≠ gb343)) (NB343_328 : Aside0 (gb343 ≠ gb328)) (NB329_343 : Aside0 (gb329 ≠ gb343)) (NB343_329 : Aside0 (gb343 ≠ gb329)) (NB330_343 : Aside0 (gb330 ≠ gb343)) (NB343_330 : Aside0 (gb343 ≠ gb330)) {Ao25 : Option Addr} {co25 : Nat} {Ao29 : Option Addr} {co29 : Nat} (hns23_0 : gb328 ≠ gb342) (hns23_1 : gb329 ≠ gb342) (hns23_2 : gb330 ≠ gb342) (hns23_4 : gb343 ≠ gb342) (hms23_0 : gb342 ≠ gb328) (hms23_1 : gb342 ≠ gb329) (hms23_2 : gb342 ≠ gb330) (hms23_4 : gb342 ≠ gb343) (hns24_0 : gb328 ≠ gb342) (hns24_1 : gb329 ≠ gb342) (hns24_2 : gb330 ≠ gb342) (hns24_4 : gb343 ≠ gb342) (hms24_0 : gb342 ≠ gb328) (hms24_1 : gb342 ≠ gb329) (hms24_2 : gb342 ≠ gb330) (hms24_4 : gb342 ≠ gb343) (hns26_0 : gb328 ≠ gb342) (hns26_1 : gb329 ≠ gb342) (hns26_2 : gb330 ≠ gb342) (hns26_4 : gb343 ≠ gb342) (hms26_0 : gb342 ≠ gb328) (hms26_1 : gb342 ≠ gb329) (hms26_2 : gb342 ≠ gb330) (hms26_4 : gb342 ≠ gb343) (hns27_0 : gb328 ≠ gb343) (hns27_1 : gb329 ≠ gb343) (hns27_2 : gb330 ≠ gb343) (hns27_3 : gb342 ≠ gb343) (hms27_0 : gb343 ≠ gb328) (hms27_1 : gb343 ≠ gb329) (hms27_2 : gb343 ≠ gb330) (hms27_3 : gb343 ≠ gb342) (hns28_0 : gb328 ≠ gb343) (hns28_1 : gb329 ≠ gb343) (hns28_2 : gb330 ≠ gb343) (hns28_3 : gb342 ≠ gb343) (hms28_0 : gb343 ≠ gb328) (hms28_1 : gb343 ≠ gb329) (hms28_2 : gb343 ≠ gb330) (hms28_3 : gb343 ≠ gb342) (hns30_0 : gb328 ≠ gb343) (hns30_1 : gb329 ≠ gb343) (hns30_2 : gb330 ≠ gb343) (hns30_3 : gb342 ≠ gb343) (hms30_0 : gb343 ≠ gb328) (hms30_1 : gb343 ≠ gb329) (hms30_2 : gb343 ≠ gb330) (hms30_3 : gb343 ≠ gb342) (hHeld : ((((((w22.setCell { block := gb342, off := 0 } (Value.int IntKind.i64 t332)).setCell { block := gb342, off := 1 } (Value.int IntKind.i64 t333)).setCell { block := gb342, off := 2 } (Value.slice Ao25 t334.length co25)).setCell { block := gb343, off := 0 } (Value.int IntKind.i64 t337)).setCell { block := gb343, off := 1 } (Value.int IntKind.i64 t338)).setCell { block := gb343, off := 2 } (Value.slice Ao29 t339.length co29)).cell? { block := gb328, off := 0 } = some (Value.int IntKind.i64 a0_0) ∧ ((((((w22.setCell { block := gb342, off := 0 } (Value.int IntKind.i64 t332)).setCell { block := gb342, off := 1 } (Value.int IntKind.i64 t333)).setCell { block := gb342, off := 2 } (Value.slice Ao25 t334.length co25)).setCell { block := gb343, off := 0 } (Value.int IntKind.i64 t337)).setCell { block := gb343, off := 1 } (Value.int IntKind.i64 t338)).setCell { block := gb343, off := 2 } (Value.slice Ao29 t339.length co29)).cell? { block := gb328, off := 1 } = some (Value.int IntKind.i64 a0_1) ∧ ((((((w22.setCell { block := gb342, off := 0 } (Value.int IntKind.i64 t332)).setCell { block := gb342, off := 1 } (Value.int IntKind.i64 t333)).setCell { block := gb342, off := 2 } (Value.slice Ao25 t334.length co25)).setCell { block := gb343, off := 0 } (Value.int IntKind.i64 t337)).setCell { block := gb343, off := 1 } (Value.int IntKind.i64 t338)).setCell { block := gb343, off := 2 } (Value.slice Ao29 t339.length co29)).cell? { block := gb328, off := 2 } = some (Value.slice A0_2 l0_2.length c0_2) ∧ ((((((w22.setCell { block := gb342, off := 0 } (Value.int IntKind.i64 t332)).setCell { block := gb342, off := 1 } (Value.int IntKind.i64 t333)).setCell { block := gb342, off := 2 } (Value.slice Ao25 t334.length co25)).setCell { block := gb343, off := 0 } (Value.int IntKind.i64 t337)).setCell { block := gb343, off := 1 } (Value.int IntKind.i64 t338)).setCell { block := gb343, off := 2 } (Value.slice Ao29 t339.length co29)).cell? { block := gb329, off := 0 } = some (Value.int IntKind.i64 a1_0) ∧ ((((((w22.setCell { block := gb342, off := 0 } (Value.int IntKind.i64 t332)).setCell { block := gb342, off := 1 } (Value.int IntKind.i64 t333)).setCell { block := gb342, off := 2 } (Value.slice Ao25 t334.length co25)).setCell { block := gb343, off := 0 } (Value.int IntKind.i64 t337)).setCell { block := gb343, off := 1 } (Value.int IntKind.i64 t338)).setCell { block := gb343, off := 2 } (Value.slice Ao29 t339.length co29)).cell? { block := gb329, off := 1 } = some (Value.int IntKind.i64 a1_1) ∧ ((((((w22.setCell { block := gb342, off := 0 } (Value.int IntKind.i64 t332)).setCell { block := gb342, off := 1 } (Value.int IntKind.i64 t333)).setCell { block := gb342, off := 2 } (Value.slice Ao25 t334.length co25)).setCell { block := gb343, off := 0 } (Value.int IntKind.i64 t337)).setCell { block := gb343, off := 1 } (Value.int IntKind.i64 t338)).setCell { block := gb343, off := 2 } (Value.slice Ao29 t339.length co29)).cell? { block := gb329, off := 2 } = some (Value.slice A1_2 l1_2.length c1_2)) {Kz_ : Act → World → Prop} (az_ : ∀ (a : Act) (w_q : World), Code.wp Try.prog ((Code.region 4 #[{ dst := some 36, op := Op.load 24 (Operand.tmp 13), type := 24, pos := "law.go:177", after := #[], guard := none }, { dst := some 37, op := Op.load 24 (Operand.tmp 12), type := 24, pos := "law.go:177", after := #[], guard := none }, { dst := some 38, op := Op.call { callee := Callee.value (Operand.func 22), args := #[Operand.const (Value.int IntKind.i64 6), Operand.tmp 36, Operand.tmp 37], argTypes := #[3, 24, 24] }, type := 24, pos := "law.go:177", after := #[{ on := 0, ground := Ground.data }, { on := 1, ground := Ground.data }], guard := none }, { dst := some 16, op := Op.alloc 24, type := 0, pos := "law.go:177", after := #[], guard := none }, { dst := none, op := Op.store 24 (Operand.tmp 16) (Operand.tmp 38), type := 0, pos := "law.go:177", after := #[{ on := 3, ground := Ground.data }, { on := 2, ground := Ground.data }, { on := 2, ground := Ground.chain }, { on := 0, ground := Ground.phase }, { on := 1, ground := Ground.phase }, { on := 2, ground := Ground.phase }, { on := 3, ground := Ground.phase }], guard := none }] false).seq (((Code.region 5 #[{ dst := some 39, op := Op.load 24 (Operand.tmp 14), type := 24, pos := "law.go:178", after := #[], guard := none }, { dst := some 40, op := Op.call { callee := Callee.value (Operand.func 14), args := #[Operand.tmp 39], argTypes := #[24] }, type := 4, pos := "law.go:178", after := #[{ on := 0, ground := Ground.data }], guard := none }, { dst := some 41, op := Op.unOp UnOp.not 4 (Operand.tmp 40), type := 4, pos := "law.go:178", after := #[{ on := 1, ground := Ground.data }], guard := none }, { dst := some 42, op := Op.move (Operand.tmp 41), type := 4, pos := "law.go:178", after := #[{ on := 2, ground := Ground.data }, { on := 1, ground := Ground.chain }], guard := none }, { dst := some 43, op := Op.load 24 (Operand.tmp 16), type := 24, pos := "law.go:178", after := #[{ on := 3, ground := Ground.guard }], guard := some (3, false) }, { dst := some 44, op := Op.call { callee := Callee.value (Operand.func 14), args := #[Operand.tmp 43], argTypes := #[24] }, type := 4, pos := "law.go:178", after := #[{ on := 4, ground := Ground.data }, { on := 3, ground := Ground.chain }, { on := 3, ground := Ground.guard }], guard := some (3, false) }, { dst := some 45, op := Op.unOp UnOp.not 4 (Operand.tmp 44), type := 4, pos := "law.go:178", after := #[{ on := 5, ground := Ground.data }, { on := 3, ground := Ground.guard }], guard := some (3, false) }, { dst := some 46, op := Op.pick (Operand.tmp 42) (Operand.const (Value.bool true)) (Operand.tmp 45), type := 4, pos := "law.go:178", after := #[{ on := 3, ground := Ground.data }, { on := 6, ground := Ground.data }], guard := none }] false).seq (Code.cond (Operand.tmp 46) ((Code.region 6 #[{ dst := some 47, op := Op.move (Operand.tmp 11), type := 4, pos := "law.go:179", after := #[], guard := none }, { dst := some 10, op := Op.assign (Operand.tmp 47), type := 4, pos := "law.go:179", after := #[{ on := 0, ground := Ground.data }, { on := 0, ground := Ground.phase }], guard := none }] false).seq Code.ret) Code.skip)).seq ((Code.region 7 #[{ dst := some 49, op := Op.load 24 (Operand.tmp 14), type := 24, pos := "law.go:181", after := #[], guard := none }, { dst := some 50, op := Op.move (Operand.tmp 2), type := 3, pos := "law.go:181", after := #[], guard := none }, { dst := some 51, op := Op.move (Operand.tmp 3), type := 3, pos := "law.go:181", after := #[], guard := none }, { dst := some 52, op := Op.load 25 (Operand.tmp 9), type := 25, pos := "law.go:181", after := #[], guard := none }, { dst := some 53, op := Op.call { callee := Callee.value (Operand.func 11), args := #[Operand.tmp 49, Operand.tmp 50, Operand.tmp 51, Operand.tmp 52], argTypes := #[24, 3, 3, 25] }, type := 30, pos := "law.go:181", after := #[{ on := 0, ground := Ground.data }, { on := 1, ground := Ground.data }, { on := 2, ground := Ground.data }, { on := 3, ground := Ground.data }], guard := none }, { dst := some 48, op := Op.move (Operand.tmp 53), type := 30, pos := "law.go:181", after := #[{ on := 4, ground := Ground.data }], guard := none }, { dst := some 54, op := Op.extract (Operand.tmp 48) 0, type := 3, pos := "law.go:181", after := #[{ on := 5, ground := Ground.data }], guard := none }, { dst := some 55, op := Op.extract (Operand.tmp 48) 1, type := 29, pos := "law.go:181", after := #[{ on := 5, ground := Ground.data }, { on := 8, ground := Ground.gcOnly Departure.lateStores }], guard := none }, { dst := some 17, op := Op.assign (Operand.tmp 54), type := 3, pos := "law.go:181", after := #[{ on := 6, ground := Ground.data }, { on := 4, ground := Ground.chain }, { on := 0, ground := Ground.phase }, { on := 1, ground := Ground.phase }, { on := 2, ground := Ground.phase }, { on := 3, ground := Ground.phase }, { on := 4, ground := Ground.phase }, { on := 5, ground := Ground.phase }, { on := 6, ground := Ground.phase }, { on := 7, ground := Ground.textOnly Departure.lateStores }], guard := none }, { dst := some 18, op := Op.assign (Operand.tmp 55), type := 29, pos := "law.go:181", after := #[{ on := 7, ground := Ground.data }, { on := 8, ground := Ground.chain }, { on := 0, ground := Ground.phase }, { on := 1, ground := Ground.phase }, { on := 2, ground := Ground.phase }, { on := 3, ground := Ground.phase }, { on := 4, ground := Ground.phase }, { on := 5, ground := Ground.phase }, { on := 6, ground := Ground.phase }, { on := 7, ground := Ground.phase }, { on := 8, ground := Ground.phase }], guard := none }] false).seq ((Code.region 8 #[{ dst := some 57, op := Op.load 24 (Operand.tmp 15), type := 24, pos := "law.go:182", after := #[], guard := none }, { dst := some 58, op := Op.move (Operand.tmp 2), type := 3, pos := "law.go:182", after := #[], guard := none }, { dst := some 59, op := Op.move (Operand.tmp 3), type := 3, pos := "law.go:182", after := #[], guard := none }, { dst := some 60, op := Op.load 25 (Operand.tmp 9), type := 25, pos := "law.go:182", after := #[], guard := none }, { dst := some 61, op := Op.call { callee := Callee.value (Operand.func 11), args := #[Operand.tmp 57, Operand.tmp 58, Operand.tmp 59, Operand.tmp 60], argTypes := #[24, 3, 3, 25] }, type := 30, pos := "law.go:182", after := #[{ on := 0, ground := Ground.data }, { on := 1, ground := Ground.data }, { on := 2, ground := Ground.data }, { on := 3, ground := Ground.data }], guard := none }, { dst := some 56, op := Op.move (Operand.tmp 61), type := 30, pos := "law.go:182", after := #[{ on := 4, ground := Ground.data }], guard := none }, { dst := some 62, op := Op.extract (Operand.tmp 56) 0, type := 3, pos := "law.go:182", after := #[{ on := 5, ground := Ground.data }], guard := none }, { dst := some 63, op := Op.extract (Operand.tmp 56) 1, type := 29, pos := "law.go:182", after := #[{ on := 5, ground := Ground.data }, { on := 8, ground := Ground.gcOnly Departure.lateStores }], guard := none }, { dst := some 19, op := Op.assign (Operand.tmp 62), type := 3, pos := "law.go:182", after := #[{ on := 6, ground := Ground.data }, { on := 4, ground := Ground.chain }, { on := 0, ground := Ground.phase }, { on := 1, ground := Ground.phase }, { on := 2, ground := Ground.phase }, { on := 3, ground := Ground.phase }, { on := 4, ground := Ground.phase }, { on := 5, ground := Ground.phase }, { on := 6, ground := Ground.phase }, { on := 7, ground := Ground.textOnly Departure.lateStores }], guard := none }, { dst := some 20, op := Op.assign (Operand.tmp 63), type := 29, pos := "law.go:182", after := #[{ on := 7, ground := Ground.data }, { on := 8, ground := Ground.chain }, { on := 0, ground := Ground.phase }, { on := 1, ground := Ground.phase }, { on := 2, ground := Ground.phase }, { on := 3, ground := Ground.phase }, { on := 4, ground := Ground.phase }, { on := 5, ground := Ground.phase }, { on := 6, ground := Ground.phase }, { on := 7, ground := Ground.phase }, { on := 8, ground := Ground.phase }], guard := none }] false).seq ((Code.region 9 #[{ dst := some 65, op := Op.load 24 (Operand.tmp 16), type := 24, pos := "law.go:183", after := #[], guard := none }, { dst := some 66, op := Op.move (Operand.tmp 2), type := 3, pos := "law.go:183", after := #[], guard := none }, { dst := some 67, op := Op.move (Operand.tmp 3), type := 3, pos := "law.go:183", after := #[], guard := none }, { dst := some 68, op := Op.load 25 (Operand.tmp 9), type := 25, pos := "law.go:183", after := #[], guard := none }, { dst := some 69, op := Op.call { callee := Callee.value (Operand.func 11), args := #[Operand.tmp 65, Operand.tmp 66, Operand.tmp 67, Operand.tmp 68], argTypes := #[24, 3, 3, 25] }, type := 30, pos := "law.go:183", after := #[{ on := 0, ground := Ground.data }, { on := 1, ground := Ground.data }, { on := 2, ground := Ground.data }, { on := 3, ground := Ground.data }], guard := none }, { dst := some 64, op := Op.move (Operand.tmp 69), type := 30, pos := "law.go:183", after := #[{ on := 4, ground := Ground.data }], guard := none }, { dst := some 70, op := Op.extract (Operand.tmp 64) 0, type := 3, pos := "law.go:183", after := #[{ on := 5, ground := Ground.data }], guard := none }, { dst := some 71, op := Op.extract (Operand.tmp 64) 1, type := 29, pos := "law.go:183", after := #[{ on := 5, ground := Ground.data }, { on := 8, ground := Ground.gcOnly Departure.lateStores }], guard := none }, { dst := some 21, op := Op.assign (Operand.tmp 70), type := 3, pos := "law.go:183", after := #[{ on := 6, ground := Ground.data }, { on := 4, ground := Ground.chain }, { on := 0, ground := Ground.phase }, { on := 1, ground := Ground.phase }, { on := 2, ground := Ground.phase }, { on := 3, ground := Ground.phase }, { on := 4, ground := Ground.phase }, { on := 5, ground := Ground.phase }, { on := 6, ground := Ground.phase }, { on := 7, ground := Ground.textOnly Departure.lateStores }], guard := none }, { dst := some 22, op := Op.assign (Operand.tmp 71), type := 29, pos := "law.go:183", after := #[{ on := 7, ground := Ground.data }, { on := 8, ground := Ground.chain }, { on := 0, ground := Ground.phase }, { on := 1, ground := Ground.phase }, { on := 2, ground := Ground.phase }, { on := 3, ground := Ground.phase }, { on := 4, ground := Ground.phase }, { on := 5, ground := Ground.phase }, { on := 6, ground := Ground.phase }, { on := 7, ground := Ground.phase }, { on := 8, ground := Ground.phase }], guard := none }] false).seq ((Code.region 10 #[{ dst := some 72, op := Op.move (Operand.tmp 11), type := 4, pos := "law.go:184", after := #[], guard := none }, { dst := some 73, op := Op.move (Operand.tmp 72), type := 4, pos := "law.go:184", after := #[{ on := 0, ground := Ground.data }], guard := none }, { dst := some 74, op := Op.move (Operand.tmp 17), type := 3, pos := "law.go:184", after := #[{ on := 1, ground := Ground.guard }], guard := some (1, true) }, { dst := some 75, op := Op.move (Operand.tmp 19), type := 3, pos := "law.go:184", after := #[{ on := 1, ground := Ground.guard }], guard := some (1, true) }, { dst := some 76, op := Op.binOp BinOp.eql 3 (Operand.tmp 74) (Operand.tmp 75) 3, type := 4, pos := "law.go:184", after := #[{ on := 2, ground := Ground.data }, { on := 3, ground := Ground.data }, { on := 1, ground := Ground.guard }], guard := some (1, true) }, { dst := some 77, op := Op.pick (Operand.tmp 73) (Operand.tmp 76) (Operand.const (Value.bool false)), type := 4, pos := "law.go:184", after := #[{ on := 1, ground := Ground.data }, { on := 4, ground := Ground.data }], guard := none }, { dst := some 78, op := Op.move (Operand.tmp 77), type := 4, pos := "law.go:184", after := #[{ on := 5, ground := Ground.data }, { on := 1, ground := Ground.chain }], guard := none }, { dst := some 79, op := Op.move (Operand.tmp 18), type := 29, pos := "law.go:184", after := #[{ on := 6, ground := Ground.guard }], guard := some (6, true) }, { dst := some 80, op := Op.move (Operand.tmp 20), type := 29, pos := "law.go:184", after := #[{ on := 6, ground := Ground.guard }], guard := some (6, true) }, { dst := some 81, op := Op.binOp BinOp.eql 29 (Operand.tmp 79) (Operand.tmp 80) 29, type := 4, pos := "law.go:184", after := #[{ on := 7, ground := Ground.data }, { on := 8, ground := Ground.data }, { on := 6, ground := Ground.guard }], guard := some (6, true) }, { dst := some 82, op := Op.pick (Operand.tmp 78) (Operand.tmp 81) (Operand.const (Value.bool false)), type := 4, pos := "law.go:184", after := #[{ on := 6, ground := Ground.data }, { on := 9, ground := Ground.data }], guard := none }, { dst := some 83, op := Op.move (Operand.tmp 82), type := 4, pos := "law.go:184", after := #[{ on := 10, ground := Ground.data }, { on := 6, ground := Ground.chain }], guard := none }, { dst := some 84, op := Op.move (Operand.tmp 22), type := 29, pos := "law.go:184", after := #[{ on := 11, ground := Ground.guard }], guard := some (11, true) }, { dst := some 85, op := Op.binOp BinOp.neq 29 (Operand.tmp 84) (Operand.const (Value.int IntKind.i64 0)) 29, type := 4, pos := "law.go:184", after := #[{ on := 12, ground := Ground.data }, { on := 11, ground := Ground.guard }], guard := some (11, true) }, { dst := some 86, op := Op.move (Operand.tmp 85), type := 4, pos := "law.go:184", after := #[{ on := 13, ground := Ground.data }, { on := 11, ground := Ground.chain }, { on := 11, ground := Ground.guard }], guard := some (11, true) }, { dst := some 87, op := Op.move (Operand.tmp 21), type := 3, pos := "law.go:184", after := #[{ on := 14, ground := Ground.guard }], guard := some (14, false) }, { dst := some 88, op := Op.binOp BinOp.geq 3 (Operand.tmp 87) (Operand.const (Value.int IntKind.i64 0)) 3, type := 4, pos := "law.go:184", after := #[{ on := 15, ground := Ground.data }, { on := 14, ground := Ground.guard }], guard := some (14, false) }, { dst := some 89, op := Op.pick (Operand.tmp 86) (Operand.const (Value.bool true)) (Operand.tmp 88), type := 4, pos := "law.go:184", after := #[{ on := 14, ground := Ground.data }, { on := 16, ground := Ground.data }, { on := 11, ground := Ground.guard }], guard := some (11, true) }, { dst := some 90, op := Op.pick (Operand.tmp 83) (Operand.tmp 89) (Operand.const (Value.bool false)), type := 4, pos := "law.go:184", after := #[{ on := 11, ground := Ground.data }, { on := 17, ground := Ground.data }], guard := none }, { dst := some 10, op := Op.assign (Operand.tmp 90), type := 4, pos := "law.go:184", after := #[{ on := 18, ground := Ground.data }, { on := 14, ground := Ground.chain }, { on := 0, ground := Ground.phase }, { on := 1, ground := Ground.phase }, { on := 2, ground := Ground.phase }, { on := 3, ground := Ground.phase }, { on := 4, ground := Ground.phase }, { on := 5, ground := Ground.phase }, { on := 6, ground := Ground.phase }, { on := 7, ground := Ground.phase }, { on := 8, ground := Ground.phase }, { on := 9, ground := Ground.phase }, { on := 10, ground := Ground.phase }, { on := 11, ground := Ground.phase }, { on := 12, ground := Ground.phase }, { on := 13, ground := Ground.phase }, { on := 14, ground := Ground.phase }, { on := 15, ground := Ground.phase }, { on := 16, ground := Ground.phase }, { on := 17, ground := Ground.phase }, { on := 18, ground := Ground.phase }], guard := none }] false).seq Code.ret)))))) (  bodyPost Try.prog Try.f8 fun e w' => e = Ending.returned (Value.bool r) ∧ Below w.heap.size w w') a w_q → Kz_ a w_q) {w31 : World} (HO336 : Aside0 (k24.N 24 w31.drew w.heap.size (fun k_ => some k_ ≠ (Value.slice Ao29 t339.length co29).ownBlock ∧ k_ ≠ gb328 ∧ k_ ≠ gb329 ∧ k_ ≠ gb330 ∧ k_ ≠ gb342 ∧ k_ ≠ gb343) (Value.slice Ao25 t334.length co25) t334)) (HO341 : Aside0 (k24.N 24 w31.drew w.heap.size (fun k_ => some k_ ≠ (Value.slice Ao25 t334.length co25).ownBlock ∧ k_ ≠ gb328 ∧ k_ ≠ gb329 ∧ k_ ≠ gb330 ∧ k_ ≠ gb342 ∧ k_ ≠ gb343) (Value.slice Ao29 t339.length co29) t339)) (BK328 : Aside0 (w31.drew.heap[gb328]? = some (Obj.cells #[Value.int IntKind.i64 a0_0, Value.int IntKind.i64 a0_1, Value.slice A0_2 l0_2.length c0_2] 24))) (BK329 : Aside0 (w31.drew.heap[gb329]? = some (Obj.cells #[Value.int IntKind.i64 a1_0, Value.int IntKind.i64 a1_1, Value.slice A1_2 l1_2.length c1_2] 24))) (BK330 : Aside0 (w31.drew.heap[gb330]? = some (Obj.cells #[Value.int IntKind.i64 a4_0, Value.int IntKind.i64 a4_1, Value.int IntKind.i64 a4_2, Value.int IntKind.i64 a4_3, Value.int IntKind.i64 a4_4, Value.int IntKind.i64 a4_5, Value.int IntKind.i64 a4_6, Value.int IntKind.i64 a4_7] 25))) (BK342 : Aside0 (w31.drew.heap[gb342]? = some (Obj.cells #[Value.int IntKind.i64 t332, Value.int IntKind.i64 t333, Value.slice Ao25 t334.length co25] 24))) (BK343 : Aside0 (w31.drew.heap[gb343]? = some (Obj.cells #[Value.int IntKind.i64 t337, Value.int IntKind.i64 t338, Value.slice Ao29 t339.length co29] 24))) (HB : Aside0 (Below w.heap.size w w31.drew)) :
    Code.wp Try.prog (Code.region 3 #[{ dst := some 30, op := Op.load 24 (Operand.tmp 12), type := 24, pos := "law.go:176", after := #[], guard := none }, { dst := some 31, op := Op.load 24 (Operand.tmp 13), type := 24, pos := "law.go:176", after := #[], guard := none }, { dst := some 32, op := Op.call { callee := Callee.value (Operand.func 22), args := #[Operand.const (Value.int IntKind.i64 5), Operand.tmp 30, Operand.tmp 31], argTypes := #[3, 24, 24] }, type := 24, pos := "law.go:176", after := #[{ on := 0, ground := Ground.data }, { on := 1, ground := Ground.data }], guard := none }, { dst := some 33, op := Op.load 24 (Operand.tmp 5), type := 24, pos := "law.go:176", after := #[], guard := none }, { dst := some 34, op := Op.load 24 (Operand.tmp 6), type := 24, pos := "law.go:176", after := #[], guard := none }, { dst := some 35, op := Op.call { callee := Callee.value (Operand.func 22), args := #[Operand.const (Value.int IntKind.i64 5), Operand.tmp 33, Operand.tmp 34], argTypes := #[3, 24, 24] }, type := 24, pos := "law.go:176", after := #[{ on := 3, ground := Ground.data }, { on := 4, ground := Ground.data }, { on := 2, ground := Ground.chain }], guard := none }, { dst := some 14, op := Op.alloc 24, type := 0, pos := "law.go:176", after := #[], guard := none }, { dst := some 15, op := Op.alloc 24, type := 0, pos := "law.go:176", after := #[], guard := none }, { dst := none, op := Op.store 24 (Operand.tmp 14) (Operand.tmp 32), type := 0, pos := "law.go:176", after := #[{ on := 6, ground := Ground.data }, { on := 2, ground := Ground.data }, { on := 5, ground := Ground.chain }, { on := 0, ground := Ground.phase }, { on := 1, ground := Ground.phase }, { on := 2, ground := Ground.phase }, { on := 3, ground := Ground.textOnly Departure.lateStores }, { on := 4, ground := Ground.textOnly Departure.lateStores }, { on := 5, ground := Ground.textOnly Departure.lateStoresUnsure }, { on := 6, ground := Ground.phase }, { on := 7, ground := Ground.phase }], guard := none }, { dst := none, op := Op.store 24 (Operand.tmp 15) (Operand.tmp 35), type := 0, pos := "law.go:176", after := #[{ on := 7, ground := Ground.data }, { on := 5, ground := Ground.data }, { on := 8, ground := Ground.chain }, { on := 0, ground := Ground.phase }, { on := 1, ground := Ground.phase }, { on := 2, ground := Ground.phase }, { on := 3, ground := Ground.phase }, { on := 4, ground := Ground.phase }, { on := 5, ground := Ground.phase }, { on := 6, ground := Ground.phase }, { on := 7, ground := Ground.phase }, { on := 8, ground := Ground.phase }], guard := none }] true) (Exit.then Kz_ (  bodyPost Try.prog Try.f8 fun e w' => e = Ending.returned (Value.bool r) ∧ Below w.heap.size w w')) { tmps := #[Value.agg #[Value.int IntKind.i64 a0_0, Value.int IntKind.i64 a0_1, Value.slice A0_2 l0_2.length c0_2], Value.agg #[Value.int IntKind.i64 a1_0, Value.int IntKind.i64 a1_1, Value.slice A1_2 l1_2.length c1_2], Value.int IntKind.i64 a2, Value.int IntKind.i64 a3, Value.agg #[Value.int IntKind.i64 a4_0, Value.int IntKind.i64 a4_1, Value.int IntKind.i64 a4_2, Value.int IntKind.i64 a4_3, Value.int IntKind.i64 a4_4, Value.int IntKind.i64 a4_5, Value.int IntKind.i64 a4_6, Value.int IntKind.i64 a4_7], Value.pointer (some { block := gb328, off := 0 }), Value.pointer (some { block := gb329, off := 0 }), undef, undef, Value.pointer (some { block := gb330, off := 0 }), Value.bool false, Value.bool t331, Value.pointer (some { block := gb342, off := 0 }), Value.pointer (some { block := gb343, off := 0 }), undef, undef, undef, undef, undef, undef, undef, undef, undef, Value.bool t331, Value.agg #[Value.int IntKind.i64 a0_0, Value.int IntKind.i64 a0_1, Value.slice A0_2 l0_2.length c0_2], Value.agg #[Value.int IntKind.i64 a1_0, Value.int IntKind.i64 a1_1, Value.slice A1_2 l1_2.length c1_2], Value.agg #[Value.int IntKind.i64 t332, Value.int IntKind.i64 t333, Value.slice Ao25 t334.length co25], Value.agg #[Value.int IntKind.i64 a0_0, Value.int IntKind.i64 a0_1, Value.slice A0_2 l0_2.length c0_2], Value.agg #[Value.int IntKind.i64 a1_0, Value.int IntKind.i64 a1_1, Value.slice A1_2 l1_2.length c1_2], Value.agg #[Value.int IntKind.i64 t337, Value.int IntKind.i64 t338, Value.slice Ao29 t339.length co29], undef, undef, undef, undef, undef, undef, undef, undef, undef, undef, undef, undef, undef, undef, undef, undef, undef, undef, undef, undef, undef, undef, undef, undef, undef, undef, undef, undef, undef, undef, undef, undef, undef, undef, undef, undef, undef, undef, undef, undef, undef, undef, undef, undef, undef, undef, undef, undef, undef, undef, undef, undef, undef, undef, undef, undef, undef, undef, undef, undef, undef], defers := [] } w31 := by
 refine start_ (n := 10) (S := fun w' => w'.cell? ⟨gb342, 0, none⟩ = some (.int .i64 t332) ∧ w'.cell? ⟨gb342, 1, none⟩ = some (.int .i64 t333) ∧ w'.cell? ⟨gb342, 2, none⟩ = some (.slice Ao25 t334.length co25) ∧ w'.cell? ⟨gb343, 0, none⟩ = some (.int .i64 t337) ∧ w'.cell? ⟨gb343, 1, none⟩ = some (.int .i64 t338) ∧ w'.cell? ⟨gb343, 2, none⟩ = some (.slice Ao29 t339.length co29) ∧ w'.cell? ⟨gb328, 0, none⟩ = some (.int .i64 a0_0) ∧ w'.cell? ⟨gb328, 1, none⟩ = some (.int .i64 a0_1) ∧ w'.cell? ⟨gb328, 2, none⟩ = some (.slice A0_2 l0_2.length c0_2) ∧ w'.cell? ⟨gb329, 0, none⟩ = some (.int .i64 a1_0) ∧ w'.cell? ⟨gb329, 1, none⟩ = some (.int .i64 a1_1) ∧ w'.cell? ⟨gb329, 2, none⟩ = some (.slice A1_2 l1_2.length c1_2)) (ds := []) #[false, false, false, false, false, false, false, false, false, false] (by kernel_rfl) rfl rfl ⟨(blk_cell BK342.out 0).trans rfl, (blk_cell BK342.out 1).trans rfl, (blk_cell BK342.out 2).trans rfl, (blk_cell BK343.out 0).trans rfl, (blk_cell BK343.out 1).trans rfl, (blk_cell BK343.out 2).trans rfl, (blk_cell BK328.out 0).trans rfl, (blk_cell BK328.out 1).trans rfl, (blk_cell BK328.out 2).trans rfl, (blk_cell BK329.out 0).trans rfl, (blk_cell BK329.out 1).trans rfl, (blk_cell BK329.out 2).trans rfl⟩ (fun hHeld => ?_); refine with_tabW formelaw14_ValueOrder.tab3 formelaw14_ValueOrder.bits3 (fun HT_ HW_ => ?_)
 generalize w31.drew = w32 at HO336 HO341 BK328 BK329 BK330 BK342 BK343 HB hHeld ⊢
 refine take_ (i := 0) (N := some 30) (v := ?_) (a' := ?_) #[true, false, false, false, false, false, false, false, false, false] rfl rfl (take_ofW HT_.out HW_.out (by kernel_rfl)) (fun _ _ _ h => h) (Or.inl ⟨by rfl, ?_⟩) hHeld ?_ ?_
 rotate_left
 · rintro w' ⟨s0, s1, s2, s3, s4, s5, s6, s7, s8, s9, s10, s11⟩
   go_simp
   with_reducible rfl
 rotate_left
 · simp only [Act.put, List.setIfInBounds_toArray, List.set_cons_zero, List.set_cons_succ, i64_w, i32_w]
   rfl
 refine take_ (i := 1) (N := some 31) (v := ?_) (a' := ?_) #[true, true, false, false, false, false, false, false, false, false] rfl rfl (take_ofW HT_.out HW_.out (by kernel_rfl)) (fun _ _ _ h => h) (Or.inl ⟨by rfl, ?_⟩) hHeld ?_ ?_
 rotate_left
 · rintro w' ⟨s0, s1, s2, s3, s4, s5, s6, s7, s8, s9, s10, s11⟩
   go_simp
   with_reducible rfl
 rotate_left
 · simp only [Act.put, List.setIfInBounds_toArray, List.set_cons_zero, List.set_cons_succ, i64_w, i32_w]
   rfl
 refine take_ (i := 3) (N := some 33) (v := ?_) (a' := ?_) #[true, true, false, true, false, false, false, false, false, false] rfl rfl (take_ofW HT_.out HW_.out (by kernel_rfl)) (fun _ _ _ h => h) (Or.inl ⟨by rfl, ?_⟩) hHeld ?_ ?_
 rotate_left
 · rintro w' ⟨s0, s1, s2, s3, s4, s5, s6, s7, s8, s9, s10, s11⟩
   go_simp
   with_reducible rfl
 rotate_left
 · simp only [Act.put, List.setIfInBounds_toArray, List.set_cons_zero, List.set_cons_succ, i64_w, i32_w]
   rfl
 refine take_ (i := 4) (N := some 34) (v := ?_) (a' := ?_) #[true, true, false, true, true, false, false, false, false, false] rfl rfl (take_ofW HT_.out HW_.out (by kernel_rfl)) (fun _ _ _ h => h) (Or.inl ⟨by rfl, ?_⟩) hHeld ?_ ?_
 rotate_left
 · rintro w' ⟨s0, s1, s2, s3, s4, s5, s6, s7, s8, s9, s10, s11⟩
   go_simp
   with_reducible rfl
 rotate_left
 · simp only [Act.put, List.setIfInBounds_toArray, List.set_cons_zero, List.set_cons_succ, i64_w, i32_w]
   rfl
 refine join_ (σ := Value × Value × Nat × Nat) 2 #[true, true, true, true, true, true, true, true, false, false] (fun s_ => [(32, .agg #[.int .i64 t344, .int .i64 t345, s_.1]), (35, .agg #[.int .i64 t349, .int .i64 t350, s_.2.1]), (14, .pointer (some ⟨s_.2.2.1, 0, none⟩)), (15, .pointer (some ⟨s_.2.2.2, 0, none⟩))]) (fun s_ w' => (w'.cell? ⟨gb342, 0, none⟩ = some (.int .i64 t332) ∧ w'.cell? ⟨gb342, 1, none⟩ = some (.int .i64 t333) ∧ w'.cell? ⟨gb342, 2, none⟩ = some (.slice Ao25 t334.length co25) ∧ w'.cell? ⟨gb343, 0, none⟩ = some (.int .i64 t337) ∧ w'.cell? ⟨gb343, 1, none⟩ = some (.int .i64 t338) ∧ w'.cell? ⟨gb343, 2, none⟩ = some (.slice Ao29 t339.length co29) ∧ w'.cell? ⟨gb328, 0, none⟩ = some (.int .i64 a0_0) ∧ w'.cell? ⟨gb328, 1, none⟩ = some (.int .i64 a0_1) ∧ w'.cell? ⟨gb328, 2, none⟩ = some (.slice A0_2 l0_2.length c0_2) ∧ w'.cell? ⟨gb329, 0, none⟩ = some (.int .i64 a1_0) ∧ w'.cell? ⟨gb329, 1, none⟩ = some (.int .i64 a1_1) ∧ w'.cell? ⟨gb329, 2, none⟩ = some (.slice A1_2 l1_2.length c1_2)) ∧ (Kd.N k24 24 w' w.heap.size (fun k_ => some k_ ≠ (.slice Ao29 t339.length co29 : Value).ownBlock ∧ some k_ ≠ (s_.1 : Value).ownBlock ∧ some k_ ≠ (s_.2.1 : Value).ownBlock ∧ k_ ≠ gb328 ∧ k_ ≠ gb329 ∧ k_ ≠ gb330 ∧ k_ ≠ gb342 ∧ k_ ≠ gb343 ∧ k_ ≠ s_.2.2.1 ∧ k_ ≠ s_.2.2.2) (.slice Ao25 t334.length co25) t334) ∧ (Kd.N k24 24 w' w.heap.size (fun k_ => some k_ ≠ (.slice Ao25 t334.length co25 : Value).ownBlock ∧ some k_ ≠ (s_.1 : Value).ownBlock ∧ some k_ ≠ (s_.2.1 : Value).ownBlock ∧ k_ ≠ gb328 ∧ k_ ≠ gb329 ∧ k_ ≠ gb330 ∧ k_ ≠ gb342 ∧ k_ ≠ gb343 ∧ k_ ≠ s_.2.2.1 ∧ k_ ≠ s_.2.2.2) (.slice Ao29 t339.length co29) t339) ∧ (Kd.N k24 24 w' w.heap.size (fun k_ => some k_ ≠ (s_.2.1 : Value).ownBlock ∧ k_ ≠ gb328 ∧ k_ ≠ gb329 ∧ k_ ≠ gb330 ∧ k_ ≠ gb342 ∧ k_ ≠ gb343 ∧ k_ ≠ s_.2.2.1 ∧ k_ ≠ s_.2.2.2) s_.1 t346) ∧ (Kd.N k24 24 w' w.heap.size (fun k_ => some k_ ≠ (.slice Ao25 t334.length co25 : Value).ownBlock ∧ some k_ ≠ (.slice Ao29 t339.length co29 : Value).ownBlock ∧ some k_ ≠ (s_.1 : Value).ownBlock ∧ k_ ≠ gb328 ∧ k_ ≠ gb329 ∧ k_ ≠ gb330 ∧ k_ ≠ gb342 ∧ k_ ≠ gb343 ∧ k_ ≠ s_.2.2.1 ∧ k_ ≠ s_.2.2.2) s_.2.1 t351) ∧ (w'.heap[gb328]? = some (.cells #[.int .i64 a0_0, .int .i64 a0_1, .slice A0_2 l0_2.length c0_2] 24 (0, 0))) ∧ (w'.heap[gb329]? = some (.cells #[.int .i64 a1_0, .int .i64 a1_1, .slice A1_2 l1_2.length c1_2] 24 (0, 0))) ∧ (w'.heap[gb330]? = some (.cells #[.int .i64 a4_0, .int .i64 a4_1, .int .i64 a4_2, .int .i64 a4_3, .int .i64 a4_4, .int .i64 a4_5, .int .i64 a4_6, .int .i64 a4_7] 25 (0, 0))) ∧ (w'.heap[gb342]? = some (.cells #[.int .i64 t332, .int .i64 t333, .slice Ao25 t334.length co25] 24 (0, 0))) ∧ (w'.heap[gb343]? = some (.cells #[.int .i64 t337, .int .i64 t338, .slice Ao29 t339.length co29] 24 (0, 0))) ∧ (w'.heap[s_.2.2.1]? = some (.cells #[.int .i64 0, .int .i64 0, .slice none 0 0] 24 (0, 0))) ∧ (w'.heap[s_.2.2.2]? = some (.cells #[.int .i64 0, .int .i64 0, .slice none 0 0] 24 (0, 0))) ∧ (w.heap.size ≤ s_.2.2.1) ∧ (w.heap.size ≤ s_.2.2.1) ∧ (gb328 ≠ s_.2.2.1) ∧ (s_.2.2.1 ≠ gb328) ∧ (gb329 ≠ s_.2.2.1) ∧ (s_.2.2.1 ≠ gb329) ∧ (gb330 ≠ s_.2.2.1) ∧ (s_.2.2.1 ≠ gb330) ∧ (gb342 ≠ s_.2.2.1) ∧ (s_.2.2.1 ≠ gb342) ∧ (gb343 ≠ s_.2.2.1) ∧ (s_.2.2.1 ≠ gb343) ∧ (s_.2.2.2 ≠ s_.2.2.1) ∧ (s_.2.2.1 ≠ s_.2.2.2) ∧ (w.heap.size ≤ s_.2.2.2) ∧ (w.heap.size ≤ s_.2.2.2) ∧ (gb328 ≠ s_.2.2.2) ∧ (s_.2.2.2 ≠ gb328) ∧ (gb329 ≠ s_.2.2.2) ∧ (s_.2.2.2 ≠ gb329) ∧ (gb330 ≠ s_.2.2.2) ∧ (s_.2.2.2 ≠ gb330) ∧ (gb342 ≠ s_.2.2.2) ∧ (s_.2.2.2 ≠ gb342) ∧ (gb343 ≠ s_.2.2.2) ∧ (s_.2.2.2 ≠ gb343) ∧ (Below w.heap.size w w')) ?_ ?_
 rotate_left
 · intro hJ2_5_6_7
   refine join_ (σ := Value × Value × Nat) 3 #[true, true, true, true, true, true, true, false, false, false] (fun s_ => [(32, .agg #[.int .i64 t344, .int .i64 t345, s_.1]), (35, .agg #[.int .i64 t349, .int .i64 t350, s_.2.1]), (14, .pointer (some ⟨s_.2.2, 0, none⟩))]) (fun s_ w' => (w'.cell? ⟨gb342, 0, none⟩ = some (.int .i64 t332) ∧ w'.cell? ⟨gb342, 1, none⟩ = some (.int .i64 t333) ∧ w'.cell? ⟨gb342, 2, none⟩ = some (.slice Ao25 t334.length co25) ∧ w'.cell? ⟨gb343, 0, none⟩ = some (.int .i64 t337) ∧ w'.cell? ⟨gb343, 1, none⟩ = some (.int .i64 t338) ∧ w'.cell? ⟨gb343, 2, none⟩ = some (.slice Ao29 t339.length co29) ∧ w'.cell? ⟨gb328, 0, none⟩ = some (.int .i64 a0_0) ∧ w'.cell? ⟨gb328, 1, none⟩ = some (.int .i64 a0_1) ∧ w'.cell? ⟨gb328, 2, none⟩ = some (.slice A0_2 l0_2.length c0_2) ∧ w'.cell? ⟨gb329, 0, none⟩ = some (.int .i64 a1_0) ∧ w'.cell? ⟨gb329, 1, none⟩ = some (.int .i64 a1_1) ∧ w'.cell? ⟨gb329, 2, none⟩ = some (.slice A1_2 l1_2.length c1_2)) ∧ (Kd.N k24 24 w' w.heap.size (fun k_ => some k_ ≠ (.slice Ao29 t339.length co29 : Value).ownBlock ∧ some k_ ≠ (s_.1 : Value).ownBlock ∧ some k_ ≠ (s_.2.1 : Value).ownBlock ∧ k_ ≠ gb328 ∧ k_ ≠ gb329 ∧ k_ ≠ gb330 ∧ k_ ≠ gb342 ∧ k_ ≠ gb343 ∧ k_ ≠ s_.2.2) (.slice Ao25 t334.length co25) t334) ∧ (Kd.N k24 24 w' w.heap.size (fun k_ => some k_ ≠ (.slice Ao25 t334.length co25 : Value).ownBlock ∧ some k_ ≠ (s_.1 : Value).ownBlock ∧ some k_ ≠ (s_.2.1 : Value).ownBlock ∧ k_ ≠ gb328 ∧ k_ ≠ gb329 ∧ k_ ≠ gb330 ∧ k_ ≠ gb342 ∧ k_ ≠ gb343 ∧ k_ ≠ s_.2.2) (.slice Ao29 t339.length co29) t339) ∧ (Kd.N k24 24 w' w.heap.size (fun k_ => some k_ ≠ (s_.2.1 : Value).ownBlock ∧ k_ ≠ gb328 ∧ k_ ≠ gb329 ∧ k_ ≠ gb330 ∧ k_ ≠ gb342 ∧ k_ ≠ gb343 ∧ k_ ≠ s_.2.2) s_.1 t346) ∧ (Kd.N k24 24 w' w.heap.size (fun k_ => some k_ ≠ (.slice Ao25 t334.length co25 : Value).ownBlock ∧ some k_ ≠ (.slice Ao29 t339.length co29 : Value).ownBlock ∧ some k_ ≠ (s_.1 : Value).ownBlock ∧ k_ ≠ gb328 ∧ k_ ≠ gb329 ∧ k_ ≠ gb330 ∧ k_ ≠ gb342 ∧ k_ ≠ gb343 ∧ k_ ≠ s_.2.2) s_.2.1 t351) ∧ (w'.heap[gb328]? = some (.cells #[.int .i64 a0_0, .int .i64 a0_1, .slice A0_2 l0_2.length c0_2] 24 (0, 0))) ∧ (w'.heap[gb329]? = some (.cells #[.int .i64 a1_0, .int .i64 a1_1, .slice A1_2 l1_2.length c1_2] 24 (0, 0))) ∧ (w'.heap[gb330]? = some (.cells #[.int .i64 a4_0, .int .i64 a4_1, .int .i64 a4_2, .int .i64 a4_3, .int .i64 a4_4, .int .i64 a4_5, .int .i64 a4_6, .int .i64 a4_7] 25 (0, 0))) ∧ (w'.heap[gb342]? = some (.cells #[.int .i64 t332, .int .i64 t333, .slice Ao25 t334.length co25] 24 (0, 0))) ∧ (w'.heap[gb343]? = some (.cells #[.int .i64 t337, .int .i64 t338, .slice Ao29 t339.length co29] 24 (0, 0))) ∧ (w'.heap[s_.2.2]? = some (.cells #[.int .i64 0, .int .i64 0, .slice none 0 0] 24 (0, 0))) ∧ (w.heap.size ≤ s_.2.2) ∧ (w.heap.size ≤ s_.2.2) ∧ (gb328 ≠ s_.2.2) ∧ (s_.2.2 ≠ gb328) ∧ (gb329 ≠ s_.2.2) ∧ (s_.2.2 ≠ gb329) ∧ (gb330 ≠ s_.2.2) ∧ (s_.2.2 ≠ gb330) ∧ (gb342 ≠ s_.2.2) ∧ (s_.2.2 ≠ gb342) ∧ (gb343 ≠ s_.2.2) ∧ (s_.2.2 ≠ gb343) ∧ (Below w.heap.size w w')) ?_ ?_
   rotate_left
   · intro hJ2_5_6
     refine join_ (σ := Value × Value × Nat) 3 #[true, true, true, true, true, true, false, true, false, false] (fun s_ => [(32, .agg #[.int .i64 t344, .int .i64 t345, s_.1]), (35, .agg #[.int .i64 t349, .int .i64 t350, s_.2.1]), (15, .pointer (some ⟨s_.2.2, 0, none⟩))]) (fun s_ w' => (w'.cell? ⟨gb342, 0, none⟩ = some (.int .i64 t332) ∧ w'.cell? ⟨gb342, 1, none⟩ = some (.int .i64 t333) ∧ w'.cell? ⟨gb342, 2, none⟩ = some (.slice Ao25 t334.length co25) ∧ w'.cell? ⟨gb343, 0, none⟩ = some (.int .i64 t337) ∧ w'.cell? ⟨gb343, 1, none⟩ = some (.int .i64 t338) ∧ w'.cell? ⟨gb343, 2, none⟩ = some (.slice Ao29 t339.length co29) ∧ w'.cell? ⟨gb328, 0, none⟩ = some (.int .i64 a0_0) ∧ w'.cell? ⟨gb328, 1, none⟩ = some (.int .i64 a0_1) ∧ w'.cell? ⟨gb328, 2, none⟩ = some (.slice A0_2 l0_2.length c0_2) ∧ w'.cell? ⟨gb329, 0, none⟩ = some (.int .i64 a1_0) ∧ w'.cell? ⟨gb329, 1, none⟩ = some (.int .i64 a1_1) ∧ w'.cell? ⟨gb329, 2, none⟩ = some (.slice A1_2 l1_2.length c1_2)) ∧ (Kd.N k24 24 w' w.heap.size (fun k_ => some k_ ≠ (.slice Ao29 t339.length co29 : Value).ownBlock ∧ some k_ ≠ (s_.1 : Value).ownBlock ∧ some k_ ≠ (s_.2.1 : Value).ownBlock ∧ k_ ≠ gb328 ∧ k_ ≠ gb329 ∧ k_ ≠ gb330 ∧ k_ ≠ gb342 ∧ k_ ≠ gb343 ∧ k_ ≠ s_.2.2) (.slice Ao25 t334.length co25) t334) ∧ (Kd.N k24 24 w' w.heap.size (fun k_ => some k_ ≠ (.slice Ao25 t334.length co25 : Value).ownBlock ∧ some k_ ≠ (s_.1 : Value).ownBlock ∧ some k_ ≠ (s_.2.1 : Value).ownBlock ∧ k_ ≠ gb328 ∧ k_ ≠ gb329 ∧ k_ ≠ gb330 ∧ k_ ≠ gb342 ∧ k_ ≠ gb343 ∧ k_ ≠ s_.2.2) (.slice Ao29 t339.length co29) t339) ∧ (Kd.N k24 24 w' w.heap.size (fun k_ => some k_ ≠ (s_.2.1 : Value).ownBlock ∧ k_ ≠ gb328 ∧ k_ ≠ gb329 ∧ k_ ≠ gb330 ∧ k_ ≠ gb342 ∧ k_ ≠ gb343 ∧ k_ ≠ s_.2.2) s_.1 t346) ∧ (Kd.N k24 24 w' w.heap.size (fun k_ => some k_ ≠ (.slice Ao25 t334.length co25 : Value).ownBlock ∧ some k_ ≠ (.slice Ao29 t339.length co29 : Value).ownBlock ∧ some k_ ≠ (s_.1 : Value).ownBlock ∧ k_ ≠ gb328 ∧ k_ ≠ gb329 ∧ k_ ≠ gb330 ∧ k_ ≠ gb342 ∧ k_ ≠ gb343 ∧ k_ ≠ s_.2.2) s_.2.1 t351) ∧ (w'.heap[gb328]? = some (.cells #[.int .i64 a0_0, .int .i64 a0_1, .slice A0_2 l0_2.length c0_2] 24 (0, 0))) ∧ (w'.heap[gb329]? = some (.cells #[.int .i64 a1_0, .int .i64 a1_1, .slice A1_2 l1_2.length c1_2] 24 (0, 0))) ∧ (w'.heap[gb330]? = some (.cells #[.int .i64 a4_0, .int .i64 a4_1, .int .i64 a4_2, .int .i64 a4_3, .int .i64 a4_4, .int .i64 a4_5, .int .i64 a4_6, .int .i64 a4_7] 25 (0, 0))) ∧ (w'.heap[gb342]? = some (.cells #[.int .i64 t332, .int .i64 t333, .slice Ao25 t334.length co25] 24 (0, 0))) ∧ (w'.heap[gb343]? = some (.cells #[.int .i64 t337, .int .i64 t338, .slice Ao29 t339.length co29] 24 (0, 0))) ∧ (w'.heap[s_.2.2]? = some (.cells #[.int .i64 0, .int .i64 0, .slice none 0 0] 24 (0, 0))) ∧ (w.heap.size ≤ s_.2.2) ∧ (w.heap.size ≤ s_.2.2) ∧ (gb328 ≠ s_.2.2) ∧ (s_.2.2 ≠ gb328) ∧ (gb329 ≠ s_.2.2) ∧ (s_.2.2 ≠ gb329) ∧ (gb330 ≠ s_.2.2) ∧ (s_.2.2 ≠ gb330) ∧ (gb342 ≠ s_.2.2) ∧ (s_.2.2 ≠ gb342) ∧ (gb343 ≠ s_.2.2) ∧ (s_.2.2 ≠ gb343) ∧ (Below w.heap.size w w')) ?_ ?_
     rotate_left
     · intro hJ2_5_7
       refine join_ (σ := Value × Nat × Nat) 3 #[true, true, true, true, true, false, true, true, false, false] (fun s_ => [(32, .agg #[.int .i64 t344, .int .i64 t345, s_.1]), (14, .pointer (some ⟨s_.2.1, 0, none⟩)), (15, .pointer (some ⟨s_.2.2, 0, none⟩))]) (fun s_ w' => (w'.cell? ⟨gb342, 0, none⟩ = some (.int .i64 t332) ∧ w'.cell? ⟨gb342, 1, none⟩ = some (.int .i64 t333) ∧ w'.cell? ⟨gb342, 2, none⟩ = some (.slice Ao25 t334.length co25) ∧ w'.cell? ⟨gb343, 0, none⟩ = some (.int .i64 t337) ∧ w'.cell? ⟨gb343, 1, none⟩ = some (.int .i64 t338) ∧ w'.cell? ⟨gb343, 2, none⟩ = some (.slice Ao29 t339.length co29) ∧ w'.cell? ⟨gb328, 0, none⟩ = some (.int .i64 a0_0) ∧ w'.cell? ⟨gb328, 1, none⟩ = some (.int .i64 a0_1) ∧ w'.cell? ⟨gb328, 2, none⟩ = some (.slice A0_2 l0_2.length c0_2) ∧ w'.cell? ⟨gb329, 0, none⟩ = some (.int .i64 a1_0) ∧ w'.cell? ⟨gb329, 1, none⟩ = some (.int .i64 a1_1) ∧ w'.cell? ⟨gb329, 2, none⟩ = some (.slice A1_2 l1_2.length c1_2)) ∧ (Kd.N k24 24 w' w.heap.size (fun k_ => some k_ ≠ (.slice Ao29 t339.length co29 : Value).ownBlock ∧ some k_ ≠ (s_.1 : Value).ownBlock ∧ k_ ≠ gb328 ∧ k_ ≠ gb329 ∧ k_ ≠ gb330 ∧ k_ ≠ gb342 ∧ k_ ≠ gb343 ∧ k_ ≠ s_.2.1 ∧ k_ ≠ s_.2.2) (.slice Ao25 t334.length co25) t334) ∧ (Kd.N k24 24 w' w.heap.size (fun k_ => some k_ ≠ (.slice Ao25 t334.length co25 : Value).ownBlock ∧ some k_ ≠ (s_.1 : Value).ownBlock ∧ k_ ≠ gb328 ∧ k_ ≠ gb329 ∧ k_ ≠ gb330 ∧ k_ ≠ gb342 ∧ k_ ≠ gb343 ∧ k_ ≠ s_.2.1 ∧ k_ ≠ s_.2.2) (.slice Ao29 t339.length co29) t339) ∧ (Kd.N k24 24 w' w.heap.size (fun k_ => k_ ≠ gb328 ∧ k_ ≠ gb329 ∧ k_ ≠ gb330 ∧ k_ ≠ gb342 ∧ k_ ≠ gb343 ∧ k_ ≠ s_.2.1 ∧ k_ ≠ s_.2.2) s_.1 t346) ∧ (w'.heap[gb328]? = some (.cells #[.int .i64 a0_0, .int .i64 a0_1, .slice A0_2 l0_2.length c0_2] 24 (0, 0))) ∧ (w'.heap[gb329]? = some (.cells #[.int .i64 a1_0, .int .i64 a1_1, .slice A1_2 l1_2.length c1_2] 24 (0, 0))) ∧ (w'.heap[gb330]? = some (.cells #[.int .i64 a4_0, .int .i64 a4_1, .int .i64 a4_2, .int .i64 a4_3, .int .i64 a4_4, .int .i64 a4_5, .int .i64 a4_6, .int .i64 a4_7] 25 (0, 0))) ∧ (w'.heap[gb342]? = some (.cells #[.int .i64 t332, .int .i64 t333, .slice Ao25 t334.length co25] 24 (0, 0))) ∧ (w'.heap[gb343]? = some (.cells #[.int .i64 t337, .int .i64 t338, .slice Ao29 t339.length co29] 24 (0, 0))) ∧ (w'.heap[s_.2.1]? = some (.cells #[.int .i64 0, .int .i64 0, .slice none 0 0] 24 (0, 0))) ∧ (w'.heap[s_.2.2]? = some (.cells #[.int .i64 0, .int .i64 0, .slice none 0 0] 24 (0, 0))) ∧ (w.heap.size ≤ s_.2.1) ∧ (w.heap.size ≤ s_.2.1) ∧ (gb328 ≠ s_.2.1) ∧ (s_.2.1 ≠ gb328) ∧ (gb329 ≠ s_.2.1) ∧ (s_.2.1 ≠ gb329) ∧ (gb330 ≠ s_.2.1) ∧ (s_.2.1 ≠ gb330) ∧ (gb342 ≠ s_.2.1) ∧ (s_.2.1 ≠ gb342) ∧ (gb343 ≠ s_.2.1) ∧ (s_.2.1 ≠ gb343) ∧ (s_.2.2 ≠ s_.2.1) ∧ (s_.2.1 ≠ s_.2.2) ∧ (w.heap.size ≤ s_.2.2) ∧ (w.heap.size ≤ s_.2.2) ∧ (gb328 ≠ s_.2.2) ∧ (s_.2.2 ≠ gb328) ∧ (gb329 ≠ s_.2.2) ∧ (s_.2.2 ≠ gb329) ∧ (gb330 ≠ s_.2.2) ∧ (s_.2.2 ≠ gb330) ∧ (gb342 ≠ s_.2.2) ∧ (s_.2.2 ≠ gb342) ∧ (gb343 ≠ s_.2.2) ∧ (s_.2.2 ≠ gb343) ∧ (Below w.heap.size w w')) ?_ ?_
       rotate_left
       · intro hJ2_6_7
         refine join_ (σ := Value × Value) 4 #[true, true, true, true, true, true, false, false, false, false] (fun s_ => [(32, .agg #[.int .i64 t344, .int .i64 t345, s_.1]), (35, .agg #[.int .i64 t349, .int .i64 t350, s_.2])]) (fun s_ w' => (w'.cell? ⟨gb342, 0, none⟩ = some (.int .i64 t332) ∧ w'.cell? ⟨gb342, 1, none⟩ = some (.int .i64 t333) ∧ w'.cell? ⟨gb342, 2, none⟩ = some (.slice Ao25 t334.length co25) ∧ w'.cell? ⟨gb343, 0, none⟩ = some (.int .i64 t337) ∧ w'.cell? ⟨gb343, 1, none⟩ = some (.int .i64 t338) ∧ w'.cell? ⟨gb343, 2, none⟩ = some (.slice Ao29 t339.length co29) ∧ w'.cell? ⟨gb328, 0, none⟩ = some (.int .i64 a0_0) ∧ w'.cell? ⟨gb328, 1, none⟩ = some (.int .i64 a0_1) ∧ w'.cell? ⟨gb328, 2, none⟩ = some (.slice A0_2 l0_2.length c0_2) ∧ w'.cell? ⟨gb329, 0, none⟩ = some (.int .i64 a1_0) ∧ w'.cell? ⟨gb329, 1, none⟩ = some (.int .i64 a1_1) ∧ w'.cell? ⟨gb329, 2, none⟩ = some (.slice A1_2 l1_2.length c1_2)) ∧ (Kd.N k24 24 w' w.heap.size (fun k_ => some k_ ≠ (.slice Ao29 t339.length co29 : Value).ownBlock ∧ some k_ ≠ (s_.1 : Value).ownBlock ∧ some k_ ≠ (s_.2 : Value).ownBlock ∧ k_ ≠ gb328 ∧ k_ ≠ gb329 ∧ k_ ≠ gb330 ∧ k_ ≠ gb342 ∧ k_ ≠ gb343) (.slice Ao25 t334.length co25) t334) ∧ (Kd.N k24 24 w' w.heap.size (fun k_ => some k_ ≠ (.slice Ao25 t334.length co25 : Value).ownBlock ∧ some k_ ≠ (s_.1 : Value).ownBlock ∧ some k_ ≠ (s_.2 : Value).ownBlock ∧ k_ ≠ gb328 ∧ k_ ≠ gb329 ∧ k_ ≠ gb330 ∧ k_ ≠ gb342 ∧ k_ ≠ gb343) (.slice Ao29 t339.length co29) t339) ∧ (Kd.N k24 24 w' w.heap.size (fun k_ => some k_ ≠ (s_.2 : Value).ownBlock ∧ k_ ≠ gb328 ∧ k_ ≠ gb329 ∧ k_ ≠ gb330 ∧ k_ ≠ gb342 ∧ k_ ≠ gb343) s_.1 t346) ∧ (Kd.N k24 24 w' w.heap.size (fun k_ => some k_ ≠ (.slice Ao25 t334.length co25 : Value).ownBlock ∧ some k_ ≠ (.slice Ao29 t339.length co29 : Value).ownBlock ∧ some k_ ≠ (s_.1 : Value).ownBlock ∧ k_ ≠ gb328 ∧ k_ ≠ gb329 ∧ k_ ≠ gb330 ∧ k_ ≠ gb342 ∧ k_ ≠ gb343) s_.2 t351) ∧ (w'.heap[gb328]? = some (.cells #[.int .i64 a0_0, .int .i64 a0_1, .slice A0_2 l0_2.length c0_2] 24 (0, 0))) ∧ (w'.heap[gb329]? = some (.cells #[.int .i64 a1_0, .int .i64 a1_1, .slice A1_2 l1_2.length c1_2] 24 (0, 0))) ∧ (w'.heap[gb330]? = some (.cells #[.int .i64 a4_0, .int .i64 a4_1, .int .i64 a4_2, .int .i64 a4_3, .int .i64 a4_4, .int .i64 a4_5, .int .i64 a4_6, .int .i64 a4_7] 25 (0, 0))) ∧ (w'.heap[gb342]? = some (.cells #[.int .i64 t332, .int .i64 t333, .slice Ao25 t334.length co25] 24 (0, 0))) ∧ (w'.heap[gb343]? = some (.cells #[.int .i64 t337, .int .i64 t338, .slice Ao29 t339.length co29] 24 (0, 0))) ∧ (Below w.heap.size w w')) ?_ ?_
         rotate_left
         · intro hJ2_5
           refine join_ (σ := Value × Nat) 4 #[true, true, true, true, true, false, true, false, false, false] (fun s_ => [(32, .agg #[.int .i64 t344, .int .i64 t345, s_.1]), (14, .pointer (some ⟨s_.2, 0, none⟩))]) (fun s_ w' => (w'.cell? ⟨gb342, 0, none⟩ = some (.int .i64 t332) ∧ w'.cell? ⟨gb342, 1, none⟩ = some (.int .i64 t333) ∧ w'.cell? ⟨gb342, 2, none⟩ = some (.slice Ao25 t334.length co25) ∧ w'.cell? ⟨gb343, 0, none⟩ = some (.int .i64 t337) ∧ w'.cell? ⟨gb343, 1, none⟩ = some (.int .i64 t338) ∧ w'.cell? ⟨gb343, 2, none⟩ = some (.slice Ao29 t339.length co29) ∧ w'.cell? ⟨gb328, 0, none⟩ = some (.int .i64 a0_0) ∧ w'.cell? ⟨gb328, 1, none⟩ = some (.int .i64 a0_1) ∧ w'.cell? ⟨gb328, 2, none⟩ = some (.slice A0_2 l0_2.length c0_2) ∧ w'.cell? ⟨gb329, 0, none⟩ = some (.int .i64 a1_0) ∧ w'.cell? ⟨gb329, 1, none⟩ = some (.int .i64 a1_1) ∧ w'.cell? ⟨gb329, 2, none⟩ = some (.slice A1_2 l1_2.length c1_2)) ∧ (Kd.N k24 24 w' w.heap.size (fun k_ => some k_ ≠ (.slice Ao29 t339.length co29 : Value).ownBlock ∧ some k_ ≠ (s_.1 : Value).ownBlock ∧ k_ ≠ gb328 ∧ k_ ≠ gb329 ∧ k_ ≠ gb330 ∧ k_ ≠ gb342 ∧ k_ ≠ gb343 ∧ k_ ≠ s_.2) (.slice Ao25 t334.length co25) t334) ∧ (Kd.N k24 24 w' w.heap.size (fun k_ => some k_ ≠ (.slice Ao25 t334.length co25 : Value).ownBlock ∧ some k_ ≠ (s_.1 : Value).ownBlock ∧ k_ ≠ gb328 ∧ k_ ≠ gb329 ∧ k_ ≠ gb330 ∧ k_ ≠ gb342 ∧ k_ ≠ gb343 ∧ k_ ≠ s_.2) (.slice Ao29 t339.length co29) t339) ∧ (Kd.N k24 24 w' w.heap.size (fun k_ => k_ ≠ gb328 ∧ k_ ≠ gb329 ∧ k_ ≠ gb330 ∧ k_ ≠ gb342 ∧ k_ ≠ gb343 ∧ k_ ≠ s_.2) s_.1 t346) ∧ (w'.heap[gb328]? = some (.cells #[.int .i64 a0_0, .int .i64 a0_1, .slice A0_2 l0_2.length c0_2] 24 (0, 0))) ∧ (w'.heap[gb329]? = some (.cells #[.int .i64 a1_0, .int .i64 a1_1, .slice A1_2 l1_2.length c1_2] 24 (0, 0))) ∧ (w'.heap[gb330]? = some (.cells #[.int .i64 a4_0, .int .i64 a4_1, .int .i64 a4_2, .int .i64 a4_3, .int .i64 a4_4, .int .i64 a4_5, .int .i64 a4_6, .int .i64 a4_7] 25 (0, 0))) ∧ (w'.heap[gb342]? = some (.cells #[.int .i64 t332, .int .i64 t333, .slice Ao25 t334.length co25] 24 (0, 0))) ∧ (w'.heap[gb343]? = some (.cells #[.int .i64 t337, .int .i64 t338, .slice Ao29 t339.length co29] 24 (0, 0))) ∧ (w'.heap[s_.2]? = some (.cells #[.int .i64 0, .int .i64 0, .slice none 0 0] 24 (0, 0))) ∧ (w.heap.size ≤ s_.2) ∧ (w.heap.size ≤ s_.2) ∧ (gb328 ≠ s_.2) ∧ (s_.2 ≠ gb328) ∧ (gb329 ≠ s_.2) ∧ (s_.2 ≠ gb329) ∧ (gb330 ≠ s_.2) ∧ (s_.2 ≠ gb330) ∧ (gb342 ≠ s_.2) ∧ (s_.2 ≠ gb342) ∧ (gb343 ≠ s_.2) ∧ (s_.2 ≠ gb343) ∧ (Below w.heap.size w w')) ?_ ?_
           rotate_left
           · intro hJ2_6
             refine join_ (σ := Value × Nat) 4 #[true, true, true, true, true, false, false, true, false, false] (fun s_ => [(32, .agg #[.int .i64 t344, .int .i64 t345, s_.1]), (15, .pointer (some ⟨s_.2, 0, none⟩))]) (fun s_ w' => (w'.cell? ⟨gb342, 0, none⟩ = some (.int .i64 t332) ∧ w'.cell? ⟨gb342, 1, none⟩ = some (.int .i64 t333) ∧ w'.cell? ⟨gb342, 2, none⟩ = some (.slice Ao25 t334.length co25) ∧ w'.cell? ⟨gb343, 0, none⟩ = some (.int .i64 t337) ∧ w'.cell? ⟨gb343, 1, none⟩ = some (.int .i64 t338) ∧ w'.cell? ⟨gb343, 2, none⟩ = some (.slice Ao29 t339.length co29) ∧ w'.cell? ⟨gb328, 0, none⟩ = some (.int .i64 a0_0) ∧ w'.cell? ⟨gb328, 1, none⟩ = some (.int .i64 a0_1) ∧ w'.cell? ⟨gb328, 2, none⟩ = some (.slice A0_2 l0_2.length c0_2) ∧ w'.cell? ⟨gb329, 0, none⟩ = some (.int .i64 a1_0) ∧ w'.cell? ⟨gb329, 1, none⟩ = some (.int .i64 a1_1) ∧ w'.cell? ⟨gb329, 2, none⟩ = some (.slice A1_2 l1_2.length c1_2)) ∧ (Kd.N k24 24 w' w.heap.size (fun k_ => some k_ ≠ (.slice Ao29 t339.length co29 : Value).ownBlock ∧ some k_ ≠ (s_.1 : Value).ownBlock ∧ k_ ≠ gb328 ∧ k_ ≠ gb329 ∧ k_ ≠ gb330 ∧ k_ ≠ gb342 ∧ k_ ≠ gb343 ∧ k_ ≠ s_.2) (.slice Ao25 t334.length co25) t334) ∧ (Kd.N k24 24 w' w.heap.size (fun k_ => some k_ ≠ (.slice Ao25 t334.length co25 : Value).ownBlock ∧ some k_ ≠ (s_.1 : Value).ownBlock ∧ k_ ≠ gb328 ∧ k_ ≠ gb329 ∧ k_ ≠ gb330 ∧ k_ ≠ gb342 ∧ k_ ≠ gb343 ∧ k_ ≠ s_.2) (.slice Ao29 t339.length co29) t339) ∧ (Kd.N k24 24 w' w.heap.size (fun k_ => k_ ≠ gb328 ∧ k_ ≠ gb329 ∧ k_ ≠ gb330 ∧ k_ ≠ gb342 ∧ k_ ≠ gb343 ∧ k_ ≠ s_.2) s_.1 t346) ∧ (w'.heap[gb328]? = some (.cells #[.int .i64 a0_0, .int .i64 a0_1, .slice A0_2 l0_2.length c0_2] 24 (0, 0))) ∧ (w'.heap[gb329]? = some (.cells #[.int .i64 a1_0, .int .i64 a1_1, .slice A1_2 l1_2.length c1_2] 24 (0, 0))) ∧ (w'.heap[gb330]? = some (.cells #[.int .i64 a4_0, .int .i64 a4_1, .int .i64 a4_2, .int .i64 a4_3, .int .i64 a4_4, .int .i64 a4_5, .int .i64 a4_6, .int .i64 a4_7] 25 (0, 0))) ∧ (w'.heap[gb342]? = some (.cells #[.int .i64 t332, .int .i64 t333, .slice Ao25 t334.length co25] 24 (0, 0))) ∧ (w'.heap[gb343]? = some (.cells #[.int .i64 t337, .int .i64 t338, .slice Ao29 t339.length co29] 24 (0, 0))) ∧ (w'.heap[s_.2]? = some (.cells #[.int .i64 0, .int .i64 0, .slice none 0 0] 24 (0, 0))) ∧ (w.heap.size ≤ s_.2) ∧ (w.heap.size ≤ s_.2) ∧ (gb328 ≠ s_.2) ∧ (s_.2 ≠ gb328) ∧ (gb329 ≠ s_.2) ∧ (s_.2 ≠ gb329) ∧ (gb330 ≠ s_.2) ∧ (s_.2 ≠ gb330) ∧ (gb342 ≠ s_.2) ∧ (s_.2 ≠ gb342) ∧ (gb343 ≠ s_.2) ∧ (s_.2 ≠ gb343) ∧ (Below w.heap.size w w')) ?_ ?_
             rotate_left
             · intro hJ2_7
               refine join_ (σ := Nat × Nat) 4 #[true, true, false, true, true, false, true, true, false, false] (fun s_ => [(14, .pointer (some ⟨s_.1, 0, none⟩)), (15, .pointer (some ⟨s_.2, 0, none⟩))]) (fun s_ w' => (w'.cell? ⟨gb342, 0, none⟩ = some (.int .i64 t332) ∧ w'.cell? ⟨gb342, 1, none⟩ = some (.int .i64 t333) ∧ w'.cell? ⟨gb342, 2, none⟩ = some (.slice Ao25 t334.length co25) ∧ w'.cell? ⟨gb343, 0, none⟩ = some (.int .i64 t337) ∧ w'.cell? ⟨gb343, 1, none⟩ = some (.int .i64 t338) ∧ w'.cell? ⟨gb343, 2, none⟩ = some (.slice Ao29 t339.length co29) ∧ w'.cell? ⟨gb328, 0, none⟩ = some (.int .i64 a0_0) ∧ w'.cell? ⟨gb328, 1, none⟩ = some (.int .i64 a0_1) ∧ w'.cell? ⟨gb328, 2, none⟩ = some (.slice A0_2 l0_2.length c0_2) ∧ w'.cell? ⟨gb329, 0, none⟩ = some (.int .i64 a1_0) ∧ w'.cell? ⟨gb329, 1, none⟩ = some (.int .i64 a1_1) ∧ w'.cell? ⟨gb329, 2, none⟩ = some (.slice A1_2 l1_2.length c1_2)) ∧ (Kd.N k24 24 w' w.heap.size (fun k_ => some k_ ≠ (.slice Ao29 t339.length co29 : Value).ownBlock ∧ k_ ≠ gb328 ∧ k_ ≠ gb329 ∧ k_ ≠ gb330 ∧ k_ ≠ gb342 ∧ k_ ≠ gb343 ∧ k_ ≠ s_.1 ∧ k_ ≠ s_.2) (.slice Ao25 t334.length co25) t334) ∧ (Kd.N k24 24 w' w.heap.size (fun k_ => some k_ ≠ (.slice Ao25 t334.length co25 : Value).ownBlock ∧ k_ ≠ gb328 ∧ k_ ≠ gb329 ∧ k_ ≠ gb330 ∧ k_ ≠ gb342 ∧ k_ ≠ gb343 ∧ k_ ≠ s_.1 ∧ k_ ≠ s_.2) (.slice Ao29 t339.length co29) t339) ∧ (w'.heap[gb328]? = some (.cells #[.int .i64 a0_0, .int .i64 a0_1, .slice A0_2 l0_2.length c0_2] 24 (0, 0))) ∧ (w'.heap[gb329]? = some (.cells #[.int .i64 a1_0, .int .i64 a1_1, .slice A1_2 l1_2.length c1_2] 24 (0, 0))) ∧ (w'.heap[gb330]? = some (.cells #[.int .i64 a4_0, .int .i64 a4_1, .int .i64 a4_2, .int .i64 a4_3, .int .i64 a4_4, .int .i64 a4_5, .int .i64 a4_6, .int .i64 a4_7] 25 (0, 0))) ∧ (w'.heap[gb342]? = some (.cells #[.int .i64 t332, .int .i64 t333, .slice Ao25 t334.length co25] 24 (0, 0))) ∧ (w'.heap[gb343]? = some (.cells #[.int .i64 t337, .int .i64 t338, .slice Ao29 t339.length co29] 24 (0, 0))) ∧ (w'.heap[s_.1]? = some (.cells #[.int .i64 0, .int .i64 0, .slice none 0 0] 24 (0, 0))) ∧ (w'.heap[s_.2]? = some (.cells #[.int .i64 0, .int .i64 0, .slice none 0 0] 24 (0, 0))) ∧ (w.heap.size ≤ s_.1) ∧ (w.heap.size ≤ s_.1) ∧ (gb328 ≠ s_.1) ∧ (s_.1 ≠ gb328) ∧ (gb329 ≠ s_.1) ∧ (s_.1 ≠ gb329) ∧ (gb330 ≠ s_.1) ∧ (s_.1 ≠ gb330) ∧ (gb342 ≠ s_.1) ∧ (s_.1 ≠ gb342) ∧ (gb343 ≠ s_.1) ∧ (s_.1 ≠ gb343) ∧ (s_.2 ≠ s_.1) ∧ (s_.1 ≠ s_.2) ∧ (w.heap.size ≤ s_.2) ∧ (w.heap.size ≤ s_.2) ∧ (gb328 ≠ s_.2) ∧ (s_.2 ≠ gb328) ∧ (gb329 ≠ s_.2) ∧ (s_.2 ≠ gb329) ∧ (gb330 ≠ s_.2) ∧ (s_.2 ≠ gb330) ∧ (gb342 ≠ s_.2) ∧ (s_.2 ≠ gb342) ∧ (gb343 ≠ s_.2) ∧ (s_.2 ≠ gb343) ∧ (Below w.heap.size w w')) ?_ ?_
               rotate_left
               · intro hJ6_7
                 refine join_ (σ := Value) 5 #[true, true, true, true, true, false, false, false, false, false] (fun s_ => [(32, .agg #[.int .i64 t344, .int .i64 t345, s_])]) (fun s_ w' => (w'.cell? ⟨gb342, 0, none⟩ = some (.int .i64 t332) ∧ w'.cell? ⟨gb342, 1, none⟩ = some (.int .i64 t333) ∧ w'.cell? ⟨gb342, 2, none⟩ = some (.slice Ao25 t334.length co25) ∧ w'.cell? ⟨gb343, 0, none⟩ = some (.int .i64 t337) ∧ w'.cell? ⟨gb343, 1, none⟩ = some (.int .i64 t338) ∧ w'.cell? ⟨gb343, 2, none⟩ = some (.slice Ao29 t339.length co29) ∧ w'.cell? ⟨gb328, 0, none⟩ = some (.int .i64 a0_0) ∧ w'.cell? ⟨gb328, 1, none⟩ = some (.int .i64 a0_1) ∧ w'.cell? ⟨gb328, 2, none⟩ = some (.slice A0_2 l0_2.length c0_2) ∧ w'.cell? ⟨gb329, 0, none⟩ = some (.int .i64 a1_0) ∧ w'.cell? ⟨gb329, 1, none⟩ = some (.int .i64 a1_1) ∧ w'.cell? ⟨gb329, 2, none⟩ = some (.slice A1_2 l1_2.length c1_2)) ∧ (Kd.N k24 24 w' w.heap.size (fun k_ => some k_ ≠ (.slice Ao29 t339.length co29 : Value).ownBlock ∧ some k_ ≠ (s_ : Value).ownBlock ∧ k_ ≠ gb328 ∧ k_ ≠ gb329 ∧ k_ ≠ gb330 ∧ k_ ≠ gb342 ∧ k_ ≠ gb343) (.slice Ao25 t334.length co25) t334) ∧ (Kd.N k24 24 w' w.heap.size (fun k_ => some k_ ≠ (.slice Ao25 t334.length co25 : Value).ownBlock ∧ some k_ ≠ (s_ : Value).ownBlock ∧ k_ ≠ gb328 ∧ k_ ≠ gb329 ∧ k_ ≠ gb330 ∧ k_ ≠ gb342 ∧ k_ ≠ gb343) (.slice Ao29 t339.length co29) t339) ∧ (Kd.N k24 24 w' w.heap.size (fun k_ => k_ ≠ gb328 ∧ k_ ≠ gb329 ∧ k_ ≠ gb330 ∧ k_ ≠ gb342 ∧ k_ ≠ gb343) s_ t346) ∧ (w'.heap[gb328]? = some (.cells #[.int .i64 a0_0, .int .i64 a0_1, .slice A0_2 l0_2.length c0_2] 24 (0, 0))) ∧ (w'.heap[gb329]? = some (.cells #[.int .i64 a1_0, .int .i64 a1_1, .slice A1_2 l1_2.length c1_2] 24 (0, 0))) ∧ (w'.heap[gb330]? = some (.cells #[.int .i64 a4_0, .int .i64 a4_1, .int .i64 a4_2, .int .i64 a4_3, .int .i64 a4_4, .int .i64 a4_5, .int .i64 a4_6, .int .i64 a4_7] 25 (0, 0))) ∧ (w'.heap[gb342]? = some (.cells #[.int .i64 t332, .int .i64 t333, .slice Ao25 t334.length co25] 24 (0, 0))) ∧ (w'.heap[gb343]? = some (.cells #[.int .i64 t337, .int .i64 t338, .slice Ao29 t339.length co29] 24 (0, 0))) ∧ (Below w.heap.size w w')) ?_ ?_
                 rotate_left
                 · intro hJ2
                   refine join_ (σ := Nat) 5 #[true, true, false, true, true, false, true, false, false, false] (fun s_ => [(14, .pointer (some ⟨s_, 0, none⟩))]) (fun s_ w' => (w'.cell? ⟨gb342, 0, none⟩ = some (.int .i64 t332) ∧ w'.cell? ⟨gb342, 1, none⟩ = some (.int .i64 t333) ∧ w'.cell? ⟨gb342, 2, none⟩ = some (.slice Ao25 t334.length co25) ∧ w'.cell? ⟨gb343, 0, none⟩ = some (.int .i64 t337) ∧ w'.cell? ⟨gb343, 1, none⟩ = some (.int .i64 t338) ∧ w'.cell? ⟨gb343, 2, none⟩ = some (.slice Ao29 t339.length co29) ∧ w'.cell? ⟨gb328, 0, none⟩ = some (.int .i64 a0_0) ∧ w'.cell? ⟨gb328, 1, none⟩ = some (.int .i64 a0_1) ∧ w'.cell? ⟨gb328, 2, none⟩ = some (.slice A0_2 l0_2.length c0_2) ∧ w'.cell? ⟨gb329, 0, none⟩ = some (.int .i64 a1_0) ∧ w'.cell? ⟨gb329, 1, none⟩ = some (.int .i64 a1_1) ∧ w'.cell? ⟨gb329, 2, none⟩ = some (.slice A1_2 l1_2.length c1_2)) ∧ (Kd.N k24 24 w' w.heap.size (fun k_ => some k_ ≠ (.slice Ao29 t339.length co29 : Value).ownBlock ∧ k_ ≠ gb328 ∧ k_ ≠ gb329 ∧ k_ ≠ gb330 ∧ k_ ≠ gb342 ∧ k_ ≠ gb343 ∧ k_ ≠ s_) (.slice Ao25 t334.length co25) t334) ∧ (Kd.N k24 24 w' w.heap.size (fun k_ => some k_ ≠ (.slice Ao25 t334.length co25 : Value).ownBlock ∧ k_ ≠ gb328 ∧ k_ ≠ gb329 ∧ k_ ≠ gb330 ∧ k_ ≠ gb342 ∧ k_ ≠ gb343 ∧ k_ ≠ s_) (.slice Ao29 t339.length co29) t339) ∧ (w'.heap[gb328]? = some (.cells #[.int .i64 a0_0, .int .i64 a0_1, .slice A0_2 l0_2.length c0_2] 24 (0, 0))) ∧ (w'.heap[gb329]? = some (.cells #[.int .i64 a1_0, .int .i64 a1_1, .slice A1_2 l1_2.length c1_2] 24 (0, 0))) ∧ (w'.heap[gb330]? = some (.cells #[.int .i64 a4_0, .int .i64 a4_1, .int .i64 a4_2, .int .i64 a4_3, .int .i64 a4_4, .int .i64 a4_5, .int .i64 a4_6, .int .i64 a4_7] 25 (0, 0))) ∧ (w'.heap[gb342]? = some (.cells #[.int .i64 t332, .int .i64 t333, .slice Ao25 t334.length co25] 24 (0, 0))) ∧ (w'.heap[gb343]? = some (.cells #[.int .i64 t337, .int .i64 t338, .slice Ao29 t339.length co29] 24 (0, 0))) ∧ (w'.heap[s_]? = some (.cells #[.int .i64 0, .int .i64 0, .slice none 0 0] 24 (0, 0))) ∧ (w.heap.size ≤ s_) ∧ (w.heap.size ≤ s_) ∧ (gb328 ≠ s_) ∧ (s_ ≠ gb328) ∧ (gb329 ≠ s_) ∧ (s_ ≠ gb329) ∧ (gb330 ≠ s_) ∧ (s_ ≠ gb330) ∧ (gb342 ≠ s_) ∧ (s_ ≠ gb342) ∧ (gb343 ≠ s_) ∧ (s_ ≠ gb343) ∧ (Below w.heap.size w w')) ?_ ?_
                   rotate_left
                   · intro hJ6
                     refine join_ (σ := Nat) 5 #[true, true, false, true, true, false, false, true, false, false] (fun s_ => [(15, .pointer (some ⟨s_, 0, none⟩))]) (fun s_ w' => (w'.cell? ⟨gb342, 0, none⟩ = some (.int .i64 t332) ∧ w'.cell? ⟨gb342, 1, none⟩ = some (.int .i64 t333) ∧ w'.cell? ⟨gb342, 2, none⟩ = some (.slice Ao25 t334.length co25) ∧ w'.cell? ⟨gb343, 0, none⟩ = some (.int .i64 t337) ∧ w'.cell? ⟨gb343, 1, none⟩ = some (.int .i64 t338) ∧ w'.cell? ⟨gb343, 2, none⟩ = some (.slice Ao29 t339.length co29) ∧ w'.cell? ⟨gb328, 0, none⟩ = some (.int .i64 a0_0) ∧ w'.cell? ⟨gb328, 1, none⟩ = some (.int .i64 a0_1) ∧ w'.cell? ⟨gb328, 2, none⟩ = some (.slice A0_2 l0_2.length c0_2) ∧ w'.cell? ⟨gb329, 0, none⟩ = some (.int .i64 a1_0) ∧ w'.cell? ⟨gb329, 1, none⟩ = some (.int .i64 a1_1) ∧ w'.cell? ⟨gb329, 2, none⟩ = some (.slice A1_2 l1_2.length c1_2)) ∧ (Kd.N k24 24 w' w.heap.size (fun k_ => some k_ ≠ (.slice Ao29 t339.length co29 : Value).ownBlock ∧ k_ ≠ gb328 ∧ k_ ≠ gb329 ∧ k_ ≠ gb330 ∧ k_ ≠ gb342 ∧ k_ ≠ gb343 ∧ k_ ≠ s_) (.slice Ao25 t334.length co25) t334) ∧ (Kd.N k24 24 w' w.heap.size (fun k_ => some k_ ≠ (.slice Ao25 t334.length co25 : Value).ownBlock ∧ k_ ≠ gb328 ∧ k_ ≠ gb329 ∧ k_ ≠ gb330 ∧ k_ ≠ gb342 ∧ k_ ≠ gb343 ∧ k_ ≠ s_) (.slice Ao29 t339.length co29) t339) ∧ (w'.heap[gb328]? = some (.cells #[.int .i64 a0_0, .int .i64 a0_1, .slice A0_2 l0_2.length c0_2] 24 (0, 0))) ∧ (w'.heap[gb329]? = some (.cells #[.int .i64 a1_0, .int .i64 a1_1, .slice A1_2 l1_2.length c1_2] 24 (0, 0))) ∧ (w'.heap[gb330]? = some (.cells #[.int .i64 a4_0, .int .i64 a4_1, .int .i64 a4_2, .int .i64 a4_3, .int .i64 a4_4, .int .i64 a4_5, .int .i64 a4_6, .int .i64 a4_7] 25 (0, 0))) ∧ (w'.heap[gb342]? = some (.cells #[.int .i64 t332, .int .i64 t333, .slice Ao25 t334.length co25] 24 (0, 0))) ∧ (w'.heap[gb343]? = some (.cells #[.int .i64 t337, .int .i64 t338, .slice Ao29 t339.length co29] 24 (0, 0))) ∧ (w'.heap[s_]? = some (.cells #[.int .i64 0, .int .i64 0, .slice none 0 0] 24 (0, 0))) ∧ (w.heap.size ≤ s_) ∧ (w.heap.size ≤ s_) ∧ (gb328 ≠ s_) ∧ (s_ ≠ gb328) ∧ (gb329 ≠ s_) ∧ (s_ ≠ gb329) ∧ (gb330 ≠ s_) ∧ (s_ ≠ gb330) ∧ (gb342 ≠ s_) ∧ (s_ ≠ gb342) ∧ (gb343 ≠ s_) ∧ (s_ ≠ gb343) ∧ (Below w.heap.size w w')) ?_ ?_
                     rotate_left
                     · intro hJ7
                       refine three_ (i := 2) (j := 6) (k := 7) (Ni := some 32) (Nj := some 14) (Nk := some 15) #[true, true, true, true, true, false, false, false, false, false] #[true, true, false, true, true, false, true, false, false, false] #[true, true, false, true, true, false, false, true, false, false] rfl rfl rfl rfl rfl rfl (three_of HT_.out (by kernel_rfl)) (by decide) (by decide) (by decide) (fun K hK => ?_) (fun K hK => ?_) (fun K hK => ?_)
                       · skip
                         refine goes_ Try.func22 (by kernel_rfl) rfl #[.int .i64 5, .agg #[.int .i64 t332, .int .i64 t333, .slice Ao25 t334.length co25], .agg #[.int .i64 t337, .int .i64 t338, .slice Ao29 t339.length co29]] (by rfl) rfl rfl (by (try simp only [List.map_toArray, List.map_cons, List.map_nil]); rfl) ?_
                         with_reducible refine (formelaw14_two.calls 5 t332 t333 (fun k_ => (some k_ ≠ (.slice Ao29 t339.length co29 : Value).ownBlock ∧ (k_ ≠ gb328 ∧ (k_ ≠ gb329 ∧ (k_ ≠ gb330 ∧ (k_ ≠ gb342 ∧ k_ ≠ gb343)))))) _ _ t334 t337 t338 (fun k_ => (some k_ ≠ (.slice Ao25 t334.length co25 : Value).ownBlock ∧ (k_ ≠ gb328 ∧ (k_ ≠ gb329 ∧ (k_ ≠ gb330 ∧ (k_ ≠ gb342 ∧ k_ ≠ gb343)))))) _ _ t339 t344 t345 t346 _ ?side1 ?side2 A9.out).mono ?_
                         (case side1 => exact Kd.N_V (HO336.out))
                         (case side2 => exact Kd.N_V (HO341.out))
                         rintro e w33 ⟨v347, rfl, ho0, hb⟩
                         refine ⟨_, rfl, ?_⟩
                         replace HO336 := Aside0.mk (Kd.N_elder' HO336.out (Kd.N_base ho0) hb)
                         replace HO341 := Aside0.mk (Kd.N_elder' HO341.out (Kd.N_base ho0) hb)
                         have HO348 := Aside0.mk (Kd.N_lower (Kd.N_mono (ok' := fun k_ => k_ ≠ gb328 ∧ k_ ≠ gb329 ∧ k_ ≠ gb330 ∧ k_ ≠ gb342 ∧ k_ ≠ gb343) ho0 (fun k_ hk_ => ⟨Or.elim hk_ (fun hs_ => Or.elim hs_ (fun hs_ => hs_.2.1) (fun hs_ => hs_.2.1)) (fun hn_ => (Kd.freshB BK328.out k_ hn_)), Or.elim hk_ (fun hs_ => Or.elim hs_ (fun hs_ => hs_.2.2.1) (fun hs_ => hs_.2.2.1)) (fun hn_ => (Kd.freshB BK329.out k_ hn_)), Or.elim hk_ (fun hs_ => Or.elim hs_ (fun hs_ => hs_.2.2.2.1) (fun hs_ => hs_.2.2.2.1)) (fun hn_ => (Kd.freshB BK330.out k_ hn_)), Or.elim hk_ (fun hs_ => Or.elim hs_ (fun hs_ => hs_.2.2.2.2.1) (fun hs_ => hs_.2.2.2.2.1)) (fun hn_ => (Kd.freshB BK342.out k_ hn_)), Or.elim hk_ (fun hs_ => Or.elim hs_ (fun hs_ => hs_.2.2.2.2.2) (fun hs_ => hs_.2.2.2.2.2)) (fun hn_ => (Kd.freshB BK343.out k_ hn_))⟩)) (below_size HB.out))
                         replace BK328 := Aside0.mk (blk_below BK328.out hb)
                         replace BK329 := Aside0.mk (blk_below BK329.out hb)
                         replace BK330 := Aside0.mk (blk_below BK330.out hb)
                         replace BK342 := Aside0.mk (blk_below BK342.out hb)
                         replace BK343 := Aside0.mk (blk_below BK343.out hb)
                         replace HB := Aside0.mk (below_step HB.out hb)
                         (try clear hb)
                         (try clear ho0)
                         refine hK.out _ _ ⟨(blk_cell BK342.out 0).trans rfl, (blk_cell BK342.out 1).trans rfl, (blk_cell BK342.out 2).trans rfl, (blk_cell BK343.out 0).trans rfl, (blk_cell BK343.out 1).trans rfl, (blk_cell BK343.out 2).trans rfl, (blk_cell BK328.out 0).trans rfl, (blk_cell BK328.out 1).trans rfl, (blk_cell BK328.out 2).trans rfl, (blk_cell BK329.out 0).trans rfl, (blk_cell BK329.out 1).trans rfl, (blk_cell BK329.out 2).trans rfl⟩ (fun hHeld => ?_)
                         clear hK K
                         refine norm_ (a' := ?_) ?_ ?_
                         rotate_left
                         · show Act.put _ (some 32) _ = _
                           simp only [Act.put, List.setIfInBounds_toArray, List.set_cons_zero, List.set_cons_succ, i64_w, i32_w]
                           rfl
                         exact norm_ (by (simp only [putAll, Act.put, List.setIfInBounds_toArray, List.set_cons_zero, List.set_cons_succ]; done)) (hJ2 (v347) _ ⟨hHeld, (by (with_reducible repeat (fail)); exact Kd.N_mono HO336.out (fun _ hk => ⟨hk.1.1, ⟨hk.2, ⟨hk.1.2.1, ⟨hk.1.2.2.1, ⟨hk.1.2.2.2.1, ⟨hk.1.2.2.2.2.1, hk.1.2.2.2.2.2⟩⟩⟩⟩⟩⟩)), (by (with_reducible repeat (fail)); exact Kd.N_mono HO341.out (fun _ hk => ⟨hk.1.1, ⟨hk.2, ⟨hk.1.2.1, ⟨hk.1.2.2.1, ⟨hk.1.2.2.2.1, ⟨hk.1.2.2.2.2.1, hk.1.2.2.2.2.2⟩⟩⟩⟩⟩⟩)), HO348.out, BK328.out, BK329.out, BK330.out, BK342.out, BK343.out, HB.out⟩)
                       · skip
                         refine box_step ?hg (N := 14) ?hd (cs := #[.int .i64 0, .int .i64 0, .slice none 0 0]) (t := 24) ?hr ?_; (case hd => rfl); (case hg => rfl); (case hr => (go_simp; done))
                         intro gb354 hg w33 hbox hb
                         replace HO336 := Aside0.mk (Kd.N_below (Kd.N_elderB HO336.out gb354 (Nat.le_of_eq hg.symm)) hb)
                         replace HO341 := Aside0.mk (Kd.N_below (Kd.N_elderB HO341.out gb354 (Nat.le_of_eq hg.symm)) hb)
                         have BK354 := Aside0.mk (hbox)
                         have GW354 := Aside0.mk ((by rw [hg]; exact (below_size HB.out) : w.heap.size ≤ gb354))
                         have GE354 := Aside0.mk ((by rw [hg]; exact (below_size HB.out) : w.heap.size ≤ gb354))
                         replace HB := Aside0.mk (below_step HB.out hb)
                         have NB328_354 := Aside0.mk ((by rw [hg]; exact Nat.ne_of_lt (blk_lt BK328.out) : gb328 ≠ gb354))
                         have NB354_328 := Aside0.mk ((by rw [hg]; exact Nat.ne_of_gt (blk_lt BK328.out) : gb354 ≠ gb328))
                         replace BK328 := Aside0.mk (blk_below BK328.out hb)
                         have NB329_354 := Aside0.mk ((by rw [hg]; exact Nat.ne_of_lt (blk_lt BK329.out) : gb329 ≠ gb354))
                         have NB354_329 := Aside0.mk ((by rw [hg]; exact Nat.ne_of_gt (blk_lt BK329.out) : gb354 ≠ gb329))
                         replace BK329 := Aside0.mk (blk_below BK329.out hb)
                         have NB330_354 := Aside0.mk ((by rw [hg]; exact Nat.ne_of_lt (blk_lt BK330.out) : gb330 ≠ gb354))
                         have NB354_330 := Aside0.mk ((by rw [hg]; exact Nat.ne_of_gt (blk_lt BK330.out) : gb354 ≠ gb330))
                         replace BK330 := Aside0.mk (blk_below BK330.out hb)
                         have NB342_354 := Aside0.mk ((by rw [hg]; exact Nat.ne_of_lt (blk_lt BK342.out) : gb342 ≠ gb354))
                         have NB354_342 := Aside0.mk ((by rw [hg]; exact Nat.ne_of_gt (blk_lt BK342.out) : gb354 ≠ gb342))
                         replace BK342 := Aside0.mk (blk_below BK342.out hb)
                         have NB343_354 := Aside0.mk ((by rw [hg]; exact Nat.ne_of_lt (blk_lt BK343.out) : gb343 ≠ gb354))
                         have NB354_343 := Aside0.mk ((by rw [hg]; exact Nat.ne_of_gt (blk_lt BK343.out) : gb354 ≠ gb343))
                         replace BK343 := Aside0.mk (blk_below BK343.out hb)
                         clear hb hbox hg
                         refine hK.out _ _ ⟨(blk_cell BK342.out 0).trans rfl, (blk_cell BK342.out 1).trans rfl, (blk_cell BK342.out 2).trans rfl, (blk_cell BK343.out 0).trans rfl, (blk_cell BK343.out 1).trans rfl, (blk_cell BK343.out 2).trans rfl, (blk_cell BK328.out 0).trans rfl, (blk_cell BK328.out 1).trans rfl, (blk_cell BK328.out 2).trans rfl, (blk_cell BK329.out 0).trans rfl, (blk_cell BK329.out 1).trans rfl, (blk_cell BK329.out 2).trans rfl⟩ (fun hHeld => ?_)
                         clear hK K
                         refine norm_ (a' := ?_) ?_ ?_
                         rotate_left
                         · show Act.put _ (some 14) _ = _
                           simp only [Act.put, List.setIfInBounds_toArray, List.set_cons_zero, List.set_cons_succ, i64_w, i32_w]
                           rfl
                         exact norm_ (by (simp only [putAll, Act.put, List.setIfInBounds_toArray, List.set_cons_zero, List.set_cons_succ]; done)) (hJ6 (gb354) _ ⟨hHeld, (by (with_reducible repeat (fail)); exact Kd.N_mono HO336.out (fun _ hk => ⟨hk.1.1, ⟨hk.1.2.1, ⟨hk.1.2.2.1, ⟨hk.1.2.2.2.1, ⟨hk.1.2.2.2.2.1, ⟨hk.1.2.2.2.2.2, hk.2⟩⟩⟩⟩⟩⟩)), (by (with_reducible repeat (fail)); exact Kd.N_mono HO341.out (fun _ hk => ⟨hk.1.1, ⟨hk.1.2.1, ⟨hk.1.2.2.1, ⟨hk.1.2.2.2.1, ⟨hk.1.2.2.2.2.1, ⟨hk.1.2.2.2.2.2, hk.2⟩⟩⟩⟩⟩⟩)), BK328.out, BK329.out, BK330.out, BK342.out, BK343.out, BK354.out, GW354.out, GE354.out, NB328_354.out, NB354_328.out, NB329_354.out, NB354_329.out, NB330_354.out, NB354_330.out, NB342_354.out, NB354_342.out, NB343_354.out, NB354_343.out, HB.out⟩)
                       · skip
                         refine box_step ?hg (N := 15) ?hd (cs := #[.int .i64 0, .int .i64 0, .slice none 0 0]) (t := 24) ?hr ?_; (case hd => rfl); (case hg => rfl); (case hr => (go_simp; done))
                         intro gb355 hg w33 hbox hb
                         replace HO336 := Aside0.mk (Kd.N_below (Kd.N_elderB HO336.out gb355 (Nat.le_of_eq hg.symm)) hb)
                         replace HO341 := Aside0.mk (Kd.N_below (Kd.N_elderB HO341.out gb355 (Nat.le_of_eq hg.symm)) hb)
                         have BK355 := Aside0.mk (hbox)
                         have GW355 := Aside0.mk ((by rw [hg]; exact (below_size HB.out) : w.heap.size ≤ gb355))
                         have GE355 := Aside0.mk ((by rw [hg]; exact (below_size HB.out) : w.heap.size ≤ gb355))
                         replace HB := Aside0.mk (below_step HB.out hb)
                         have NB328_355 := Aside0.mk ((by rw [hg]; exact Nat.ne_of_lt (blk_lt BK328.out) : gb328 ≠ gb355))
                         have NB355_328 := Aside0.mk ((by rw [hg]; exact Nat.ne_of_gt (blk_lt BK328.out) : gb355 ≠ gb328))
                         replace BK328 := Aside0.mk (blk_below BK328.out hb)
                         have NB329_355 := Aside0.mk ((by rw [hg]; exact Nat.ne_of_lt (blk_lt BK329.out) : gb329 ≠ gb355))
                         have NB355_329 := Aside0.mk ((by rw [hg]; exact Nat.ne_of_gt (blk_lt BK329.out) : gb355 ≠ gb329))
                         replace BK329 := Aside0.mk (blk_below BK329.out hb)
                         have NB330_355 := Aside0.mk ((by rw [hg]; exact Nat.ne_of_lt (blk_lt BK330.out) : gb330 ≠ gb355))
                         have NB355_330 := Aside0.mk ((by rw [hg]; exact Nat.ne_of_gt (blk_lt BK330.out) : gb355 ≠ gb330))
                         replace BK330 := Aside0.mk (blk_below BK330.out hb)
                         have NB342_355 := Aside0.mk ((by rw [hg]; exact Nat.ne_of_lt (blk_lt BK342.out) : gb342 ≠ gb355))
                         have NB355_342 := Aside0.mk ((by rw [hg]; exact Nat.ne_of_gt (blk_lt BK342.out) : gb355 ≠ gb342))
                         replace BK342 := Aside0.mk (blk_below BK342.out hb)
                         have NB343_355 := Aside0.mk ((by rw [hg]; exact Nat.ne_of_lt (blk_lt BK343.out) : gb343 ≠ gb355))
                         have NB355_343 := Aside0.mk ((by rw [hg]; exact Nat.ne_of_gt (blk_lt BK343.out) : gb355 ≠ gb343))
                         replace BK343 := Aside0.mk (blk_below BK343.out hb)
                         clear hb hbox hg
                         refine hK.out _ _ ⟨(blk_cell BK342.out 0).trans rfl, (blk_cell BK342.out 1).trans rfl, (blk_cell BK342.out 2).trans rfl, (blk_cell BK343.out 0).trans rfl, (blk_cell BK343.out 1).trans rfl, (blk_cell BK343.out 2).trans rfl, (blk_cell BK328.out 0).trans rfl, (blk_cell BK328.out 1).trans rfl, (blk_cell BK328.out 2).trans rfl, (blk_cell BK329.out 0).trans rfl, (blk_cell BK329.out 1).trans rfl, (blk_cell BK329.out 2).trans rfl⟩ (fun hHeld => ?_)
                         clear hK K
                         refine norm_ (a' := ?_) ?_ ?_
                         rotate_left
                         · show Act.put _ (some 15) _ = _
                           simp only [Act.put, List.setIfInBounds_toArray, List.set_cons_zero, List.set_cons_succ, i64_w, i32_w]
                           rfl
                         exact norm_ (by (simp only [putAll, Act.put, List.setIfInBounds_toArray, List.set_cons_zero, List.set_cons_succ]; done)) (hJ7 (gb355) _ ⟨hHeld, (by (with_reducible repeat (fail)); exact Kd.N_mono HO336.out (fun _ hk => ⟨hk.1.1, ⟨hk.1.2.1, ⟨hk.1.2.2.1, ⟨hk.1.2.2.2.1, ⟨hk.1.2.2.2.2.1, ⟨hk.1.2.2.2.2.2, hk.2⟩⟩⟩⟩⟩⟩)), (by (with_reducible repeat (fail)); exact Kd.N_mono HO341.out (fun _ hk => ⟨hk.1.1, ⟨hk.1.2.1, ⟨hk.1.2.2.1, ⟨hk.1.2.2.2.1, ⟨hk.1.2.2.2.2.1, ⟨hk.1.2.2.2.2.2, hk.2⟩⟩⟩⟩⟩⟩)), BK328.out, BK329.out, BK330.out, BK342.out, BK343.out, BK355.out, GW355.out, GE355.out, NB328_355.out, NB355_328.out, NB329_355.out, NB355_329.out, NB330_355.out, NB355_330.out, NB342_355.out, NB355_342.out, NB343_355.out, NB355_343.out, HB.out⟩)
                     · skip
                       rintro gb355 w34 ⟨hS_, h0_, h1_, h2_, h3_, h4_, h5_, h6_, h7_, h8_, h9_, h10_, h11_, h12_, h13_, h14_, h15_, h16_, h17_, h18_, h19_, h20_⟩
                       replace HO336 : Aside0 (Kd.N k24 24 w34 w.heap.size (fun k_ => some k_ ≠ (.slice Ao29 t339.length co29 : Value).ownBlock ∧ k_ ≠ gb328 ∧ k_ ≠ gb329 ∧ k_ ≠ gb330 ∧ k_ ≠ gb342 ∧ k_ ≠ gb343 ∧ k_ ≠ gb355) (.slice Ao25 t334.length co25) t334) := ⟨h0_⟩
                       replace HO341 : Aside0 (Kd.N k24 24 w34 w.heap.size (fun k_ => some k_ ≠ (.slice Ao25 t334.length co25 : Value).ownBlock ∧ k_ ≠ gb328 ∧ k_ ≠ gb329 ∧ k_ ≠ gb330 ∧ k_ ≠ gb342 ∧ k_ ≠ gb343 ∧ k_ ≠ gb355) (.slice Ao29 t339.length co29) t339) := ⟨h1_⟩
                       replace BK328 : Aside0 (w34.heap[gb328]? = some (.cells #[.int .i64 a0_0, .int .i64 a0_1, .slice A0_2 l0_2.length c0_2] 24 (0, 0))) := ⟨h2_⟩
                       replace BK329 : Aside0 (w34.heap[gb329]? = some (.cells #[.int .i64 a1_0, .int .i64 a1_1, .slice A1_2 l1_2.length c1_2] 24 (0, 0))) := ⟨h3_⟩
                       replace BK330 : Aside0 (w34.heap[gb330]? = some (.cells #[.int .i64 a4_0, .int .i64 a4_1, .int .i64 a4_2, .int .i64 a4_3, .int .i64 a4_4, .int .i64 a4_5, .int .i64 a4_6, .int .i64 a4_7] 25 (0, 0))) := ⟨h4_⟩
                       replace BK342 : Aside0 (w34.heap[gb342]? = some (.cells #[.int .i64 t332, .int .i64 t333, .slice Ao25 t334.length co25] 24 (0, 0))) := ⟨h5_⟩
                       replace BK343 : Aside0 (w34.heap[gb343]? = some (.cells #[.int .i64 t337, .int .i64 t338, .slice Ao29 t339.length co29] 24 (0, 0))) := ⟨h6_⟩
                       have BK355 : Aside0 (w34.heap[gb355]? = some (.cells #[.int .i64 0, .int .i64 0, .slice none 0 0] 24 (0, 0))) := ⟨h7_⟩
                       have GW355 : Aside0 (w.heap.size ≤ gb355) := ⟨h8_⟩
                       have GE355 : Aside0 (w.heap.size ≤ gb355) := ⟨h9_⟩
                       have NB328_355 : Aside0 (gb328 ≠ gb355) := ⟨h10_⟩
                       have NB355_328 : Aside0 (gb355 ≠ gb328) := ⟨h11_⟩
                       have NB329_355 : Aside0 (gb329 ≠ gb355) := ⟨h12_⟩
                       have NB355_329 : Aside0 (gb355 ≠ gb329) := ⟨h13_⟩
                       have NB330_355 : Aside0 (gb330 ≠ gb355) := ⟨h14_⟩
                       have NB355_330 : Aside0 (gb355 ≠ gb330) := ⟨h15_⟩
                       have NB342_355 : Aside0 (gb342 ≠ gb355) := ⟨h16_⟩
                       have NB355_342 : Aside0 (gb355 ≠ gb342) := ⟨h17_⟩
                       have NB343_355 : Aside0 (gb343 ≠ gb355) := ⟨h18_⟩
                       have NB355_343 : Aside0 (gb355 ≠ gb343) := ⟨h19_⟩
                       replace HB : Aside0 (Below w.heap.size w w34) := ⟨h20_⟩
                       clear h0_ h1_ h2_ h3_ h4_ h5_ h6_ h7_ h8_ h9_ h10_ h11_ h12_ h13_ h14_ h15_ h16_ h17_ h18_ h19_ h20_
                       have hHeld : w34.cell? ⟨gb342, 0, none⟩ = some (.int .i64 t332) ∧ w34.cell? ⟨gb342, 1, none⟩ = some (.int .i64 t333) ∧ w34.cell? ⟨gb342, 2, none⟩ = some (.slice Ao25 t334.length co25) ∧ w34.cell? ⟨gb343, 0, none⟩ = some (.int .i64 t337) ∧ w34.cell? ⟨gb343, 1, none⟩ = some (.int .i64 t338) ∧ w34.cell? ⟨gb343, 2, none⟩ = some (.slice Ao29 t339.length co29) ∧ w34.cell? ⟨gb328, 0, none⟩ = some (.int .i64 a0_0) ∧ w34.cell? ⟨gb328, 1, none⟩ = some (.int .i64 a0_1) ∧ w34.cell? ⟨gb328, 2, none⟩ = some (.slice A0_2 l0_2.length c0_2) ∧ w34.cell? ⟨gb329, 0, none⟩ = some (.int .i64 a1_0) ∧ w34.cell? ⟨gb329, 1, none⟩ = some (.int .i64 a1_1) ∧ w34.cell? ⟨gb329, 2, none⟩ = some (.slice A1_2 l1_2.length c1_2) := hS_
                       refine norm_ (a' := ?_) ?_ ?_
                       rotate_left
                       · simp only [putAll, Act.put, List.setIfInBounds_toArray, List.set_cons_zero, List.set_cons_succ]
                         rfl
                       refine two_ (i := 2) (j := 6) (Ni := some 32) (Nj := some 14) #[true, true, true, true, true, false, false, true, false, false] #[true, true, false, true, true, false, true, true, false, false] rfl rfl rfl rfl (two_of HT_.out (by kernel_rfl)) (by decide) (by decide) (fun K hK => ?_) (fun K hK => ?_)
                       · skip
                         refine goes_ Try.func22 (by kernel_rfl) rfl #[.int .i64 5, .agg #[.int .i64 t332, .int .i64 t333, .slice Ao25 t334.length co25], .agg #[.int .i64 t337, .int .i64 t338, .slice Ao29 t339.length co29]] (by rfl) rfl rfl (by (try simp only [List.map_toArray, List.map_cons, List.map_nil]); rfl) ?_
                         with_reducible refine (formelaw14_two.calls 5 t332 t333 (fun k_ => (some k_ ≠ (.slice Ao29 t339.length co29 : Value).ownBlock ∧ (k_ ≠ gb328 ∧ (k_ ≠ gb329 ∧ (k_ ≠ gb330 ∧ (k_ ≠ gb342 ∧ (k_ ≠ gb343 ∧ k_ ≠ gb355))))))) _ _ t334 t337 t338 (fun k_ => (some k_ ≠ (.slice Ao25 t334.length co25 : Value).ownBlock ∧ (k_ ≠ gb328 ∧ (k_ ≠ gb329 ∧ (k_ ≠ gb330 ∧ (k_ ≠ gb342 ∧ (k_ ≠ gb343 ∧ k_ ≠ gb355))))))) _ _ t339 t344 t345 t346 _ ?side1 ?side2 A9.out).mono ?_
                         (case side1 => exact Kd.N_V (HO336.out))
                         (case side2 => exact Kd.N_V (HO341.out))
                         rintro e w35 ⟨v347, rfl, ho0, hb⟩
                         refine ⟨_, rfl, ?_⟩
                         replace HO336 := Aside0.mk (Kd.N_elder' HO336.out (Kd.N_base ho0) hb)
                         replace HO341 := Aside0.mk (Kd.N_elder' HO341.out (Kd.N_base ho0) hb)
                         have HO348 := Aside0.mk (Kd.N_lower (Kd.N_mono (ok' := fun k_ => k_ ≠ gb328 ∧ k_ ≠ gb329 ∧ k_ ≠ gb330 ∧ k_ ≠ gb342 ∧ k_ ≠ gb343 ∧ k_ ≠ gb355) ho0 (fun k_ hk_ => ⟨Or.elim hk_ (fun hs_ => Or.elim hs_ (fun hs_ => hs_.2.1) (fun hs_ => hs_.2.1)) (fun hn_ => (Kd.freshB BK328.out k_ hn_)), Or.elim hk_ (fun hs_ => Or.elim hs_ (fun hs_ => hs_.2.2.1) (fun hs_ => hs_.2.2.1)) (fun hn_ => (Kd.freshB BK329.out k_ hn_)), Or.elim hk_ (fun hs_ => Or.elim hs_ (fun hs_ => hs_.2.2.2.1) (fun hs_ => hs_.2.2.2.1)) (fun hn_ => (Kd.freshB BK330.out k_ hn_)), Or.elim hk_ (fun hs_ => Or.elim hs_ (fun hs_ => hs_.2.2.2.2.1) (fun hs_ => hs_.2.2.2.2.1)) (fun hn_ => (Kd.freshB BK342.out k_ hn_)), Or.elim hk_ (fun hs_ => Or.elim hs_ (fun hs_ => hs_.2.2.2.2.2.1) (fun hs_ => hs_.2.2.2.2.2.1)) (fun hn_ => (Kd.freshB BK343.out k_ hn_)), Or.elim hk_ (fun hs_ => Or.elim hs_ (fun hs_ => hs_.2.2.2.2.2.2) (fun hs_ => hs_.2.2.2.2.2.2)) (fun hn_ => (Kd.freshB BK355.out k_ hn_))⟩)) (below_size HB.out))
                         replace BK328 := Aside0.mk (blk_below BK328.out hb)
                         replace BK329 := Aside0.mk (blk_below BK329.out hb)
                         replace BK330 := Aside0.mk (blk_below BK330.out hb)
                         replace BK342 := Aside0.mk (blk_below BK342.out hb)
                         replace BK343 := Aside0.mk (blk_below BK343.out hb)
                         replace BK355 := Aside0.mk (blk_below BK355.out hb)
                         replace HB := Aside0.mk (below_step HB.out hb)
                         (try clear hb)
                         (try clear ho0)
                         refine hK.out _ _ ⟨(blk_cell BK342.out 0).trans rfl, (blk_cell BK342.out 1).trans rfl, (blk_cell BK342.out 2).trans rfl, (blk_cell BK343.out 0).trans rfl, (blk_cell BK343.out 1).trans rfl, (blk_cell BK343.out 2).trans rfl, (blk_cell BK328.out 0).trans rfl, (blk_cell BK328.out 1).trans rfl, (blk_cell BK328.out 2).trans rfl, (blk_cell BK329.out 0).trans rfl, (blk_cell BK329.out 1).trans rfl, (blk_cell BK329.out 2).trans rfl⟩ (fun hHeld => ?_)
                         clear hK K
                         refine norm_ (a' := ?_) ?_ ?_
                         rotate_left
                         · show Act.put _ (some 32) _ = _
                           simp only [Act.put, List.setIfInBounds_toArray, List.set_cons_zero, List.set_cons_succ, i64_w, i32_w]
                           rfl
                         exact norm_ (by (simp only [putAll, Act.put, List.setIfInBounds_toArray, List.set_cons_zero, List.set_cons_succ]; done)) (hJ2_7 (v347, gb355) _ ⟨hHeld, (by (with_reducible repeat (fail)); exact Kd.N_mono HO336.out (fun _ hk => ⟨hk.1.1, ⟨hk.2, ⟨hk.1.2.1, ⟨hk.1.2.2.1, ⟨hk.1.2.2.2.1, ⟨hk.1.2.2.2.2.1, ⟨hk.1.2.2.2.2.2.1, hk.1.2.2.2.2.2.2⟩⟩⟩⟩⟩⟩⟩)), (by (with_reducible repeat (fail)); exact Kd.N_mono HO341.out (fun _ hk => ⟨hk.1.1, ⟨hk.2, ⟨hk.1.2.1, ⟨hk.1.2.2.1, ⟨hk.1.2.2.2.1, ⟨hk.1.2.2.2.2.1, ⟨hk.1.2.2.2.2.2.1, hk.1.2.2.2.2.2.2⟩⟩⟩⟩⟩⟩⟩)), HO348.out, BK328.out, BK329.out, BK330.out, BK342.out, BK343.out, BK355.out, GW355.out, GE355.out, NB328_355.out, NB355_328.out, NB329_355.out, NB355_329.out, NB330_355.out, NB355_330.out, NB342_355.out, NB355_342.out, NB343_355.out, NB355_343.out, HB.out⟩)
                       · skip
                         refine box_step ?hg (N := 14) ?hd (cs := #[.int .i64 0, .int .i64 0, .slice none 0 0]) (t := 24) ?hr ?_; (case hd => rfl); (case hg => rfl); (case hr => (go_simp; done))
                         intro gb354 hg w35 hbox hb
                         replace HO336 := Aside0.mk (Kd.N_below (Kd.N_elderB HO336.out gb354 (Nat.le_of_eq hg.symm)) hb)
                         replace HO341 := Aside0.mk (Kd.N_below (Kd.N_elderB HO341.out gb354 (Nat.le_of_eq hg.symm)) hb)
                         have BK354 := Aside0.mk (hbox)
                         have GW354 := Aside0.mk ((by rw [hg]; exact (below_size HB.out) : w.heap.size ≤ gb354))
                         have GE354 := Aside0.mk ((by rw [hg]; exact (below_size HB.out) : w.heap.size ≤ gb354))
                         replace HB := Aside0.mk (below_step HB.out hb)
                         have NB328_354 := Aside0.mk ((by rw [hg]; exact Nat.ne_of_lt (blk_lt BK328.out) : gb328 ≠ gb354))
                         have NB354_328 := Aside0.mk ((by rw [hg]; exact Nat.ne_of_gt (blk_lt BK328.out) : gb354 ≠ gb328))
                         replace BK328 := Aside0.mk (blk_below BK328.out hb)
                         have NB329_354 := Aside0.mk ((by rw [hg]; exact Nat.ne_of_lt (blk_lt BK329.out) : gb329 ≠ gb354))
                         have NB354_329 := Aside0.mk ((by rw [hg]; exact Nat.ne_of_gt (blk_lt BK329.out) : gb354 ≠ gb329))
                         replace BK329 := Aside0.mk (blk_below BK329.out hb)
                         have NB330_354 := Aside0.mk ((by rw [hg]; exact Nat.ne_of_lt (blk_lt BK330.out) : gb330 ≠ gb354))
                         have NB354_330 := Aside0.mk ((by rw [hg]; exact Nat.ne_of_gt (blk_lt BK330.out) : gb354 ≠ gb330))
                         replace BK330 := Aside0.mk (blk_below BK330.out hb)
                         have NB342_354 := Aside0.mk ((by rw [hg]; exact Nat.ne_of_lt (blk_lt BK342.out) : gb342 ≠ gb354))
                         have NB354_342 := Aside0.mk ((by rw [hg]; exact Nat.ne_of_gt (blk_lt BK342.out) : gb354 ≠ gb342))
                         replace BK342 := Aside0.mk (blk_below BK342.out hb)
                         have NB343_354 := Aside0.mk ((by rw [hg]; exact Nat.ne_of_lt (blk_lt BK343.out) : gb343 ≠ gb354))
                         have NB354_343 := Aside0.mk ((by rw [hg]; exact Nat.ne_of_gt (blk_lt BK343.out) : gb354 ≠ gb343))
                         replace BK343 := Aside0.mk (blk_below BK343.out hb)
                         have NB355_354 := Aside0.mk ((by rw [hg]; exact Nat.ne_of_lt (blk_lt BK355.out) : gb355 ≠ gb354))
                         have NB354_355 := Aside0.mk ((by rw [hg]; exact Nat.ne_of_gt (blk_lt BK355.out) : gb354 ≠ gb355))
                         replace BK355 := Aside0.mk (blk_below BK355.out hb)
                         clear hb hbox hg
                         refine hK.out _ _ ⟨(blk_cell BK342.out 0).trans rfl, (blk_cell BK342.out 1).trans rfl, (blk_cell BK342.out 2).trans rfl, (blk_cell BK343.out 0).trans rfl, (blk_cell BK343.out 1).trans rfl, (blk_cell BK343.out 2).trans rfl, (blk_cell BK328.out 0).trans rfl, (blk_cell BK328.out 1).trans rfl, (blk_cell BK328.out 2).trans rfl, (blk_cell BK329.out 0).trans rfl, (blk_cell BK329.out 1).trans rfl, (blk_cell BK329.out 2).trans rfl⟩ (fun hHeld => ?_)
                         clear hK K
                         refine norm_ (a' := ?_) ?_ ?_
                         rotate_left
                         · show Act.put _ (some 14) _ = _
                           simp only [Act.put, List.setIfInBounds_toArray, List.set_cons_zero, List.set_cons_succ, i64_w, i32_w]
                           rfl
                         exact norm_ (by (simp only [putAll, Act.put, List.setIfInBounds_toArray, List.set_cons_zero, List.set_cons_succ]; done)) (hJ6_7 (gb354, gb355) _ ⟨hHeld, (by (with_reducible repeat (fail)); exact Kd.N_mono HO336.out (fun _ hk => ⟨hk.1.1, ⟨hk.1.2.1, ⟨hk.1.2.2.1, ⟨hk.1.2.2.2.1, ⟨hk.1.2.2.2.2.1, ⟨hk.1.2.2.2.2.2.1, ⟨hk.2, hk.1.2.2.2.2.2.2⟩⟩⟩⟩⟩⟩⟩)), (by (with_reducible repeat (fail)); exact Kd.N_mono HO341.out (fun _ hk => ⟨hk.1.1, ⟨hk.1.2.1, ⟨hk.1.2.2.1, ⟨hk.1.2.2.2.1, ⟨hk.1.2.2.2.2.1, ⟨hk.1.2.2.2.2.2.1, ⟨hk.2, hk.1.2.2.2.2.2.2⟩⟩⟩⟩⟩⟩⟩)), BK328.out, BK329.out, BK330.out, BK342.out, BK343.out, BK354.out, BK355.out, GW354.out, GE354.out, NB328_354.out, NB354_328.out, NB329_354.out, NB354_329.out, NB330_354.out, NB354_330.out, NB342_354.out, NB354_342.out, NB343_354.out, NB354_343.out, NB355_354.out, NB354_355.out, GW355.out, GE355.out, NB328_355.out, NB355_328.out, NB329_355.out, NB355_329.out, NB330_355.out, NB355_330.out, NB342_355.out, NB355_342.out, NB343_355.out, NB355_343.out, HB.out⟩)
                   · skip
                     rintro gb354 w34 ⟨hS_, h0_, h1_, h2_, h3_, h4_, h5_, h6_, h7_, h8_, h9_, h10_, h11_, h12_, h13_, h14_, h15_, h16_, h17_, h18_, h19_, h20_⟩
                     replace HO336 : Aside0 (Kd.N k24 24 w34 w.heap.size (fun k_ => some k_ ≠ (.slice Ao29 t339.length co29 : Value).ownBlock ∧ k_ ≠ gb328 ∧ k_ ≠ gb329 ∧ k_ ≠ gb330 ∧ k_ ≠ gb342 ∧ k_ ≠ gb343 ∧ k_ ≠ gb354) (.slice Ao25 t334.length co25) t334) := ⟨h0_⟩
                     replace HO341 : Aside0 (Kd.N k24 24 w34 w.heap.size (fun k_ => some k_ ≠ (.slice Ao25 t334.length co25 : Value).ownBlock ∧ k_ ≠ gb328 ∧ k_ ≠ gb329 ∧ k_ ≠ gb330 ∧ k_ ≠ gb342 ∧ k_ ≠ gb343 ∧ k_ ≠ gb354) (.slice Ao29 t339.length co29) t339) := ⟨h1_⟩
                     replace BK328 : Aside0 (w34.heap[gb328]? = some (.cells #[.int .i64 a0_0, .int .i64 a0_1, .slice A0_2 l0_2.length c0_2] 24 (0, 0))) := ⟨h2_⟩
                     replace BK329 : Aside0 (w34.heap[gb329]? = some (.cells #[.int .i64 a1_0, .int .i64 a1_1, .slice A1_2 l1_2.length c1_2] 24 (0, 0))) := ⟨h3_⟩
                     replace BK330 : Aside0 (w34.heap[gb330]? = some (.cells #[.int .i64 a4_0, .int .i64 a4_1, .int .i64 a4_2, .int .i64 a4_3, .int .i64 a4_4, .int .i64 a4_5, .int .i64 a4_6, .int .i64 a4_7] 25 (0, 0))) := ⟨h4_⟩
                     replace BK342 : Aside0 (w34.heap[gb342]? = some (.cells #[.int .i64 t332, .int .i64 t333, .slice Ao25 t334.length co25] 24 (0, 0))) := ⟨h5_⟩
                     replace BK343 : Aside0 (w34.heap[gb343]? = some (.cells #[.int .i64 t337, .int .i64 t338, .slice Ao29 t339.length co29] 24 (0, 0))) := ⟨h6_⟩
                     have BK354 : Aside0 (w34.heap[gb354]? = some (.cells #[.int .i64 0, .int .i64 0, .slice none 0 0] 24 (0, 0))) := ⟨h7_⟩
                     have GW354 : Aside0 (w.heap.size ≤ gb354) := ⟨h8_⟩
                     have GE354 : Aside0 (w.heap.size ≤ gb354) := ⟨h9_⟩
                     have NB328_354 : Aside0 (gb328 ≠ gb354) := ⟨h10_⟩
                     have NB354_328 : Aside0 (gb354 ≠ gb328) := ⟨h11_⟩
                     have NB329_354 : Aside0 (gb329 ≠ gb354) := ⟨h12_⟩
                     have NB354_329 : Aside0 (gb354 ≠ gb329) := ⟨h13_⟩
                     have NB330_354 : Aside0 (gb330 ≠ gb354) := ⟨h14_⟩
                     have NB354_330 : Aside0 (gb354 ≠ gb330) := ⟨h15_⟩
                     have NB342_354 : Aside0 (gb342 ≠ gb354) := ⟨h16_⟩
                     have NB354_342 : Aside0 (gb354 ≠ gb342) := ⟨h17_⟩
                     have NB343_354 : Aside0 (gb343 ≠ gb354) := ⟨h18_⟩
                     have NB354_343 : Aside0 (gb354 ≠ gb343) := ⟨h19_⟩
                     replace HB : Aside0 (Below w.heap.size w w34) := ⟨h20_⟩
                     clear h0_ h1_ h2_ h3_ h4_ h5_ h6_ h7_ h8_ h9_ h10_ h11_ h12_ h13_ h14_ h15_ h16_ h17_ h18_ h19_ h20_
                     have hHeld : w34.cell? ⟨gb342, 0, none⟩ = some (.int .i64 t332) ∧ w34.cell? ⟨gb342, 1, none⟩ = some (.int .i64 t333) ∧ w34.cell? ⟨gb342, 2, none⟩ = some (.slice Ao25 t334.length co25) ∧ w34.cell? ⟨gb343, 0, none⟩ = some (.int .i64 t337) ∧ w34.cell? ⟨gb343, 1, none⟩ = some (.int .i64 t338) ∧ w34.cell? ⟨gb343, 2, none⟩ = some (.slice Ao29 t339.length co29) ∧ w34.cell? ⟨gb328, 0, none⟩ = some (.int .i64 a0_0) ∧ w34.cell? ⟨gb328, 1, none⟩ = some (.int .i64 a0_1) ∧ w34.cell? ⟨gb328, 2, none⟩ = some (.slice A0_2 l0_2.length c0_2) ∧ w34.cell? ⟨gb329, 0, none⟩ = some (.int .i64 a1_0) ∧ w34.cell? ⟨gb329, 1, none⟩ = some (.int .i64 a1_1) ∧ w34.cell? ⟨gb329, 2, none⟩ = some (.slice A1_2 l1_2.length c1_2) := hS_
                     refine norm_ (a' := ?_) ?_ ?_
                     rotate_left
                     · simp only [putAll, Act.put, List.setIfInBounds_toArray, List.set_cons_zero, List.set_cons_succ]
                       rfl
                     refine two_ (i := 2) (j := 7) (Ni := some 32) (Nj := some 15) #[true, true, true, true, true, false, true, false, false, false] #[true, true, false, true, true, false, true, true, false, false] rfl rfl rfl rfl (two_of HT_.out (by kernel_rfl)) (by decide) (by decide) (fun K hK => ?_) (fun K hK => ?_)
                     · skip
                       refine goes_ Try.func22 (by kernel_rfl) rfl #[.int .i64 5, .agg #[.int .i64 t332, .int .i64 t333, .slice Ao25 t334.length co25], .agg #[.int .i64 t337, .int .i64 t338, .slice Ao29 t339.length co29]] (by rfl) rfl rfl (by (try simp only [List.map_toArray, List.map_cons, List.map_nil]); rfl) ?_
                       with_reducible refine (formelaw14_two.calls 5 t332 t333 (fun k_ => (some k_ ≠ (.slice Ao29 t339.length co29 : Value).ownBlock ∧ (k_ ≠ gb328 ∧ (k_ ≠ gb329 ∧ (k_ ≠ gb330 ∧ (k_ ≠ gb342 ∧ (k_ ≠ gb343 ∧ k_ ≠ gb354))))))) _ _ t334 t337 t338 (fun k_ => (some k_ ≠ (.slice Ao25 t334.length co25 : Value).ownBlock ∧ (k_ ≠ gb328 ∧ (k_ ≠ gb329 ∧ (k_ ≠ gb330 ∧ (k_ ≠ gb342 ∧ (k_ ≠ gb343 ∧ k_ ≠ gb354))))))) _ _ t339 t344 t345 t346 _ ?side1 ?side2 A9.out).mono ?_
                       (case side1 => exact Kd.N_V (HO336.out))
                       (case side2 => exact Kd.N_V (HO341.out))
                       rintro e w35 ⟨v347, rfl, ho0, hb⟩
                       refine ⟨_, rfl, ?_⟩
                       replace HO336 := Aside0.mk (Kd.N_elder' HO336.out (Kd.N_base ho0) hb)
                       replace HO341 := Aside0.mk (Kd.N_elder' HO341.out (Kd.N_base ho0) hb)
                       have HO348 := Aside0.mk (Kd.N_lower (Kd.N_mono (ok' := fun k_ => k_ ≠ gb328 ∧ k_ ≠ gb329 ∧ k_ ≠ gb330 ∧ k_ ≠ gb342 ∧ k_ ≠ gb343 ∧ k_ ≠ gb354) ho0 (fun k_ hk_ => ⟨Or.elim hk_ (fun hs_ => Or.elim hs_ (fun hs_ => hs_.2.1) (fun hs_ => hs_.2.1)) (fun hn_ => (Kd.freshB BK328.out k_ hn_)), Or.elim hk_ (fun hs_ => Or.elim hs_ (fun hs_ => hs_.2.2.1) (fun hs_ => hs_.2.2.1)) (fun hn_ => (Kd.freshB BK329.out k_ hn_)), Or.elim hk_ (fun hs_ => Or.elim hs_ (fun hs_ => hs_.2.2.2.1) (fun hs_ => hs_.2.2.2.1)) (fun hn_ => (Kd.freshB BK330.out k_ hn_)), Or.elim hk_ (fun hs_ => Or.elim hs_ (fun hs_ => hs_.2.2.2.2.1) (fun hs_ => hs_.2.2.2.2.1)) (fun hn_ => (Kd.freshB BK342.out k_ hn_)), Or.elim hk_ (fun hs_ => Or.elim hs_ (fun hs_ => hs_.2.2.2.2.2.1) (fun hs_ => hs_.2.2.2.2.2.1)) (fun hn_ => (Kd.freshB BK343.out k_ hn_)), Or.elim hk_ (fun hs_ => Or.elim hs_ (fun hs_ => hs_.2.2.2.2.2.2) (fun hs_ => hs_.2.2.2.2.2.2)) (fun hn_ => (Kd.freshB BK354.out k_ hn_))⟩)) (below_size HB.out))
                       replace BK328 := Aside0.mk (blk_below BK328.out hb)
                       replace BK329 := Aside0.mk (blk_below BK329.out hb)
                       replace BK330 := Aside0.mk (blk_below BK330.out hb)
                       replace BK342 := Aside0.mk (blk_below BK342.out hb)
                       replace BK343 := Aside0.mk (blk_below BK343.out hb)
                       replace BK354 := Aside0.mk (blk_below BK354.out hb)
                       replace HB := Aside0.mk (below_step HB.out hb)
                       (try clear hb)
                       (try clear ho0)
                       refine hK.out _ _ ⟨(blk_cell BK342.out 0).trans rfl, (blk_cell BK342.out 1).trans rfl, (blk_cell BK342.out 2).trans rfl, (blk_cell BK343.out 0).trans rfl, (blk_cell BK343.out 1).trans rfl, (blk_cell BK343.out 2).trans rfl, (blk_cell BK328.out 0).trans rfl, (blk_cell BK328.out 1).trans rfl, (blk_cell BK328.out 2).trans rfl, (blk_cell BK329.out 0).trans rfl, (blk_cell BK329.out 1).trans rfl, (blk_cell BK329.out 2).trans rfl⟩ (fun hHeld => ?_)
                       clear hK K
                       refine norm_ (a' := ?_) ?_ ?_
                       rotate_left
                       · show Act.put _ (some 32) _ = _
                         simp only [Act.put, List.setIfInBounds_toArray, List.set_cons_zero, List.set_cons_succ, i64_w, i32_w]
                         rfl
                       exact norm_ (by (simp only [putAll, Act.put, List.setIfInBounds_toArray, List.set_cons_zero, List.set_cons_succ]; done)) (hJ2_6 (v347, gb354) _ ⟨hHeld, (by (with_reducible repeat (fail)); exact Kd.N_mono HO336.out (fun _ hk => ⟨hk.1.1, ⟨hk.2, ⟨hk.1.2.1, ⟨hk.1.2.2.1, ⟨hk.1.2.2.2.1, ⟨hk.1.2.2.2.2.1, ⟨hk.1.2.2.2.2.2.1, hk.1.2.2.2.2.2.2⟩⟩⟩⟩⟩⟩⟩)), (by (with_reducible repeat (fail)); exact Kd.N_mono HO341.out (fun _ hk => ⟨hk.1.1, ⟨hk.2, ⟨hk.1.2.1, ⟨hk.1.2.2.1, ⟨hk.1.2.2.2.1, ⟨hk.1.2.2.2.2.1, ⟨hk.1.2.2.2.2.2.1, hk.1.2.2.2.2.2.2⟩⟩⟩⟩⟩⟩⟩)), HO348.out, BK328.out, BK329.out, BK330.out, BK342.out, BK343.out, BK354.out, GW354.out, GE354.out, NB328_354.out, NB354_328.out, NB329_354.out, NB354_329.out, NB330_354.out, NB354_330.out, NB342_354.out, NB354_342.out, NB343_354.out, NB354_343.out, HB.out⟩)
                     · skip
                       refine box_step ?hg (N := 15) ?hd (cs := #[.int .i64 0, .int .i64 0, .slice none 0 0]) (t := 24) ?hr ?_; (case hd => rfl); (case hg => rfl); (case hr => (go_simp; done))
                       intro gb355 hg w35 hbox hb
                       replace HO336 := Aside0.mk (Kd.N_below (Kd.N_elderB HO336.out gb355 (Nat.le_of_eq hg.symm)) hb)
                       replace HO341 := Aside0.mk (Kd.N_below (Kd.N_elderB HO341.out gb355 (Nat.le_of_eq hg.symm)) hb)
                       have BK355 := Aside0.mk (hbox)
                       have GW355 := Aside0.mk ((by rw [hg]; exact (below_size HB.out) : w.heap.size ≤ gb355))
                       have GE355 := Aside0.mk ((by rw [hg]; exact (below_size HB.out) : w.heap.size ≤ gb355))
                       replace HB := Aside0.mk (below_step HB.out hb)
                       have NB328_355 := Aside0.mk ((by rw [hg]; exact Nat.ne_of_lt (blk_lt BK328.out) : gb328 ≠ gb355))
                       have NB355_328 := Aside0.mk ((by rw [hg]; exact Nat.ne_of_gt (blk_lt BK328.out) : gb355 ≠ gb328))
                       replace BK328 := Aside0.mk (blk_below BK328.out hb)
                       have NB329_355 := Aside0.mk ((by rw [hg]; exact Nat.ne_of_lt (blk_lt BK329.out) : gb329 ≠ gb355))
                       have NB355_329 := Aside0.mk ((by rw [hg]; exact Nat.ne_of_gt (blk_lt BK329.out) : gb355 ≠ gb329))
                       replace BK329 := Aside0.mk (blk_below BK329.out hb)
                       have NB330_355 := Aside0.mk ((by rw [hg]; exact Nat.ne_of_lt (blk_lt BK330.out) : gb330 ≠ gb355))
                       have NB355_330 := Aside0.mk ((by rw [hg]; exact Nat.ne_of_gt (blk_lt BK330.out) : gb355 ≠ gb330))
                       replace BK330 := Aside0.mk (blk_below BK330.out hb)
                       have NB342_355 := Aside0.mk ((by rw [hg]; exact Nat.ne_of_lt (blk_lt BK342.out) : gb342 ≠ gb355))
                       have NB355_342 := Aside0.mk ((by rw [hg]; exact Nat.ne_of_gt (blk_lt BK342.out) : gb355 ≠ gb342))
                       replace BK342 := Aside0.mk (blk_below BK342.out hb)
                       have NB343_355 := Aside0.mk ((by rw [hg]; exact Nat.ne_of_lt (blk_lt BK343.out) : gb343 ≠ gb355))
                       have NB355_343 := Aside0.mk ((by rw [hg]; exact Nat.ne_of_gt (blk_lt BK343.out) : gb355 ≠ gb343))
                       replace BK343 := Aside0.mk (blk_below BK343.out hb)
                       have NB354_355 := Aside0.mk ((by rw [hg]; exact Nat.ne_of_lt (blk_lt BK354.out) : gb354 ≠ gb355))
                       have NB355_354 := Aside0.mk ((by rw [hg]; exact Nat.ne_of_gt (blk_lt BK354.out) : gb355 ≠ gb354))
                       replace BK354 := Aside0.mk (blk_below BK354.out hb)
                       clear hb hbox hg
                       refine hK.out _ _ ⟨(blk_cell BK342.out 0).trans rfl, (blk_cell BK342.out 1).trans rfl, (blk_cell BK342.out 2).trans rfl, (blk_cell BK343.out 0).trans rfl, (blk_cell BK343.out 1).trans rfl, (blk_cell BK343.out 2).trans rfl, (blk_cell BK328.out 0).trans rfl, (blk_cell BK328.out 1).trans rfl, (blk_cell BK328.out 2).trans rfl, (blk_cell BK329.out 0).trans rfl, (blk_cell BK329.out 1).trans rfl, (blk_cell BK329.out 2).trans rfl⟩ (fun hHeld => ?_)
                       clear hK K
                       refine norm_ (a' := ?_) ?_ ?_
                       rotate_left
                       · show Act.put _ (some 15) _ = _
                         simp only [Act.put, List.setIfInBounds_toArray, List.set_cons_zero, List.set_cons_succ, i64_w, i32_w]
                         rfl
                       exact norm_ (by (simp only [putAll, Act.put, List.setIfInBounds_toArray, List.set_cons_zero, List.set_cons_succ]; done)) (hJ6_7 (gb354, gb355) _ ⟨hHeld, (by (with_reducible repeat (fail)); exact Kd.N_mono HO336.out (fun _ hk => ⟨hk.1.1, ⟨hk.1.2.1, ⟨hk.1.2.2.1, ⟨hk.1.2.2.2.1, ⟨hk.1.2.2.2.2.1, ⟨hk.1.2.2.2.2.2.1, ⟨hk.1.2.2.2.2.2.2, hk.2⟩⟩⟩⟩⟩⟩⟩)), (by (with_reducible repeat (fail)); exact Kd.N_mono HO341.out (fun _ hk => ⟨hk.1.1, ⟨hk.1.2.1, ⟨hk.1.2.2.1, ⟨hk.1.2.2.2.1, ⟨hk.1.2.2.2.2.1, ⟨hk.1.2.2.2.2.2.1, ⟨hk.1.2.2.2.2.2.2, hk.2⟩⟩⟩⟩⟩⟩⟩)), BK328.out, BK329.out, BK330.out, BK342.out, BK343.out, BK354.out, BK355.out, GW354.out, GE354.out, NB328_354.out, NB354_328.out, NB329_354.out, NB354_329.out, NB330_354.out, NB354_330.out, NB342_354.out, NB354_342.out, NB343_354.out, NB354_343.out, NB355_354.out, NB354_355.out, GW355.out, GE355.out, NB328_355.out, NB355_328.out, NB329_355.out, NB355_329.out, NB330_355.out, NB355_330.out, NB342_355.out, NB355_342.out, NB343_355.out, NB355_343.out, HB.out⟩)
                 · skip
                   rintro v347 w34 ⟨hS_, h0_, h1_, h2_, h3_, h4_, h5_, h6_, h7_, h8_⟩
                   replace HO336 : Aside0 (Kd.N k24 24 w34 w.heap.size (fun k_ => some k_ ≠ (.slice Ao29 t339.length co29 : Value).ownBlock ∧ some k_ ≠ (v347 : Value).ownBlock ∧ k_ ≠ gb328 ∧ k_ ≠ gb329 ∧ k_ ≠ gb330 ∧ k_ ≠ gb342 ∧ k_ ≠ gb343) (.slice Ao25 t334.length co25) t334) := ⟨h0_⟩
                   replace HO341 : Aside0 (Kd.N k24 24 w34 w.heap.size (fun k_ => some k_ ≠ (.slice Ao25 t334.length co25 : Value).ownBlock ∧ some k_ ≠ (v347 : Value).ownBlock ∧ k_ ≠ gb328 ∧ k_ ≠ gb329 ∧ k_ ≠ gb330 ∧ k_ ≠ gb342 ∧ k_ ≠ gb343) (.slice Ao29 t339.length co29) t339) := ⟨h1_⟩
                   have HO348 : Aside0 (Kd.N k24 24 w34 w.heap.size (fun k_ => k_ ≠ gb328 ∧ k_ ≠ gb329 ∧ k_ ≠ gb330 ∧ k_ ≠ gb342 ∧ k_ ≠ gb343) v347 t346) := ⟨h2_⟩
                   replace BK328 : Aside0 (w34.heap[gb328]? = some (.cells #[.int .i64 a0_0, .int .i64 a0_1, .slice A0_2 l0_2.length c0_2] 24 (0, 0))) := ⟨h3_⟩
                   replace BK329 : Aside0 (w34.heap[gb329]? = some (.cells #[.int .i64 a1_0, .int .i64 a1_1, .slice A1_2 l1_2.length c1_2] 24 (0, 0))) := ⟨h4_⟩
                   replace BK330 : Aside0 (w34.heap[gb330]? = some (.cells #[.int .i64 a4_0, .int .i64 a4_1, .int .i64 a4_2, .int .i64 a4_3, .int .i64 a4_4, .int .i64 a4_5, .int .i64 a4_6, .int .i64 a4_7] 25 (0, 0))) := ⟨h5_⟩
                   replace BK342 : Aside0 (w34.heap[gb342]? = some (.cells #[.int .i64 t332, .int .i64 t333, .slice Ao25 t334.length co25] 24 (0, 0))) := ⟨h6_⟩
                   replace BK343 : Aside0 (w34.heap[gb343]? = some (.cells #[.int .i64 t337, .int .i64 t338, .slice Ao29 t339.length co29] 24 (0, 0))) := ⟨h7_⟩
                   replace HB : Aside0 (Below w.heap.size w w34) := ⟨h8_⟩
                   clear h0_ h1_ h2_ h3_ h4_ h5_ h6_ h7_ h8_
                   have hHeld : w34.cell? ⟨gb342, 0, none⟩ = some (.int .i64 t332) ∧ w34.cell? ⟨gb342, 1, none⟩ = some (.int .i64 t333) ∧ w34.cell? ⟨gb342, 2, none⟩ = some (.slice Ao25 t334.length co25) ∧ w34.cell? ⟨gb343, 0, none⟩ = some (.int .i64 t337) ∧ w34.cell? ⟨gb343, 1, none⟩ = some (.int .i64 t338) ∧ w34.cell? ⟨gb343, 2, none⟩ = some (.slice Ao29 t339.length co29) ∧ w34.cell? ⟨gb328, 0, none⟩ = some (.int .i64 a0_0) ∧ w34.cell? ⟨gb328, 1, none⟩ = some (.int .i64 a0_1) ∧ w34.cell? ⟨gb328, 2, none⟩ = some (.slice A0_2 l0_2.length c0_2) ∧ w34.cell? ⟨gb329, 0, none⟩ = some (.int .i64 a1_0) ∧ w34.cell? ⟨gb329, 1, none⟩ = some (.int .i64 a1_1) ∧ w34.cell? ⟨gb329, 2, none⟩ = some (.slice A1_2 l1_2.length c1_2) := hS_
                   refine norm_ (a' := ?_) ?_ ?_
                   rotate_left
                   · simp only [putAll, Act.put, List.setIfInBounds_toArray, List.set_cons_zero, List.set_cons_succ]
                     rfl
                   refine three_ (i := 5) (j := 6) (k := 7) (Ni := some 35) (Nj := some 14) (Nk := some 15) #[true, true, true, true, true, true, false, false, false, false] #[true, true, true, true, true, false, true, false, false, false] #[true, true, true, true, true, false, false, true, false, false] rfl rfl rfl rfl rfl rfl (three_of HT_.out (by kernel_rfl)) (by decide) (by decide) (by decide) (fun K hK => ?_) (fun K hK => ?_) (fun K hK => ?_)
                   · skip
                     refine goes_ Try.func22 (by kernel_rfl) rfl #[.int .i64 5, .agg #[.int .i64 a0_0, .int .i64 a0_1, .slice A0_2 l0_2.length c0_2], .agg #[.int .i64 a1_0, .int .i64 a1_1, .slice A1_2 l1_2.length c1_2]] (by rfl) rfl rfl (by (try simp only [List.map_toArray, List.map_cons, List.map_nil]); rfl) ?_
                     with_reducible refine (formelaw14_two.calls 5 a0_0 a0_1 (fun k_ => k_ < w.heap.size) _ _ l0_2 a1_0 a1_1 (fun k_ => k_ < w.heap.size) _ _ l1_2 t349 t350 t351 _ ?side1 ?side2 A10.out).mono ?_
                     (case side1 => exact Kd.V_mk HC0_2.out (Kd.F_below (Kd.C_F k24_heap HR0_2.out) HB.out))
                     (case side2 => exact Kd.V_mk HC1_2.out (Kd.F_below (Kd.C_F k24_heap HR1_2.out) HB.out))
                     rintro e w35 ⟨v352, rfl, ho0, hb⟩
                     refine ⟨_, rfl, ?_⟩
                     have HO353 := Aside0.mk (Kd.N_lower (Kd.N_mono (ok' := fun k_ => some k_ ≠ (.slice Ao25 t334.length co25 : Value).ownBlock ∧ some k_ ≠ (.slice Ao29 t339.length co29 : Value).ownBlock ∧ some k_ ≠ (v347 : Value).ownBlock ∧ k_ ≠ gb328 ∧ k_ ≠ gb329 ∧ k_ ≠ gb330 ∧ k_ ≠ gb342 ∧ k_ ≠ gb343) ho0 (fun k_ hk_ => ⟨Or.elim hk_ (fun hs_ => Or.elim hs_ (fun hs_ => fun e_ => Nat.not_le.2 hs_ (Kd.N_base HO336.out k_ e_.symm)) (fun hs_ => fun e_ => Nat.not_le.2 hs_ (Kd.N_base HO336.out k_ e_.symm))) (fun hn_ => (Kd.fresh' (Kd.N_lt HO336.out) k_ hn_)), Or.elim hk_ (fun hs_ => Or.elim hs_ (fun hs_ => fun e_ => Nat.not_le.2 hs_ (Kd.N_base HO341.out k_ e_.symm)) (fun hs_ => fun e_ => Nat.not_le.2 hs_ (Kd.N_base HO341.out k_ e_.symm))) (fun hn_ => (Kd.fresh' (Kd.N_lt HO341.out) k_ hn_)), Or.elim hk_ (fun hs_ => Or.elim hs_ (fun hs_ => fun e_ => Nat.not_le.2 hs_ (Kd.N_base HO348.out k_ e_.symm)) (fun hs_ => fun e_ => Nat.not_le.2 hs_ (Kd.N_base HO348.out k_ e_.symm))) (fun hn_ => (Kd.fresh' (Kd.N_lt HO348.out) k_ hn_)), Or.elim hk_ (fun hs_ => Or.elim hs_ (fun hs_ => fun e_ => Nat.not_le.2 hs_ (by rw [e_]; exact GW328.out)) (fun hs_ => fun e_ => Nat.not_le.2 hs_ (by rw [e_]; exact GW328.out))) (fun hn_ => (Kd.freshB BK328.out k_ hn_)), Or.elim hk_ (fun hs_ => Or.elim hs_ (fun hs_ => fun e_ => Nat.not_le.2 hs_ (by rw [e_]; exact GW329.out)) (fun hs_ => fun e_ => Nat.not_le.2 hs_ (by rw [e_]; exact GW329.out))) (fun hn_ => (Kd.freshB BK329.out k_ hn_)), Or.elim hk_ (fun hs_ => Or.elim hs_ (fun hs_ => fun e_ => Nat.not_le.2 hs_ (by rw [e_]; exact GW330.out)) (fun hs_ => fun e_ => Nat.not_le.2 hs_ (by rw [e_]; exact GW330.out))) (fun hn_ => (Kd.freshB BK330.out k_ hn_)), Or.elim hk_ (fun hs_ => Or.elim hs_ (fun hs_ => fun e_ => Nat.not_le.2 hs_ (by rw [e_]; exact GW342.out)) (fun hs_ => fun e_ => Nat.not_le.2 hs_ (by rw [e_]; exact GW342.out))) (fun hn_ => (Kd.freshB BK342.out k_ hn_)), Or.elim hk_ (fun hs_ => Or.elim hs_ (fun hs_ => fun e_ => Nat.not_le.2 hs_ (by rw [e_]; exact GW343.out)) (fun hs_ => fun e_ => Nat.not_le.2 hs_ (by rw [e_]; exact GW343.out))) (fun hn_ => (Kd.freshB BK343.out k_ hn_))⟩)) (below_size HB.out))
                     replace HO336 := Aside0.mk (Kd.N_elder' HO336.out (Kd.N_base ho0) hb)
                     replace HO341 := Aside0.mk (Kd.N_elder' HO341.out (Kd.N_base ho0) hb)
                     replace HO348 := Aside0.mk (Kd.N_elder' HO348.out (Kd.N_base ho0) hb)
                     replace BK328 := Aside0.mk (blk_below BK328.out hb)
                     replace BK329 := Aside0.mk (blk_below BK329.out hb)
                     replace BK330 := Aside0.mk (blk_below BK330.out hb)
                     replace BK342 := Aside0.mk (blk_below BK342.out hb)
                     replace BK343 := Aside0.mk (blk_below BK343.out hb)
                     replace HB := Aside0.mk (below_step HB.out hb)
                     (try clear hb)
                     (try clear ho0)
                     refine hK.out _ _ ⟨(blk_cell BK342.out 0).trans rfl, (blk_cell BK342.out 1).trans rfl, (blk_cell BK342.out 2).trans rfl, (blk_cell BK343.out 0).trans rfl, (blk_cell BK343.out 1).trans rfl, (blk_cell BK343.out 2).trans rfl, (blk_cell BK328.out 0).trans rfl, (blk_cell BK328.out 1).trans rfl, (blk_cell BK328.out 2).trans rfl, (blk_cell BK329.out 0).trans rfl, (blk_cell BK329.out 1).trans rfl, (blk_cell BK329.out 2).trans rfl⟩ (fun hHeld => ?_)
                     clear hK K
                     refine norm_ (a' := ?_) ?_ ?_
                     rotate_left
                     · show Act.put _ (some 35) _ = _
                       simp only [Act.put, List.setIfInBounds_toArray, List.set_cons_zero, List.set_cons_succ, i64_w, i32_w]
                       rfl
                     exact norm_ (by (simp only [putAll, Act.put, List.setIfInBounds_toArray, List.set_cons_zero, List.set_cons_succ]; done)) (hJ2_5 (v347, v352) _ ⟨hHeld, (by (with_reducible repeat (fail)); exact Kd.N_mono HO336.out (fun _ hk => ⟨hk.1.1, ⟨hk.1.2.1, ⟨hk.2, ⟨hk.1.2.2.1, ⟨hk.1.2.2.2.1, ⟨hk.1.2.2.2.2.1, ⟨hk.1.2.2.2.2.2.1, hk.1.2.2.2.2.2.2⟩⟩⟩⟩⟩⟩⟩)), (by (with_reducible repeat (fail)); exact Kd.N_mono HO341.out (fun _ hk => ⟨hk.1.1, ⟨hk.1.2.1, ⟨hk.2, ⟨hk.1.2.2.1, ⟨hk.1.2.2.2.1, ⟨hk.1.2.2.2.2.1, ⟨hk.1.2.2.2.2.2.1, hk.1.2.2.2.2.2.2⟩⟩⟩⟩⟩⟩⟩)), (by (with_reducible repeat (fail)); exact Kd.N_mono HO348.out (fun _ hk => ⟨hk.2, ⟨hk.1.1, ⟨hk.1.2.1, ⟨hk.1.2.2.1, ⟨hk.1.2.2.2.1, hk.1.2.2.2.2⟩⟩⟩⟩⟩)), HO353.out, BK328.out, BK329.out, BK330.out, BK342.out, BK343.out, HB.out⟩)
                   · skip
                     refine box_step ?hg (N := 14) ?hd (cs := #[.int .i64 0, .int .i64 0, .slice none 0 0]) (t := 24) ?hr ?_; (case hd => rfl); (case hg => rfl); (case hr => (go_simp; done))
                     intro gb354 hg w35 hbox hb
                     replace HO336 := Aside0.mk (Kd.N_below (Kd.N_elderB HO336.out gb354 (Nat.le_of_eq hg.symm)) hb)
                     replace HO341 := Aside0.mk (Kd.N_below (Kd.N_elderB HO341.out gb354 (Nat.le_of_eq hg.symm)) hb)
                     replace HO348 := Aside0.mk (Kd.N_below (Kd.N_elderB HO348.out gb354 (Nat.le_of_eq hg.symm)) hb)
                     have BK354 := Aside0.mk (hbox)
                     have GW354 := Aside0.mk ((by rw [hg]; exact (below_size HB.out) : w.heap.size ≤ gb354))
                     have GE354 := Aside0.mk ((by rw [hg]; exact (below_size HB.out) : w.heap.size ≤ gb354))
                     replace HB := Aside0.mk (below_step HB.out hb)
                     have NB328_354 := Aside0.mk ((by rw [hg]; exact Nat.ne_of_lt (blk_lt BK328.out) : gb328 ≠ gb354))
                     have NB354_328 := Aside0.mk ((by rw [hg]; exact Nat.ne_of_gt (blk_lt BK328.out) : gb354 ≠ gb328))
                     replace BK328 := Aside0.mk (blk_below BK328.out hb)
                     have NB329_354 := Aside0.mk ((by rw [hg]; exact Nat.ne_of_lt (blk_lt BK329.out) : gb329 ≠ gb354))
                     have NB354_329 := Aside0.mk ((by rw [hg]; exact Nat.ne_of_gt (blk_lt BK329.out) : gb354 ≠ gb329))
                     replace BK329 := Aside0.mk (blk_below BK329.out hb)
                     have NB330_354 := Aside0.mk ((by rw [hg]; exact Nat.ne_of_lt (blk_lt BK330.out) : gb330 ≠ gb354))
                     have NB354_330 := Aside0.mk ((by rw [hg]; exact Nat.ne_of_gt (blk_lt BK330.out) : gb354 ≠ gb330))
                     replace BK330 := Aside0.mk (blk_below BK330.out hb)
                     have NB342_354 := Aside0.mk ((by rw [hg]; exact Nat.ne_of_lt (blk_lt BK342.out) : gb342 ≠ gb354))
                     have NB354_342 := Aside0.mk ((by rw [hg]; exact Nat.ne_of_gt (blk_lt BK342.out) : gb354 ≠ gb342))
                     replace BK342 := Aside0.mk (blk_below BK342.out hb)
                     have NB343_354 := Aside0.mk ((by rw [hg]; exact Nat.ne_of_lt (blk_lt BK343.out) : gb343 ≠ gb354))
                     have NB354_343 := Aside0.mk ((by rw [hg]; exact Nat.ne_of_gt (blk_lt BK343.out) : gb354 ≠ gb343))
                     replace BK343 := Aside0.mk (blk_below BK343.out hb)
                     clear hb hbox hg
                     refine hK.out _ _ ⟨(blk_cell BK342.out 0).trans rfl, (blk_cell BK342.out 1).trans rfl, (blk_cell BK342.out 2).trans rfl, (blk_cell BK343.out 0).trans rfl, (blk_cell BK343.out 1).trans rfl, (blk_cell BK343.out 2).trans rfl, (blk_cell BK328.out 0).trans rfl, (blk_cell BK328.out 1).trans rfl, (blk_cell BK328.out 2).trans rfl, (blk_cell BK329.out 0).trans rfl, (blk_cell BK329.out 1).trans rfl, (blk_cell BK329.out 2).trans rfl⟩ (fun hHeld => ?_)
                     clear hK K
                     refine norm_ (a' := ?_) ?_ ?_
                     rotate_left
                     · show Act.put _ (some 14) _ = _
                       simp only [Act.put, List.setIfInBounds_toArray, List.set_cons_zero, List.set_cons_succ, i64_w, i32_w]
                       rfl
                     exact norm_ (by (simp only [putAll, Act.put, List.setIfInBounds_toArray, List.set_cons_zero, List.set_cons_succ]; done)) (hJ2_6 (v347, gb354) _ ⟨hHeld, (by (with_reducible repeat (fail)); exact Kd.N_mono HO336.out (fun _ hk => ⟨hk.1.1, ⟨hk.1.2.1, ⟨hk.1.2.2.1, ⟨hk.1.2.2.2.1, ⟨hk.1.2.2.2.2.1, ⟨hk.1.2.2.2.2.2.1, ⟨hk.1.2.2.2.2.2.2, hk.2⟩⟩⟩⟩⟩⟩⟩)), (by (with_reducible repeat (fail)); exact Kd.N_mono HO341.out (fun _ hk => ⟨hk.1.1, ⟨hk.1.2.1, ⟨hk.1.2.2.1, ⟨hk.1.2.2.2.1, ⟨hk.1.2.2.2.2.1, ⟨hk.1.2.2.2.2.2.1, ⟨hk.1.2.2.2.2.2.2, hk.2⟩⟩⟩⟩⟩⟩⟩)), (by (with_reducible repeat (fail)); exact Kd.N_mono HO348.out (fun _ hk => ⟨hk.1.1, ⟨hk.1.2.1, ⟨hk.1.2.2.1, ⟨hk.1.2.2.2.1, ⟨hk.1.2.2.2.2, hk.2⟩⟩⟩⟩⟩)), BK328.out, BK329.out, BK330.out, BK342.out, BK343.out, BK354.out, GW354.out, GE354.out, NB328_354.out, NB354_328.out, NB329_354.out, NB354_329.out, NB330_354.out, NB354_330.out, NB342_354.out, NB354_342.out, NB343_354.out, NB354_343.out, HB.out⟩)
                   · skip
                     refine box_step ?hg (N := 15) ?hd (cs := #[.int .i64 0, .int .i64 0, .slice none 0 0]) (t := 24) ?hr ?_; (case hd => rfl); (case hg => rfl); (case hr => (go_simp; done))
                     intro gb355 hg w35 hbox hb
                     replace HO336 := Aside0.mk (Kd.N_below (Kd.N_elderB HO336.out gb355 (Nat.le_of_eq hg.symm)) hb)
                     replace HO341 := Aside0.mk (Kd.N_below (Kd.N_elderB HO341.out gb355 (Nat.le_of_eq hg.symm)) hb)
                     replace HO348 := Aside0.mk (Kd.N_below (Kd.N_elderB HO348.out gb355 (Nat.le_of_eq hg.symm)) hb)
                     have BK355 := Aside0.mk (hbox)
                     have GW355 := Aside0.mk ((by rw [hg]; exact (below_size HB.out) : w.heap.size ≤ gb355))
                     have GE355 := Aside0.mk ((by rw [hg]; exact (below_size HB.out) : w.heap.size ≤ gb355))
                     replace HB := Aside0.mk (below_step HB.out hb)
                     have NB328_355 := Aside0.mk ((by rw [hg]; exact Nat.ne_of_lt (blk_lt BK328.out) : gb328 ≠ gb355))
                     have NB355_328 := Aside0.mk ((by rw [hg]; exact Nat.ne_of_gt (blk_lt BK328.out) : gb355 ≠ gb328))
                     replace BK328 := Aside0.mk (blk_below BK328.out hb)
                     have NB329_355 := Aside0.mk ((by rw [hg]; exact Nat.ne_of_lt (blk_lt BK329.out) : gb329 ≠ gb355))
                     have NB355_329 := Aside0.mk ((by rw [hg]; exact Nat.ne_of_gt (blk_lt BK329.out) : gb355 ≠ gb329))
                     replace BK329 := Aside0.mk (blk_below BK329.out hb)
                     have NB330_355 := Aside0.mk ((by rw [hg]; exact Nat.ne_of_lt (blk_lt BK330.out) : gb330 ≠ gb355))
                     have NB355_330 := Aside0.mk ((by rw [hg]; exact Nat.ne_of_gt (blk_lt BK330.out) : gb355 ≠ gb330))
                     replace BK330 := Aside0.mk (blk_below BK330.out hb)
                     have NB342_355 := Aside0.mk ((by rw [hg]; exact Nat.ne_of_lt (blk_lt BK342.out) : gb342 ≠ gb355))
                     have NB355_342 := Aside0.mk ((by rw [hg]; exact Nat.ne_of_gt (blk_lt BK342.out) : gb355 ≠ gb342))
                     replace BK342 := Aside0.mk (blk_below BK342.out hb)
                     have NB343_355 := Aside0.mk ((by rw [hg]; exact Nat.ne_of_lt (blk_lt BK343.out) : gb343 ≠ gb355))
                     have NB355_343 := Aside0.mk ((by rw [hg]; exact Nat.ne_of_gt (blk_lt BK343.out) : gb355 ≠ gb343))
                     replace BK343 := Aside0.mk (blk_below BK343.out hb)
                     clear hb hbox hg
                     refine hK.out _ _ ⟨(blk_cell BK342.out 0).trans rfl, (blk_cell BK342.out 1).trans rfl, (blk_cell BK342.out 2).trans rfl, (blk_cell BK343.out 0).trans rfl, (blk_cell BK343.out 1).trans rfl, (blk_cell BK343.out 2).trans rfl, (blk_cell BK328.out 0).trans rfl, (blk_cell BK328.out 1).trans rfl, (blk_cell BK328.out 2).trans rfl, (blk_cell BK329.out 0).trans rfl, (blk_cell BK329.out 1).trans rfl, (blk_cell BK329.out 2).trans rfl⟩ (fun hHeld => ?_)
                     clear hK K
                     refine norm_ (a' := ?_) ?_ ?_
                     rotate_left
                     · show Act.put _ (some 15) _ = _
                       simp only [Act.put, List.setIfInBounds_toArray, List.set_cons_zero, List.set_cons_succ, i64_w, i32_w]
                       rfl
                     exact norm_ (by (simp only [putAll, Act.put, List.setIfInBounds_toArray, List.set_cons_zero, List.set_cons_succ]; done)) (hJ2_7 (v347, gb355) _ ⟨hHeld, (by (with_reducible repeat (fail)); exact Kd.N_mono HO336.out (fun _ hk => ⟨hk.1.1, ⟨hk.1.2.1, ⟨hk.1.2.2.1, ⟨hk.1.2.2.2.1, ⟨hk.1.2.2.2.2.1, ⟨hk.1.2.2.2.2.2.1, ⟨hk.1.2.2.2.2.2.2, hk.2⟩⟩⟩⟩⟩⟩⟩)), (by (with_reducible repeat (fail)); exact Kd.N_mono HO341.out (fun _ hk => ⟨hk.1.1, ⟨hk.1.2.1, ⟨hk.1.2.2.1, ⟨hk.1.2.2.2.1, ⟨hk.1.2.2.2.2.1, ⟨hk.1.2.2.2.2.2.1, ⟨hk.1.2.2.2.2.2.2, hk.2⟩⟩⟩⟩⟩⟩⟩)), (by (with_reducible repeat (fail)); exact Kd.N_mono HO348.out (fun _ hk => ⟨hk.1.1, ⟨hk.1.2.1, ⟨hk.1.2.2.1, ⟨hk.1.2.2.2.1, ⟨hk.1.2.2.2.2, hk.2⟩⟩⟩⟩⟩)), BK328.out, BK329.out, BK330.out, BK342.out, BK343.out, BK355.out, GW355.out, GE355.out, NB328_355.out, NB355_328.out, NB329_355.out, NB355_329.out, NB330_355.out, NB355_330.out, NB342_355.out, NB355_342.out, NB343_355.out, NB355_343.out, HB.out⟩)
               · skip
                 rintro ⟨gb354, gb355⟩ w35 ⟨hS_, h0_, h1_, h2_, h3_, h4_, h5_, h6_, h7_, h8_, h9_, h10_, h11_, h12_, h13_, h14_, h15_, h16_, h17_, h18_, h19_, h20_, h21_, h22_, h23_, h24_, h25_, h26_, h27_, h28_, h29_, h30_, h31_, h32_, h33_, h34_, h35_⟩
                 replace HO336 : Aside0 (Kd.N k24 24 w35 w.heap.size (fun k_ => some k_ ≠ (.slice Ao29 t339.length co29 : Value).ownBlock ∧ k_ ≠ gb328 ∧ k_ ≠ gb329 ∧ k_ ≠ gb330 ∧ k_ ≠ gb342 ∧ k_ ≠ gb343 ∧ k_ ≠ gb354 ∧ k_ ≠ gb355) (.slice Ao25 t334.length co25) t334) := ⟨h0_⟩
                 replace HO341 : Aside0 (Kd.N k24 24 w35 w.heap.size (fun k_ => some k_ ≠ (.slice Ao25 t334.length co25 : Value).ownBlock ∧ k_ ≠ gb328 ∧ k_ ≠ gb329 ∧ k_ ≠ gb330 ∧ k_ ≠ gb342 ∧ k_ ≠ gb343 ∧ k_ ≠ gb354 ∧ k_ ≠ gb355) (.slice Ao29 t339.length co29) t339) := ⟨h1_⟩
                 replace BK328 : Aside0 (w35.heap[gb328]? = some (.cells #[.int .i64 a0_0, .int .i64 a0_1, .slice A0_2 l0_2.length c0_2] 24 (0, 0))) := ⟨h2_⟩
                 replace BK329 : Aside0 (w35.heap[gb329]? = some (.cells #[.int .i64 a1_0, .int .i64 a1_1, .slice A1_2 l1_2.length c1_2] 24 (0, 0))) := ⟨h3_⟩
                 replace BK330 : Aside0 (w35.heap[gb330]? = some (.cells #[.int .i64 a4_0, .int .i64 a4_1, .int .i64 a4_2, .int .i64 a4_3, .int .i64 a4_4, .int .i64 a4_5, .int .i64 a4_6, .int .i64 a4_7] 25 (0, 0))) := ⟨h4_⟩
                 replace BK342 : Aside0 (w35.heap[gb342]? = some (.cells #[.int .i64 t332, .int .i64 t333, .slice Ao25 t334.length co25] 24 (0, 0))) := ⟨h5_⟩
                 replace BK343 : Aside0 (w35.heap[gb343]? = some (.cells #[.int .i64 t337, .int .i64 t338, .slice Ao29 t339.length co29] 24 (0, 0))) := ⟨h6_⟩
                 have BK354 : Aside0 (w35.heap[gb354]? = some (.cells #[.int .i64 0, .int .i64 0, .slice none 0 0] 24 (0, 0))) := ⟨h7_⟩
                 have BK355 : Aside0 (w35.heap[gb355]? = some (.cells #[.int .i64 0, .int .i64 0, .slice none 0 0] 24 (0, 0))) := ⟨h8_⟩
                 have GW354 : Aside0 (w.heap.size ≤ gb354) := ⟨h9_⟩
                 have GE354 : Aside0 (w.heap.size ≤ gb354) := ⟨h10_⟩
                 have NB328_354 : Aside0 (gb328 ≠ gb354) := ⟨h11_⟩
                 have NB354_328 : Aside0 (gb354 ≠ gb328) := ⟨h12_⟩
                 have NB329_354 : Aside0 (gb329 ≠ gb354) := ⟨h13_⟩
                 have NB354_329 : Aside0 (gb354 ≠ gb329) := ⟨h14_⟩
                 have NB330_354 : Aside0 (gb330 ≠ gb354) := ⟨h15_⟩
                 have NB354_330 : Aside0 (gb354 ≠ gb330) := ⟨h16_⟩
                 have NB342_354 : Aside0 (gb342 ≠ gb354) := ⟨h17_⟩
                 have NB354_342 : Aside0 (gb354 ≠ gb342) := ⟨h18_⟩
                 have NB343_354 : Aside0 (gb343 ≠ gb354) := ⟨h19_⟩
                 have NB354_343 : Aside0 (gb354 ≠ gb343) := ⟨h20_⟩
                 have NB355_354 : Aside0 (gb355 ≠ gb354) := ⟨h21_⟩
                 have NB354_355 : Aside0 (gb354 ≠ gb355) := ⟨h22_⟩
                 have GW355 : Aside0 (w.heap.size ≤ gb355) := ⟨h23_⟩
                 have GE355 : Aside0 (w.heap.size ≤ gb355) := ⟨h24_⟩
                 have NB328_355 : Aside0 (gb328 ≠ gb355) := ⟨h25_⟩
                 have NB355_328 : Aside0 (gb355 ≠ gb328) := ⟨h26_⟩
                 have NB329_355 : Aside0 (gb329 ≠ gb355) := ⟨h27_⟩
                 have NB355_329 : Aside0 (gb355 ≠ gb329) := ⟨h28_⟩
                 have NB330_355 : Aside0 (gb330 ≠ gb355) := ⟨h29_⟩
                 have NB355_330 : Aside0 (gb355 ≠ gb330) := ⟨h30_⟩
                 have NB342_355 : Aside0 (gb342 ≠ gb355) := ⟨h31_⟩
                 have NB355_342 : Aside0 (gb355 ≠ gb342) := ⟨h32_⟩
                 have NB343_355 : Aside0 (gb343 ≠ gb355) := ⟨h33_⟩
                 have NB355_343 : Aside0 (gb355 ≠ gb343) := ⟨h34_⟩
                 replace HB : Aside0 (Below w.heap.size w w35) := ⟨h35_⟩
                 clear h0_ h1_ h2_ h3_ h4_ h5_ h6_ h7_ h8_ h9_ h10_ h11_ h12_ h13_ h14_ h15_ h16_ h17_ h18_ h19_ h20_ h21_ h22_ h23_ h24_ h25_ h26_ h27_ h28_ h29_ h30_ h31_ h32_ h33_ h34_ h35_
                 have hHeld : w35.cell? ⟨gb342, 0, none⟩ = some (.int .i64 t332) ∧ w35.cell? ⟨gb342, 1, none⟩ = some (.int .i64 t333) ∧ w35.cell? ⟨gb342, 2, none⟩ = some (.slice Ao25 t334.length co25) ∧ w35.cell? ⟨gb343, 0, none⟩ = some (.int .i64 t337) ∧ w35.cell? ⟨gb343, 1, none⟩ = some (.int .i64 t338) ∧ w35.cell? ⟨gb343, 2, none⟩ = some (.slice Ao29 t339.length co29) ∧ w35.cell? ⟨gb328, 0, none⟩ = some (.int .i64 a0_0) ∧ w35.cell? ⟨gb328, 1, none⟩ = some (.int .i64 a0_1) ∧ w35.cell? ⟨gb328, 2, none⟩ = some (.slice A0_2 l0_2.length c0_2) ∧ w35.cell? ⟨gb329, 0, none⟩ = some (.int .i64 a1_0) ∧ w35.cell? ⟨gb329, 1, none⟩ = some (.int .i64 a1_1) ∧ w35.cell? ⟨gb329, 2, none⟩ = some (.slice A1_2 l1_2.length c1_2) := hS_
                 refine norm_ (a' := ?_) ?_ ?_
                 rotate_left
                 · simp only [putAll, Act.put, List.setIfInBounds_toArray, List.set_cons_zero, List.set_cons_succ]
                   rfl
                 refine one_ (i := 2) (N := some 32) #[true, true, true, true, true, false, true, true, false, false] rfl rfl (one_of HT_.out (by kernel_rfl)) (by decide) (fun K hK => ?_)
                 refine goes_ Try.func22 (by kernel_rfl) rfl #[.int .i64 5, .agg #[.int .i64 t332, .int .i64 t333, .slice Ao25 t334.length co25], .agg #[.int .i64 t337, .int .i64 t338, .slice Ao29 t339.length co29]] (by rfl) rfl rfl (by (try simp only [List.map_toArray, List.map_cons, List.map_nil]); rfl) ?_
                 with_reducible refine (formelaw14_two.calls 5 t332 t333 (fun k_ => (some k_ ≠ (.slice Ao29 t339.length co29 : Value).ownBlock ∧ (k_ ≠ gb328 ∧ (k_ ≠ gb329 ∧ (k_ ≠ gb330 ∧ (k_ ≠ gb342 ∧ (k_ ≠ gb343 ∧ (k_ ≠ gb354 ∧ k_ ≠ gb355)))))))) _ _ t334 t337 t338 (fun k_ => (some k_ ≠ (.slice Ao25 t334.length co25 : Value).ownBlock ∧ (k_ ≠ gb328 ∧ (k_ ≠ gb329 ∧ (k_ ≠ gb330 ∧ (k_ ≠ gb342 ∧ (k_ ≠ gb343 ∧ (k_ ≠ gb354 ∧ k_ ≠ gb355)))))))) _ _ t339 t344 t345 t346 _ ?side1 ?side2 A9.out).mono ?_
                 (case side1 => exact Kd.N_V (HO336.out))
                 (case side2 => exact Kd.N_V (HO341.out))
                 rintro e w36 ⟨v347, rfl, ho0, hb⟩
                 refine ⟨_, rfl, ?_⟩
                 replace HO336 := Aside0.mk (Kd.N_elder' HO336.out (Kd.N_base ho0) hb)
                 replace HO341 := Aside0.mk (Kd.N_elder' HO341.out (Kd.N_base ho0) hb)
                 have HO348 := Aside0.mk (Kd.N_lower (Kd.N_mono (ok' := fun k_ => k_ ≠ gb328 ∧ k_ ≠ gb329 ∧ k_ ≠ gb330 ∧ k_ ≠ gb342 ∧ k_ ≠ gb343 ∧ k_ ≠ gb354 ∧ k_ ≠ gb355) ho0 (fun k_ hk_ => ⟨Or.elim hk_ (fun hs_ => Or.elim hs_ (fun hs_ => hs_.2.1) (fun hs_ => hs_.2.1)) (fun hn_ => (Kd.freshB BK328.out k_ hn_)), Or.elim hk_ (fun hs_ => Or.elim hs_ (fun hs_ => hs_.2.2.1) (fun hs_ => hs_.2.2.1)) (fun hn_ => (Kd.freshB BK329.out k_ hn_)), Or.elim hk_ (fun hs_ => Or.elim hs_ (fun hs_ => hs_.2.2.2.1) (fun hs_ => hs_.2.2.2.1)) (fun hn_ => (Kd.freshB BK330.out k_ hn_)), Or.elim hk_ (fun hs_ => Or.elim hs_ (fun hs_ => hs_.2.2.2.2.1) (fun hs_ => hs_.2.2.2.2.1)) (fun hn_ => (Kd.freshB BK342.out k_ hn_)), Or.elim hk_ (fun hs_ => Or.elim hs_ (fun hs_ => hs_.2.2.2.2.2.1) (fun hs_ => hs_.2.2.2.2.2.1)) (fun hn_ => (Kd.freshB BK343.out k_ hn_)), Or.elim hk_ (fun hs_ => Or.elim hs_ (fun hs_ => hs_.2.2.2.2.2.2.1) (fun hs_ => hs_.2.2.2.2.2.2.1)) (fun hn_ => (Kd.freshB BK354.out k_ hn_)), Or.elim hk_ (fun hs_ => Or.elim hs_ (fun hs_ => hs_.2.2.2.2.2.2.2) (fun hs_ => hs_.2.2.2.2.2.2.2)) (fun hn_ => (Kd.freshB BK355.out k_ hn_))⟩)) (below_size HB.out))
                 replace BK328 := Aside0.mk (blk_below BK328.out hb)
                 replace BK329 := Aside0.mk (blk_below BK329.out hb)
                 replace BK330 := Aside0.mk (blk_below BK330.out hb)
                 replace BK342 := Aside0.mk (blk_below BK342.out hb)
                 replace BK343 := Aside0.mk (blk_below BK343.out hb)
                 replace BK354 := Aside0.mk (blk_below BK354.out hb)
                 replace BK355 := Aside0.mk (blk_below BK355.out hb)
                 replace HB := Aside0.mk (below_step HB.out hb)
                 (try clear hb)
                 (try clear ho0)
                 refine hK.out _ _ ⟨(blk_cell BK342.out 0).trans rfl, (blk_cell BK342.out 1).trans rfl, (blk_cell BK342.out 2).trans rfl, (blk_cell BK343.out 0).trans rfl, (blk_cell BK343.out 1).trans rfl, (blk_cell BK343.out 2).trans rfl, (blk_cell BK328.out 0).trans rfl, (blk_cell BK328.out 1).trans rfl, (blk_cell BK328.out 2).trans rfl, (blk_cell BK329.out 0).trans rfl, (blk_cell BK329.out 1).trans rfl, (blk_cell BK329.out 2).trans rfl⟩ (fun hHeld => ?_)
                 clear hK K
                 refine norm_ (a' := ?_) ?_ ?_
                 rotate_left
                 · show Act.put _ (some 32) _ = _
                   simp only [Act.put, List.setIfInBounds_toArray, List.set_cons_zero, List.set_cons_succ, i64_w, i32_w]
                   rfl
                 exact norm_ (by (simp only [putAll, Act.put, List.setIfInBounds_toArray, List.set_cons_zero, List.set_cons_succ]; done)) (hJ2_6_7 (v347, gb354, gb355) _ ⟨hHeld, (by (with_reducible repeat (fail)); exact Kd.N_mono HO336.out (fun _ hk => ⟨hk.1.1, ⟨hk.2, ⟨hk.1.2.1, ⟨hk.1.2.2.1, ⟨hk.1.2.2.2.1, ⟨hk.1.2.2.2.2.1, ⟨hk.1.2.2.2.2.2.1, ⟨hk.1.2.2.2.2.2.2.1, hk.1.2.2.2.2.2.2.2⟩⟩⟩⟩⟩⟩⟩⟩)), (by (with_reducible repeat (fail)); exact Kd.N_mono HO341.out (fun _ hk => ⟨hk.1.1, ⟨hk.2, ⟨hk.1.2.1, ⟨hk.1.2.2.1, ⟨hk.1.2.2.2.1, ⟨hk.1.2.2.2.2.1, ⟨hk.1.2.2.2.2.2.1, ⟨hk.1.2.2.2.2.2.2.1, hk.1.2.2.2.2.2.2.2⟩⟩⟩⟩⟩⟩⟩⟩)), HO348.out, BK328.out, BK329.out, BK330.out, BK342.out, BK343.out, BK354.out, BK355.out, GW354.out, GE354.out, NB328_354.out, NB354_328.out, NB329_354.out, NB354_329.out, NB330_354.out, NB354_330.out, NB342_354.out, NB354_342.out, NB343_354.out, NB354_343.out, NB355_354.out, NB354_355.out, GW355.out, GE355.out, NB328_355.out, NB355_328.out, NB329_355.out, NB355_329.out, NB330_355.out, NB355_330.out, NB342_355.out, NB355_342.out, NB343_355.out, NB355_343.out, HB.out⟩)
             · skip
               rintro ⟨v347, gb355⟩ w35 ⟨hS_, h0_, h1_, h2_, h3_, h4_, h5_, h6_, h7_, h8_, h9_, h10_, h11_, h12_, h13_, h14_, h15_, h16_, h17_, h18_, h19_, h20_, h21_⟩
               replace HO336 : Aside0 (Kd.N k24 24 w35 w.heap.size (fun k_ => some k_ ≠ (.slice Ao29 t339.length co29 : Value).ownBlock ∧ some k_ ≠ (v347 : Value).ownBlock ∧ k_ ≠ gb328 ∧ k_ ≠ gb329 ∧ k_ ≠ gb330 ∧ k_ ≠ gb342 ∧ k_ ≠ gb343 ∧ k_ ≠ gb355) (.slice Ao25 t334.length co25) t334) := ⟨h0_⟩
               replace HO341 : Aside0 (Kd.N k24 24 w35 w.heap.size (fun k_ => some k_ ≠ (.slice Ao25 t334.length co25 : Value).ownBlock ∧ some k_ ≠ (v347 : Value).ownBlock ∧ k_ ≠ gb328 ∧ k_ ≠ gb329 ∧ k_ ≠ gb330 ∧ k_ ≠ gb342 ∧ k_ ≠ gb343 ∧ k_ ≠ gb355) (.slice Ao29 t339.length co29) t339) := ⟨h1_⟩
               have HO348 : Aside0 (Kd.N k24 24 w35 w.heap.size (fun k_ => k_ ≠ gb328 ∧ k_ ≠ gb329 ∧ k_ ≠ gb330 ∧ k_ ≠ gb342 ∧ k_ ≠ gb343 ∧ k_ ≠ gb355) v347 t346) := ⟨h2_⟩
               replace BK328 : Aside0 (w35.heap[gb328]? = some (.cells #[.int .i64 a0_0, .int .i64 a0_1, .slice A0_2 l0_2.length c0_2] 24 (0, 0))) := ⟨h3_⟩
               replace BK329 : Aside0 (w35.heap[gb329]? = some (.cells #[.int .i64 a1_0, .int .i64 a1_1, .slice A1_2 l1_2.length c1_2] 24 (0, 0))) := ⟨h4_⟩
               replace BK330 : Aside0 (w35.heap[gb330]? = some (.cells #[.int .i64 a4_0, .int .i64 a4_1, .int .i64 a4_2, .int .i64 a4_3, .int .i64 a4_4, .int .i64 a4_5, .int .i64 a4_6, .int .i64 a4_7] 25 (0, 0))) := ⟨h5_⟩
               replace BK342 : Aside0 (w35.heap[gb342]? = some (.cells #[.int .i64 t332, .int .i64 t333, .slice Ao25 t334.length co25] 24 (0, 0))) := ⟨h6_⟩
               replace BK343 : Aside0 (w35.heap[gb343]? = some (.cells #[.int .i64 t337, .int .i64 t338, .slice Ao29 t339.length co29] 24 (0, 0))) := ⟨h7_⟩
               have BK355 : Aside0 (w35.heap[gb355]? = some (.cells #[.int .i64 0, .int .i64 0, .slice none 0 0] 24 (0, 0))) := ⟨h8_⟩
               have GW355 : Aside0 (w.heap.size ≤ gb355) := ⟨h9_⟩
               have GE355 : Aside0 (w.heap.size ≤ gb355) := ⟨h10_⟩
               have NB328_355 : Aside0 (gb328 ≠ gb355) := ⟨h11_⟩
               have NB355_328 : Aside0 (gb355 ≠ gb328) := ⟨h12_⟩
               have NB329_355 : Aside0 (gb329 ≠ gb355) := ⟨h13_⟩
               have NB355_329 : Aside0 (gb355 ≠ gb329) := ⟨h14_⟩
               have NB330_355 : Aside0 (gb330 ≠ gb355) := ⟨h15_⟩
               have NB355_330 : Aside0 (gb355 ≠ gb330) := ⟨h16_⟩
               have NB342_355 : Aside0 (gb342 ≠ gb355) := ⟨h17_⟩
               have NB355_342 : Aside0 (gb355 ≠ gb342) := ⟨h18_⟩
               have NB343_355 : Aside0 (gb343 ≠ gb355) := ⟨h19_⟩
               have NB355_343 : Aside0 (gb355 ≠ gb343) := ⟨h20_⟩
               replace HB : Aside0 (Below w.heap.size w w35) := ⟨h21_⟩
               clear h0_ h1_ h2_ h3_ h4_ h5_ h6_ h7_ h8_ h9_ h10_ h11_ h12_ h13_ h14_ h15_ h16_ h17_ h18_ h19_ h20_ h21_
               have hHeld : w35.cell? ⟨gb342, 0, none⟩ = some (.int .i64 t332) ∧ w35.cell? ⟨gb342, 1, none⟩ = some (.int .i64 t333) ∧ w35.cell? ⟨gb342, 2, none⟩ = some (.slice Ao25 t334.length co25) ∧ w35.cell? ⟨gb343, 0, none⟩ = some (.int .i64 t337) ∧ w35.cell? ⟨gb343, 1, none⟩ = some (.int .i64 t338) ∧ w35.cell? ⟨gb343, 2, none⟩ = some (.slice Ao29 t339.length co29) ∧ w35.cell? ⟨gb328, 0, none⟩ = some (.int .i64 a0_0) ∧ w35.cell? ⟨gb328, 1, none⟩ = some (.int .i64 a0_1) ∧ w35.cell? ⟨gb328, 2, none⟩ = some (.slice A0_2 l0_2.length c0_2) ∧ w35.cell? ⟨gb329, 0, none⟩ = some (.int .i64 a1_0) ∧ w35.cell? ⟨gb329, 1, none⟩ = some (.int .i64 a1_1) ∧ w35.cell? ⟨gb329, 2, none⟩ = some (.slice A1_2 l1_2.length c1_2) := hS_
               refine norm_ (a' := ?_) ?_ ?_
               rotate_left
               · simp only [putAll, Act.put, List.setIfInBounds_toArray, List.set_cons_zero, List.set_cons_succ]
                 rfl
               refine two_ (i := 5) (j := 6) (Ni := some 35) (Nj := some 14) #[true, true, true, true, true, true, false, true, false, false] #[true, true, true, true, true, false, true, true, false, false] rfl rfl rfl rfl (two_of HT_.out (by kernel_rfl)) (by decide) (by decide) (fun K hK => ?_) (fun K hK => ?_)
               · skip
                 refine goes_ Try.func22 (by kernel_rfl) rfl #[.int .i64 5, .agg #[.int .i64 a0_0, .int .i64 a0_1, .slice A0_2 l0_2.length c0_2], .agg #[.int .i64 a1_0, .int .i64 a1_1, .slice A1_2 l1_2.length c1_2]] (by rfl) rfl rfl (by (try simp only [List.map_toArray, List.map_cons, List.map_nil]); rfl) ?_
                 with_reducible refine (formelaw14_two.calls 5 a0_0 a0_1 (fun k_ => k_ < w.heap.size) _ _ l0_2 a1_0 a1_1 (fun k_ => k_ < w.heap.size) _ _ l1_2 t349 t350 t351 _ ?side1 ?side2 A10.out).mono ?_
                 (case side1 => exact Kd.V_mk HC0_2.out (Kd.F_below (Kd.C_F k24_heap HR0_2.out) HB.out))
                 (case side2 => exact Kd.V_mk HC1_2.out (Kd.F_below (Kd.C_F k24_heap HR1_2.out) HB.out))
                 rintro e w36 ⟨v352, rfl, ho0, hb⟩
                 refine ⟨_, rfl, ?_⟩
                 have HO353 := Aside0.mk (Kd.N_lower (Kd.N_mono (ok' := fun k_ => some k_ ≠ (.slice Ao25 t334.length co25 : Value).ownBlock ∧ some k_ ≠ (.slice Ao29 t339.length co29 : Value).ownBlock ∧ some k_ ≠ (v347 : Value).ownBlock ∧ k_ ≠ gb328 ∧ k_ ≠ gb329 ∧ k_ ≠ gb330 ∧ k_ ≠ gb342 ∧ k_ ≠ gb343 ∧ k_ ≠ gb355) ho0 (fun k_ hk_ => ⟨Or.elim hk_ (fun hs_ => Or.elim hs_ (fun hs_ => fun e_ => Nat.not_le.2 hs_ (Kd.N_base HO336.out k_ e_.symm)) (fun hs_ => fun e_ => Nat.not_le.2 hs_ (Kd.N_base HO336.out k_ e_.symm))) (fun hn_ => (Kd.fresh' (Kd.N_lt HO336.out) k_ hn_)), Or.elim hk_ (fun hs_ => Or.elim hs_ (fun hs_ => fun e_ => Nat.not_le.2 hs_ (Kd.N_base HO341.out k_ e_.symm)) (fun hs_ => fun e_ => Nat.not_le.2 hs_ (Kd.N_base HO341.out k_ e_.symm))) (fun hn_ => (Kd.fresh' (Kd.N_lt HO341.out) k_ hn_)), Or.elim hk_ (fun hs_ => Or.elim hs_ (fun hs_ => fun e_ => Nat.not_le.2 hs_ (Kd.N_base HO348.out k_ e_.symm)) (fun hs_ => fun e_ => Nat.not_le.2 hs_ (Kd.N_base HO348.out k_ e_.symm))) (fun hn_ => (Kd.fresh' (Kd.N_lt HO348.out) k_ hn_)), Or.elim hk_ (fun hs_ => Or.elim hs_ (fun hs_ => fun e_ => Nat.not_le.2 hs_ (by rw [e_]; exact GW328.out)) (fun hs_ => fun e_ => Nat.not_le.2 hs_ (by rw [e_]; exact GW328.out))) (fun hn_ => (Kd.freshB BK328.out k_ hn_)), Or.elim hk_ (fun hs_ => Or.elim hs_ (fun hs_ => fun e_ => Nat.not_le.2 hs_ (by rw [e_]; exact GW329.out)) (fun hs_ => fun e_ => Nat.not_le.2 hs_ (by rw [e_]; exact GW329.out))) (fun hn_ => (Kd.freshB BK329.out k_ hn_)), Or.elim hk_ (fun hs_ => Or.elim hs_ (fun hs_ => fun e_ => Nat.not_le.2 hs_ (by rw [e_]; exact GW330.out)) (fun hs_ => fun e_ => Nat.not_le.2 hs_ (by rw [e_]; exact GW330.out))) (fun hn_ => (Kd.freshB BK330.out k_ hn_)), Or.elim hk_ (fun hs_ => Or.elim hs_ (fun hs_ => fun e_ => Nat.not_le.2 hs_ (by rw [e_]; exact GW342.out)) (fun hs_ => fun e_ => Nat.not_le.2 hs_ (by rw [e_]; exact GW342.out))) (fun hn_ => (Kd.freshB BK342.out k_ hn_)), Or.elim hk_ (fun hs_ => Or.elim hs_ (fun hs_ => fun e_ => Nat.not_le.2 hs_ (by rw [e_]; exact GW343.out)) (fun hs_ => fun e_ => Nat.not_le.2 hs_ (by rw [e_]; exact GW343.out))) (fun hn_ => (Kd.freshB BK343.out k_ hn_)), Or.elim hk_ (fun hs_ => Or.elim hs_ (fun hs_ => fun e_ => Nat.not_le.2 hs_ (by rw [e_]; exact GW355.out)) (fun hs_ => fun e_ => Nat.not_le.2 hs_ (by rw [e_]; exact GW355.out))) (fun hn_ => (Kd.freshB BK355.out k_ hn_))⟩)) (below_size HB.out))
                 replace HO336 := Aside0.mk (Kd.N_elder' HO336.out (Kd.N_base ho0) hb)
                 replace HO341 := Aside0.mk (Kd.N_elder' HO341.out (Kd.N_base ho0) hb)
                 replace HO348 := Aside0.mk (Kd.N_elder' HO348.out (Kd.N_base ho0) hb)
                 replace BK328 := Aside0.mk (blk_below BK328.out hb)
                 replace BK329 := Aside0.mk (blk_below BK329.out hb)
                 replace BK330 := Aside0.mk (blk_below BK330.out hb)
                 replace BK342 := Aside0.mk (blk_below BK342.out hb)
                 replace BK343 := Aside0.mk (blk_below BK343.out hb)
                 replace BK355 := Aside0.mk (blk_below BK355.out hb)
                 replace HB := Aside0.mk (below_step HB.out hb)
                 (try clear hb)
                 (try clear ho0)
                 refine hK.out _ _ ⟨(blk_cell BK342.out 0).trans rfl, (blk_cell BK342.out 1).trans rfl, (blk_cell BK342.out 2).trans rfl, (blk_cell BK343.out 0).trans rfl, (blk_cell BK343.out 1).trans rfl, (blk_cell BK343.out 2).trans rfl, (blk_cell BK328.out 0).trans rfl, (blk_cell BK328.out 1).trans rfl, (blk_cell BK328.out 2).trans rfl, (blk_cell BK329.out 0).trans rfl, (blk_cell BK329.out 1).trans rfl, (blk_cell BK329.out 2).trans rfl⟩ (fun hHeld => ?_)
                 clear hK K
                 refine norm_ (a' := ?_) ?_ ?_
                 rotate_left
                 · show Act.put _ (some 35) _ = _
                   simp only [Act.put, List.setIfInBounds_toArray, List.set_cons_zero, List.set_cons_succ, i64_w, i32_w]
                   rfl
                 exact norm_ (by (simp only [putAll, Act.put, List.setIfInBounds_toArray, List.set_cons_zero, List.set_cons_succ]; done)) (hJ2_5_7 (v347, v352, gb355) _ ⟨hHeld, (by (with_reducible repeat (fail)); exact Kd.N_mono HO336.out (fun _ hk => ⟨hk.1.1, ⟨hk.1.2.1, ⟨hk.2, ⟨hk.1.2.2.1, ⟨hk.1.2.2.2.1, ⟨hk.1.2.2.2.2.1, ⟨hk.1.2.2.2.2.2.1, ⟨hk.1.2.2.2.2.2.2.1, hk.1.2.2.2.2.2.2.2⟩⟩⟩⟩⟩⟩⟩⟩)), (by (with_reducible repeat (fail)); exact Kd.N_mono HO341.out (fun _ hk => ⟨hk.1.1, ⟨hk.1.2.1, ⟨hk.2, ⟨hk.1.2.2.1, ⟨hk.1.2.2.2.1, ⟨hk.1.2.2.2.2.1, ⟨hk.1.2.2.2.2.2.1, ⟨hk.1.2.2.2.2.2.2.1, hk.1.2.2.2.2.2.2.2⟩⟩⟩⟩⟩⟩⟩⟩)), (by (with_reducible repeat (fail)); exact Kd.N_mono HO348.out (fun _ hk => ⟨hk.2, ⟨hk.1.1, ⟨hk.1.2.1, ⟨hk.1.2.2.1, ⟨hk.1.2.2.2.1, ⟨hk.1.2.2.2.2.1, hk.1.2.2.2.2.2⟩⟩⟩⟩⟩⟩)), HO353.out, BK328.out, BK329.out, BK330.out, BK342.out, BK343.out, BK355.out, GW355.out, GE355.out, NB328_355.out, NB355_328.out, NB329_355.out, NB355_329.out, NB330_355.out, NB355_330.out, NB342_355.out, NB355_342.out, NB343_355.out, NB355_343.out, HB.out⟩)
               · skip
                 refine box_step ?hg (N := 14) ?hd (cs := #[.int .i64 0, .int .i64 0, .slice none 0 0]) (t := 24) ?hr ?_; (case hd => rfl); (case hg => rfl); (case hr => (go_simp; done))
                 intro gb354 hg w36 hbox hb
                 replace HO336 := Aside0.mk (Kd.N_below (Kd.N_elderB HO336.out gb354 (Nat.le_of_eq hg.symm)) hb)
                 replace HO341 := Aside0.mk (Kd.N_below (Kd.N_elderB HO341.out gb354 (Nat.le_of_eq hg.symm)) hb)
                 replace HO348 := Aside0.mk (Kd.N_below (Kd.N_elderB HO348.out gb354 (Nat.le_of_eq hg.symm)) hb)
                 have BK354 := Aside0.mk (hbox)
                 have GW354 := Aside0.mk ((by rw [hg]; exact (below_size HB.out) : w.heap.size ≤ gb354))
                 have GE354 := Aside0.mk ((by rw [hg]; exact (below_size HB.out) : w.heap.size ≤ gb354))
                 replace HB := Aside0.mk (below_step HB.out hb)
                 have NB328_354 := Aside0.mk ((by rw [hg]; exact Nat.ne_of_lt (blk_lt BK328.out) : gb328 ≠ gb354))
                 have NB354_328 := Aside0.mk ((by rw [hg]; exact Nat.ne_of_gt (blk_lt BK328.out) : gb354 ≠ gb328))
                 replace BK328 := Aside0.mk (blk_below BK328.out hb)
                 have NB329_354 := Aside0.mk ((by rw [hg]; exact Nat.ne_of_lt (blk_lt BK329.out) : gb329 ≠ gb354))
                 have NB354_329 := Aside0.mk ((by rw [hg]; exact Nat.ne_of_gt (blk_lt BK329.out) : gb354 ≠ gb329))
                 replace BK329 := Aside0.mk (blk_below BK329.out hb)
                 have NB330_354 := Aside0.mk ((by rw [hg]; exact Nat.ne_of_lt (blk_lt BK330.out) : gb330 ≠ gb354))
                 have NB354_330 := Aside0.mk ((by rw [hg]; exact Nat.ne_of_gt (blk_lt BK330.out) : gb354 ≠ gb330))
                 replace BK330 := Aside0.mk (blk_below BK330.out hb)
                 have NB342_354 := Aside0.mk ((by rw [hg]; exact Nat.ne_of_lt (blk_lt BK342.out) : gb342 ≠ gb354))
                 have NB354_342 := Aside0.mk ((by rw [hg]; exact Nat.ne_of_gt (blk_lt BK342.out) : gb354 ≠ gb342))
                 replace BK342 := Aside0.mk (blk_below BK342.out hb)
                 have NB343_354 := Aside0.mk ((by rw [hg]; exact Nat.ne_of_lt (blk_lt BK343.out) : gb343 ≠ gb354))
                 have NB354_343 := Aside0.mk ((by rw [hg]; exact Nat.ne_of_gt (blk_lt BK343.out) : gb354 ≠ gb343))
                 replace BK343 := Aside0.mk (blk_below BK343.out hb)
                 have NB355_354 := Aside0.mk ((by rw [hg]; exact Nat.ne_of_lt (blk_lt BK355.out) : gb355 ≠ gb354))
                 have NB354_355 := Aside0.mk ((by rw [hg]; exact Nat.ne_of_gt (blk_lt BK355.out) : gb354 ≠ gb355))
                 replace BK355 := Aside0.mk (blk_below BK355.out hb)
                 clear hb hbox hg
                 refine hK.out _ _ ⟨(blk_cell BK342.out 0).trans rfl, (blk_cell BK342.out 1).trans rfl, (blk_cell BK342.out 2).trans rfl, (blk_cell BK343.out 0).trans rfl, (blk_cell BK343.out 1).trans rfl, (blk_cell BK343.out 2).trans rfl, (blk_cell BK328.out 0).trans rfl, (blk_cell BK328.out 1).trans rfl, (blk_cell BK328.out 2).trans rfl, (blk_cell BK329.out 0).trans rfl, (blk_cell BK329.out 1).trans rfl, (blk_cell BK329.out 2).trans rfl⟩ (fun hHeld => ?_)
                 clear hK K
                 refine norm_ (a' := ?_) ?_ ?_
                 rotate_left
                 · show Act.put _ (some 14) _ = _
                   simp only [Act.put, List.setIfInBounds_toArray, List.set_cons_zero, List.set_cons_succ, i64_w, i32_w]
                   rfl
                 exact norm_ (by (simp only [putAll, Act.put, List.setIfInBounds_toArray, List.set_cons_zero, List.set_cons_succ]; done)) (hJ2_6_7 (v347, gb354, gb355) _ ⟨hHeld, (by (with_reducible repeat (fail)); exact Kd.N_mono HO336.out (fun _ hk => ⟨hk.1.1, ⟨hk.1.2.1, ⟨hk.1.2.2.1, ⟨hk.1.2.2.2.1, ⟨hk.1.2.2.2.2.1, ⟨hk.1.2.2.2.2.2.1, ⟨hk.1.2.2.2.2.2.2.1, ⟨hk.2, hk.1.2.2.2.2.2.2.2⟩⟩⟩⟩⟩⟩⟩⟩)), (by (with_reducible repeat (fail)); exact Kd.N_mono HO341.out (fun _ hk => ⟨hk.1.1, ⟨hk.1.2.1, ⟨hk.1.2.2.1, ⟨hk.1.2.2.2.1, ⟨hk.1.2.2.2.2.1, ⟨hk.1.2.2.2.2.2.1, ⟨hk.1.2.2.2.2.2.2.1, ⟨hk.2, hk.1.2.2.2.2.2.2.2⟩⟩⟩⟩⟩⟩⟩⟩)), (by (with_reducible repeat (fail)); exact Kd.N_mono HO348.out (fun _ hk => ⟨hk.1.1, ⟨hk.1.2.1, ⟨hk.1.2.2.1, ⟨hk.1.2.2.2.1, ⟨hk.1.2.2.2.2.1, ⟨hk.2, hk.1.2.2.2.2.2⟩⟩⟩⟩⟩⟩)), BK328.out, BK329.out, BK330.out, BK342.out, BK343.out, BK354.out, BK355.out, GW354.out, GE354.out, NB328_354.out, NB354_328.out, NB329_354.out, NB354_329.out, NB330_354.out, NB354_330.out, NB342_354.out, NB354_342.out, NB343_354.out, NB354_343.out, NB355_354.out, NB354_355.out, GW355.out, GE355.out, NB328_355.out, NB355_328.out, NB329_355.out, NB355_329.out, NB330_355.out, NB355_330.out, NB342_355.out, NB355_342.out, NB343_355.out, NB355_343.out, HB.out⟩)
           · skip
             rintro ⟨v347, gb354⟩ w35 ⟨hS_, h0_, h1_, h2_, h3_, h4_, h5_, h6_, h7_, h8_, h9_, h10_, h11_, h12_, h13_, h14_, h15_, h16_, h17_, h18_, h19_, h20_, h21_⟩
             replace HO336 : Aside0 (Kd.N k24 24 w35 w.heap.size (fun k_ => some k_ ≠ (.slice Ao29 t339.length co29 : Value).ownBlock ∧ some k_ ≠ (v347 : Value).ownBlock ∧ k_ ≠ gb328 ∧ k_ ≠ gb329 ∧ k_ ≠ gb330 ∧ k_ ≠ gb342 ∧ k_ ≠ gb343 ∧ k_ ≠ gb354) (.slice Ao25 t334.length co25) t334) := ⟨h0_⟩
             replace HO341 : Aside0 (Kd.N k24 24 w35 w.heap.size (fun k_ => some k_ ≠ (.slice Ao25 t334.length co25 : Value).ownBlock ∧ some k_ ≠ (v347 : Value).ownBlock ∧ k_ ≠ gb328 ∧ k_ ≠ gb329 ∧ k_ ≠ gb330 ∧ k_ ≠ gb342 ∧ k_ ≠ gb343 ∧ k_ ≠ gb354) (.slice Ao29 t339.length co29) t339) := ⟨h1_⟩
             have HO348 : Aside0 (Kd.N k24 24 w35 w.heap.size (fun k_ => k_ ≠ gb328 ∧ k_ ≠ gb329 ∧ k_ ≠ gb330 ∧ k_ ≠ gb342 ∧ k_ ≠ gb343 ∧ k_ ≠ gb354) v347 t346) := ⟨h2_⟩
             replace BK328 : Aside0 (w35.heap[gb328]? = some (.cells #[.int .i64 a0_0, .int .i64 a0_1, .slice A0_2 l0_2.length c0_2] 24 (0, 0))) := ⟨h3_⟩
             replace BK329 : Aside0 (w35.heap[gb329]? = some (.cells #[.int .i64 a1_0, .int .i64 a1_1, .slice A1_2 l1_2.length c1_2] 24 (0, 0))) := ⟨h4_⟩
             replace BK330 : Aside0 (w35.heap[gb330]? = some (.cells #[.int .i64 a4_0, .int .i64 a4_1, .int .i64 a4_2, .int .i64 a4_3, .int .i64 a4_4, .int .i64 a4_5, .int .i64 a4_6, .int .i64 a4_7] 25 (0, 0))) := ⟨h5_⟩
             replace BK342 : Aside0 (w35.heap[gb342]? = some (.cells #[.int .i64 t332, .int .i64 t333, .slice Ao25 t334.length co25] 24 (0, 0))) := ⟨h6_⟩
             replace BK343 : Aside0 (w35.heap[gb343]? = some (.cells #[.int .i64 t337, .int .i64 t338, .slice Ao29 t339.length co29] 24 (0, 0))) := ⟨h7_⟩
             have BK354 : Aside0 (w35.heap[gb354]? = some (.cells #[.int .i64 0, .int .i64 0, .slice none 0 0] 24 (0, 0))) := ⟨h8_⟩
             have GW354 : Aside0 (w.heap.size ≤ gb354) := ⟨h9_⟩
             have GE354 : Aside0 (w.heap.size ≤ gb354) := ⟨h10_⟩
             have NB328_354 : Aside0 (gb328 ≠ gb354) := ⟨h11_⟩
             have NB354_328 : Aside0 (gb354 ≠ gb328) := ⟨h12_⟩
             have NB329_354 : Aside0 (gb329 ≠ gb354) := ⟨h13_⟩
             have NB354_329 : Aside0 (gb354 ≠ gb329) := ⟨h14_⟩
             have NB330_354 : Aside0 (gb330 ≠ gb354) := ⟨h15_⟩
             have NB354_330 : Aside0 (gb354 ≠ gb330) := ⟨h16_⟩
             have NB342_354 : Aside0 (gb342 ≠ gb354) := ⟨h17_⟩
             have NB354_342 : Aside0 (gb354 ≠ gb342) := ⟨h18_⟩
             have NB343_354 : Aside0 (gb343 ≠ gb354) := ⟨h19_⟩
             have NB354_343 : Aside0 (gb354 ≠ gb343) := ⟨h20_⟩
             replace HB : Aside0 (Below w.heap.size w w35) := ⟨h21_⟩
             clear h0_ h1_ h2_ h3_ h4_ h5_ h6_ h7_ h8_ h9_ h10_ h11_ h12_ h13_ h14_ h15_ h16_ h17_ h18_ h19_ h20_ h21_
             have hHeld : w35.cell? ⟨gb342, 0, none⟩ = some (.int .i64 t332) ∧ w35.cell? ⟨gb342, 1, none⟩ = some (.int .i64 t333) ∧ w35.cell? ⟨gb342, 2, none⟩ = some (.slice Ao25 t334.length co25) ∧ w35.cell? ⟨gb343, 0, none⟩ = some (.int .i64 t337) ∧ w35.cell? ⟨gb343, 1, none⟩ = some (.int .i64 t338) ∧ w35.cell? ⟨gb343, 2, none⟩ = some (.slice Ao29 t339.length co29) ∧ w35.cell? ⟨gb328, 0, none⟩ = some (.int .i64 a0_0) ∧ w35.cell? ⟨gb328, 1, none⟩ = some (.int .i64 a0_1) ∧ w35.cell? ⟨gb328, 2, none⟩ = some (.slice A0_2 l0_2.length c0_2) ∧ w35.cell? ⟨gb329, 0, none⟩ = some (.int .i64 a1_0) ∧ w35.cell? ⟨gb329, 1, none⟩ = some (.int .i64 a1_1) ∧ w35.cell? ⟨gb329, 2, none⟩ = some (.slice A1_2 l1_2.length c1_2) := hS_
             refine norm_ (a' := ?_) ?_ ?_
             rotate_left
             · simp only [putAll, Act.put, List.setIfInBounds_toArray, List.set_cons_zero, List.set_cons_succ]
               rfl
             refine two_ (i := 5) (j := 7) (Ni := some 35) (Nj := some 15) #[true, true, true, true, true, true, true, false, false, false] #[true, true, true, true, true, false, true, true, false, false] rfl rfl rfl rfl (two_of HT_.out (by kernel_rfl)) (by decide) (by decide) (fun K hK => ?_) (fun K hK => ?_)
             · skip
               refine goes_ Try.func22 (by kernel_rfl) rfl #[.int .i64 5, .agg #[.int .i64 a0_0, .int .i64 a0_1, .slice A0_2 l0_2.length c0_2], .agg #[.int .i64 a1_0, .int .i64 a1_1, .slice A1_2 l1_2.length c1_2]] (by rfl) rfl rfl (by (try simp only [List.map_toArray, List.map_cons, List.map_nil]); rfl) ?_
               with_reducible refine (formelaw14_two.calls 5 a0_0 a0_1 (fun k_ => k_ < w.heap.size) _ _ l0_2 a1_0 a1_1 (fun k_ => k_ < w.heap.size) _ _ l1_2 t349 t350 t351 _ ?side1 ?side2 A10.out).mono ?_
               (case side1 => exact Kd.V_mk HC0_2.out (Kd.F_below (Kd.C_F k24_heap HR0_2.out) HB.out))
               (case side2 => exact Kd.V_mk HC1_2.out (Kd.F_below (Kd.C_F k24_heap HR1_2.out) HB.out))
               rintro e w36 ⟨v352, rfl, ho0, hb⟩
               refine ⟨_, rfl, ?_⟩
               have HO353 := Aside0.mk (Kd.N_lower (Kd.N_mono (ok' := fun k_ => some k_ ≠ (.slice Ao25 t334.length co25 : Value).ownBlock ∧ some k_ ≠ (.slice Ao29 t339.length co29 : Value).ownBlock ∧ some k_ ≠ (v347 : Value).ownBlock ∧ k_ ≠ gb328 ∧ k_ ≠ gb329 ∧ k_ ≠ gb330 ∧ k_ ≠ gb342 ∧ k_ ≠ gb343 ∧ k_ ≠ gb354) ho0 (fun k_ hk_ => ⟨Or.elim hk_ (fun hs_ => Or.elim hs_ (fun hs_ => fun e_ => Nat.not_le.2 hs_ (Kd.N_base HO336.out k_ e_.symm)) (fun hs_ => fun e_ => Nat.not_le.2 hs_ (Kd.N_base HO336.out k_ e_.symm))) (fun hn_ => (Kd.fresh' (Kd.N_lt HO336.out) k_ hn_)), Or.elim hk_ (fun hs_ => Or.elim hs_ (fun hs_ => fun e_ => Nat.not_le.2 hs_ (Kd.N_base HO341.out k_ e_.symm)) (fun hs_ => fun e_ => Nat.not_le.2 hs_ (Kd.N_base HO341.out k_ e_.symm))) (fun hn_ => (Kd.fresh' (Kd.N_lt HO341.out) k_ hn_)), Or.elim hk_ (fun hs_ => Or.elim hs_ (fun hs_ => fun e_ => Nat.not_le.2 hs_ (Kd.N_base HO348.out k_ e_.symm)) (fun hs_ => fun e_ => Nat.not_le.2 hs_ (Kd.N_base HO348.out k_ e_.symm))) (fun hn_ => (Kd.fresh' (Kd.N_lt HO348.out) k_ hn_)), Or.elim hk_ (fun hs_ => Or.elim hs_ (fun hs_ => fun e_ => Nat.not_le.2 hs_ (by rw [e_]; exact GW328.out)) (fun hs_ => fun e_ => Nat.not_le.2 hs_ (by rw [e_]; exact GW328.out))) (fun hn_ => (Kd.freshB BK328.out k_ hn_)), Or.elim hk_ (fun hs_ => Or.elim hs_ (fun hs_ => fun e_ => Nat.not_le.2 hs_ (by rw [e_]; exact GW329.out)) (fun hs_ => fun e_ => Nat.not_le.2 hs_ (by rw [e_]; exact GW329.out))) (fun hn_ => (Kd.freshB BK329.out k_ hn_)), Or.elim hk_ (fun hs_ => Or.elim hs_ (fun hs_ => fun e_ => Nat.not_le.2 hs_ (by rw [e_]; exact GW330.out)) (fun hs_ => fun e_ => Nat.not_le.2 hs_ (by rw [e_]; exact GW330.out))) (fun hn_ => (Kd.freshB BK330.out k_ hn_)), Or.elim hk_ (fun hs_ => Or.elim hs_ (fun hs_ => fun e_ => Nat.not_le.2 hs_ (by rw [e_]; exact GW342.out)) (fun hs_ => fun e_ => Nat.not_le.2 hs_ (by rw [e_]; exact GW342.out))) (fun hn_ => (Kd.freshB BK342.out k_ hn_)), Or.elim hk_ (fun hs_ => Or.elim hs_ (fun hs_ => fun e_ => Nat.not_le.2 hs_ (by rw [e_]; exact GW343.out)) (fun hs_ => fun e_ => Nat.not_le.2 hs_ (by rw [e_]; exact GW343.out))) (fun hn_ => (Kd.freshB BK343.out k_ hn_)), Or.elim hk_ (fun hs_ => Or.elim hs_ (fun hs_ => fun e_ => Nat.not_le.2 hs_ (by rw [e_]; exact GW354.out)) (fun hs_ => fun e_ => Nat.not_le.2 hs_ (by rw [e_]; exact GW354.out))) (fun hn_ => (Kd.freshB BK354.out k_ hn_))⟩)) (below_size HB.out))
               replace HO336 := Aside0.mk (Kd.N_elder' HO336.out (Kd.N_base ho0) hb)
               replace HO341 := Aside0.mk (Kd.N_elder' HO341.out (Kd.N_base ho0) hb)
               replace HO348 := Aside0.mk (Kd.N_elder' HO348.out (Kd.N_base ho0) hb)
               replace BK328 := Aside0.mk (blk_below BK328.out hb)
               replace BK329 := Aside0.mk (blk_below BK329.out hb)
               replace BK330 := Aside0.mk (blk_below BK330.out hb)
               replace BK342 := Aside0.mk (blk_below BK342.out hb)
               replace BK343 := Aside0.mk (blk_below BK343.out hb)
               replace BK354 := Aside0.mk (blk_below BK354.out hb)
               replace HB := Aside0.mk (below_step HB.out hb)
               (try clear hb)
               (try clear ho0)
               refine hK.out _ _ ⟨(blk_cell BK342.out 0).trans rfl, (blk_cell BK342.out 1).trans rfl, (blk_cell BK342.out 2).trans rfl, (blk_cell BK343.out 0).trans rfl, (blk_cell BK343.out 1).trans rfl, (blk_cell BK343.out 2).trans rfl, (blk_cell BK328.out 0).trans rfl, (blk_cell BK328.out 1).trans rfl, (blk_cell BK328.out 2).trans rfl, (blk_cell BK329.out 0).trans rfl, (blk_cell BK329.out 1).trans rfl, (blk_cell BK329.out 2).trans rfl⟩ (fun hHeld => ?_)
               clear hK K
               refine norm_ (a' := ?_) ?_ ?_
               rotate_left
               · show Act.put _ (some 35) _ = _
                 simp only [Act.put, List.setIfInBounds_toArray, List.set_cons_zero, List.set_cons_succ, i64_w, i32_w]
                 rfl
               exact norm_ (by (simp only [putAll, Act.put, List.setIfInBounds_toArray, List.set_cons_zero, List.set_cons_succ]; done)) (hJ2_5_6 (v347, v352, gb354) _ ⟨hHeld, (by (with_reducible repeat (fail)); exact Kd.N_mono HO336.out (fun _ hk => ⟨hk.1.1, ⟨hk.1.2.1, ⟨hk.2, ⟨hk.1.2.2.1, ⟨hk.1.2.2.2.1, ⟨hk.1.2.2.2.2.1, ⟨hk.1.2.2.2.2.2.1, ⟨hk.1.2.2.2.2.2.2.1, hk.1.2.2.2.2.2.2.2⟩⟩⟩⟩⟩⟩⟩⟩)), (by (with_reducible repeat (fail)); exact Kd.N_mono HO341.out (fun _ hk => ⟨hk.1.1, ⟨hk.1.2.1, ⟨hk.2, ⟨hk.1.2.2.1, ⟨hk.1.2.2.2.1, ⟨hk.1.2.2.2.2.1, ⟨hk.1.2.2.2.2.2.1, ⟨hk.1.2.2.2.2.2.2.1, hk.1.2.2.2.2.2.2.2⟩⟩⟩⟩⟩⟩⟩⟩)), (by (with_reducible repeat (fail)); exact Kd.N_mono HO348.out (fun _ hk => ⟨hk.2, ⟨hk.1.1, ⟨hk.1.2.1, ⟨hk.1.2.2.1, ⟨hk.1.2.2.2.1, ⟨hk.1.2.2.2.2.1, hk.1.2.2.2.2.2⟩⟩⟩⟩⟩⟩)), HO353.out, BK328.out, BK329.out, BK330.out, BK342.out, BK343.out, BK354.out, GW354.out, GE354.out, NB328_354.out, NB354_328.out, NB329_354.out, NB354_329.out, NB330_354.out, NB354_330.out, NB342_354.out, NB354_342.out, NB343_354.out, NB354_343.out, HB.out⟩)
             · skip
               refine box_step ?hg (N := 15) ?hd (cs := #[.int .i64 0, .int .i64 0, .slice none 0 0]) (t := 24) ?hr ?_; (case hd => rfl); (case hg => rfl); (case hr => (go_simp; done))
               intro gb355 hg w36 hbox hb
               replace HO336 := Aside0.mk (Kd.N_below (Kd.N_elderB HO336.out gb355 (Nat.le_of_eq hg.symm)) hb)
               replace HO341 := Aside0.mk (Kd.N_below (Kd.N_elderB HO341.out gb355 (Nat.le_of_eq hg.symm)) hb)
               replace HO348 := Aside0.mk (Kd.N_below (Kd.N_elderB HO348.out gb355 (Nat.le_of_eq hg.symm)) hb)
               have BK355 := Aside0.mk (hbox)
               have GW355 := Aside0.mk ((by rw [hg]; exact (below_size HB.out) : w.heap.size ≤ gb355))
               have GE355 := Aside0.mk ((by rw [hg]; exact (below_size HB.out) : w.heap.size ≤ gb355))
               replace HB := Aside0.mk (below_step HB.out hb)
               have NB328_355 := Aside0.mk ((by rw [hg]; exact Nat.ne_of_lt (blk_lt BK328.out) : gb328 ≠ gb355))
               have NB355_328 := Aside0.mk ((by rw [hg]; exact Nat.ne_of_gt (blk_lt BK328.out) : gb355 ≠ gb328))
               replace BK328 := Aside0.mk (blk_below BK328.out hb)
               have NB329_355 := Aside0.mk ((by rw [hg]; exact Nat.ne_of_lt (blk_lt BK329.out) : gb329 ≠ gb355))
               have NB355_329 := Aside0.mk ((by rw [hg]; exact Nat.ne_of_gt (blk_lt BK329.out) : gb355 ≠ gb329))
               replace BK329 := Aside0.mk (blk_below BK329.out hb)
               have NB330_355 := Aside0.mk ((by rw [hg]; exact Nat.ne_of_lt (blk_lt BK330.out) : gb330 ≠ gb355))
               have NB355_330 := Aside0.mk ((by rw [hg]; exact Nat.ne_of_gt (blk_lt BK330.out) : gb355 ≠ gb330))
               replace BK330 := Aside0.mk (blk_below BK330.out hb)
               have NB342_355 := Aside0.mk ((by rw [hg]; exact Nat.ne_of_lt (blk_lt BK342.out) : gb342 ≠ gb355))
               have NB355_342 := Aside0.mk ((by rw [hg]; exact Nat.ne_of_gt (blk_lt BK342.out) : gb355 ≠ gb342))
               replace BK342 := Aside0.mk (blk_below BK342.out hb)
               have NB343_355 := Aside0.mk ((by rw [hg]; exact Nat.ne_of_lt (blk_lt BK343.out) : gb343 ≠ gb355))
               have NB355_343 := Aside0.mk ((by rw [hg]; exact Nat.ne_of_gt (blk_lt BK343.out) : gb355 ≠ gb343))
               replace BK343 := Aside0.mk (blk_below BK343.out hb)
               have NB354_355 := Aside0.mk ((by rw [hg]; exact Nat.ne_of_lt (blk_lt BK354.out) : gb354 ≠ gb355))
               have NB355_354 := Aside0.mk ((by rw [hg]; exact Nat.ne_of_gt (blk_lt BK354.out) : gb355 ≠ gb354))
               replace BK354 := Aside0.mk (blk_below BK354.out hb)
               clear hb hbox hg
               refine hK.out _ _ ⟨(blk_cell BK342.out 0).trans rfl, (blk_cell BK342.out 1).trans rfl, (blk_cell BK342.out 2).trans rfl, (blk_cell BK343.out 0).trans rfl, (blk_cell BK343.out 1).trans rfl, (blk_cell BK343.out 2).trans rfl, (blk_cell BK328.out 0).trans rfl, (blk_cell BK328.out 1).trans rfl, (blk_cell BK328.out 2).trans rfl, (blk_cell BK329.out 0).trans rfl, (blk_cell BK329.out 1).trans rfl, (blk_cell BK329.out 2).trans rfl⟩ (fun hHeld => ?_)
               clear hK K
               refine norm_ (a' := ?_) ?_ ?_
               rotate_left
               · show Act.put _ (some 15) _ = _
                 simp only [Act.put, List.setIfInBounds_toArray, List.set_cons_zero, List.set_cons_succ, i64_w, i32_w]
                 rfl
               exact norm_ (by (simp only [putAll, Act.put, List.setIfInBounds_toArray, List.set_cons_zero, List.set_cons_succ]; done)) (hJ2_6_7 (v347, gb354, gb355) _ ⟨hHeld, (by (with_reducible repeat (fail)); exact Kd.N_mono HO336.out (fun _ hk => ⟨hk.1.1, ⟨hk.1.2.1, ⟨hk.1.2.2.1, ⟨hk.1.2.2.2.1, ⟨hk.1.2.2.2.2.1, ⟨hk.1.2.2.2.2.2.1, ⟨hk.1.2.2.2.2.2.2.1, ⟨hk.1.2.2.2.2.2.2.2, hk.2⟩⟩⟩⟩⟩⟩⟩⟩)), (by (with_reducible repeat (fail)); exact Kd.N_mono HO341.out (fun _ hk => ⟨hk.1.1, ⟨hk.1.2.1, ⟨hk.1.2.2.1, ⟨hk.1.2.2.2.1, ⟨hk.1.2.2.2.2.1, ⟨hk.1.2.2.2.2.2.1, ⟨hk.1.2.2.2.2.2.2.1, ⟨hk.1.2.2.2.2.2.2.2, hk.2⟩⟩⟩⟩⟩⟩⟩⟩)), (by (with_reducible repeat (fail)); exact Kd.N_mono HO348.out (fun _ hk => ⟨hk.1.1, ⟨hk.1.2.1, ⟨hk.1.2.2.1, ⟨hk.1.2.2.2.1, ⟨hk.1.2.2.2.2.1, ⟨hk.1.2.2.2.2.2, hk.2⟩⟩⟩⟩⟩⟩)), BK328.out, BK329.out, BK330.out, BK342.out, BK343.out, BK354.out, BK355.out, GW354.out, GE354.out, NB328_354.out, NB354_328.out, NB329_354.out, NB354_329.out, NB330_354.out, NB354_330.out, NB342_354.out, NB354_342.out, NB343_354.out, NB354_343.out, NB355_354.out, NB354_355.out, GW355.out, GE355.out, NB328_355.out, NB355_328.out, NB329_355.out, NB355_329.out, NB330_355.out, NB355_330.out, NB342_355.out, NB355_342.out, NB343_355.out, NB355_343.out, HB.out⟩)
         · skip
           rintro ⟨v347, v352⟩ w35 ⟨hS_, h0_, h1_, h2_, h3_, h4_, h5_, h6_, h7_, h8_, h9_⟩
           replace HO336 : Aside0 (Kd.N k24 24 w35 w.heap.size (fun k_ => some k_ ≠ (.slice Ao29 t339.length co29 : Value).ownBlock ∧ some k_ ≠ (v347 : Value).ownBlock ∧ some k_ ≠ (v352 : Value).ownBlock ∧ k_ ≠ gb328 ∧ k_ ≠ gb329 ∧ k_ ≠ gb330 ∧ k_ ≠ gb342 ∧ k_ ≠ gb343) (.slice Ao25 t334.length co25) t334) := ⟨h0_⟩
           replace HO341 : Aside0 (Kd.N k24 24 w35 w.heap.size (fun k_ => some k_ ≠ (.slice Ao25 t334.length co25 : Value).ownBlock ∧ some k_ ≠ (v347 : Value).ownBlock ∧ some k_ ≠ (v352 : Value).ownBlock ∧ k_ ≠ gb328 ∧ k_ ≠ gb329 ∧ k_ ≠ gb330 ∧ k_ ≠ gb342 ∧ k_ ≠ gb343) (.slice Ao29 t339.length co29) t339) := ⟨h1_⟩
           have HO348 : Aside0 (Kd.N k24 24 w35 w.heap.size (fun k_ => some k_ ≠ (v352 : Value).ownBlock ∧ k_ ≠ gb328 ∧ k_ ≠ gb329 ∧ k_ ≠ gb330 ∧ k_ ≠ gb342 ∧ k_ ≠ gb343) v347 t346) := ⟨h2_⟩
           have HO353 : Aside0 (Kd.N k24 24 w35 w.heap.size (fun k_ => some k_ ≠ (.slice Ao25 t334.length co25 : Value).ownBlock ∧ some k_ ≠ (.slice Ao29 t339.length co29 : Value).ownBlock ∧ some k_ ≠ (v347 : Value).ownBlock ∧ k_ ≠ gb328 ∧ k_ ≠ gb329 ∧ k_ ≠ gb330 ∧ k_ ≠ gb342 ∧ k_ ≠ gb343) v352 t351) := ⟨h3_⟩
           replace BK328 : Aside0 (w35.heap[gb328]? = some (.cells #[.int .i64 a0_0, .int .i64 a0_1, .slice A0_2 l0_2.length c0_2] 24 (0, 0))) := ⟨h4_⟩
           replace BK329 : Aside0 (w35.heap[gb329]? = some (.cells #[.int .i64 a1_0, .int .i64 a1_1, .slice A1_2 l1_2.length c1_2] 24 (0, 0))) := ⟨h5_⟩
           replace BK330 : Aside0 (w35.heap[gb330]? = some (.cells #[.int .i64 a4_0, .int .i64 a4_1, .int .i64 a4_2, .int .i64 a4_3, .int .i64 a4_4, .int .i64 a4_5, .int .i64 a4_6, .int .i64 a4_7] 25 (0, 0))) := ⟨h6_⟩
           replace BK342 : Aside0 (w35.heap[gb342]? = some (.cells #[.int .i64 t332, .int .i64 t333, .slice Ao25 t334.length co25] 24 (0, 0))) := ⟨h7_⟩
           replace BK343 : Aside0 (w35.heap[gb343]? = some (.cells #[.int .i64 t337, .int .i64 t338, .slice Ao29 t339.length co29] 24 (0, 0))) := ⟨h8_⟩
           replace HB : Aside0 (Below w.heap.size w w35) := ⟨h9_⟩
           clear h0_ h1_ h2_ h3_ h4_ h5_ h6_ h7_ h8_ h9_
           have hHeld : w35.cell? ⟨gb342, 0, none⟩ = some (.int .i64 t332) ∧ w35.cell? ⟨gb342, 1, none⟩ = some (.int .i64 t333) ∧ w35.cell? ⟨gb342, 2, none⟩ = some (.slice Ao25 t334.length co25) ∧ w35.cell? ⟨gb343, 0, none⟩ = some (.int .i64 t337) ∧ w35.cell? ⟨gb343, 1, none⟩ = some (.int .i64 t338) ∧ w35.cell? ⟨gb343, 2, none⟩ = some (.slice Ao29 t339.length co29) ∧ w35.cell? ⟨gb328, 0, none⟩ = some (.int .i64 a0_0) ∧ w35.cell? ⟨gb328, 1, none⟩ = some (.int .i64 a0_1) ∧ w35.cell? ⟨gb328, 2, none⟩ = some (.slice A0_2 l0_2.length c0_2) ∧ w35.cell? ⟨gb329, 0, none⟩ = some (.int .i64 a1_0) ∧ w35.cell? ⟨gb329, 1, none⟩ = some (.int .i64 a1_1) ∧ w35.cell? ⟨gb329, 2, none⟩ = some (.slice A1_2 l1_2.length c1_2) := hS_
           refine norm_ (a' := ?_) ?_ ?_
           rotate_left
           · simp only [putAll, Act.put, List.setIfInBounds_toArray, List.set_cons_zero, List.set_cons_succ]
             rfl
           refine two_ (i := 6) (j := 7) (Ni := some 14) (Nj := some 15) #[true, true, true, true, true, true, true, false, false, false] #[true, true, true, true, true, true, false, true, false, false] rfl rfl rfl rfl (two_of HT_.out (by kernel_rfl)) (by decide) (by decide) (fun K hK => ?_) (fun K hK => ?_)
           · skip
             refine box_step ?hg (N := 14) ?hd (cs := #[.int .i64 0, .int .i64 0, .slice none 0 0]) (t := 24) ?hr ?_; (case hd => rfl); (case hg => rfl); (case hr => (go_simp; done))
             intro gb354 hg w36 hbox hb
             replace HO336 := Aside0.mk (Kd.N_below (Kd.N_elderB HO336.out gb354 (Nat.le_of_eq hg.symm)) hb)
             replace HO341 := Aside0.mk (Kd.N_below (Kd.N_elderB HO341.out gb354 (Nat.le_of_eq hg.symm)) hb)
             replace HO348 := Aside0.mk (Kd.N_below (Kd.N_elderB HO348.out gb354 (Nat.le_of_eq hg.symm)) hb)
             replace HO353 := Aside0.mk (Kd.N_below (Kd.N_elderB HO353.out gb354 (Nat.le_of_eq hg.symm)) hb)
             have BK354 := Aside0.mk (hbox)
             have GW354 := Aside0.mk ((by rw [hg]; exact (below_size HB.out) : w.heap.size ≤ gb354))
             have GE354 := Aside0.mk ((by rw [hg]; exact (below_size HB.out) : w.heap.size ≤ gb354))
             replace HB := Aside0.mk (below_step HB.out hb)
             have NB328_354 := Aside0.mk ((by rw [hg]; exact Nat.ne_of_lt (blk_lt BK328.out) : gb328 ≠ gb354))
             have NB354_328 := Aside0.mk ((by rw [hg]; exact Nat.ne_of_gt (blk_lt BK328.out) : gb354 ≠ gb328))
             replace BK328 := Aside0.mk (blk_below BK328.out hb)
             have NB329_354 := Aside0.mk ((by rw [hg]; exact Nat.ne_of_lt (blk_lt BK329.out) : gb329 ≠ gb354))
             have NB354_329 := Aside0.mk ((by rw [hg]; exact Nat.ne_of_gt (blk_lt BK329.out) : gb354 ≠ gb329))
             replace BK329 := Aside0.mk (blk_below BK329.out hb)
             have NB330_354 := Aside0.mk ((by rw [hg]; exact Nat.ne_of_lt (blk_lt BK330.out) : gb330 ≠ gb354))
             have NB354_330 := Aside0.mk ((by rw [hg]; exact Nat.ne_of_gt (blk_lt BK330.out) : gb354 ≠ gb330))
             replace BK330 := Aside0.mk (blk_below BK330.out hb)
             have NB342_354 := Aside0.mk ((by rw [hg]; exact Nat.ne_of_lt (blk_lt BK342.out) : gb342 ≠ gb354))
             have NB354_342 := Aside0.mk ((by rw [hg]; exact Nat.ne_of_gt (blk_lt BK342.out) : gb354 ≠ gb342))
             replace BK342 := Aside0.mk (blk_below BK342.out hb)
             have NB343_354 := Aside0.mk ((by rw [hg]; exact Nat.ne_of_lt (blk_lt BK343.out) : gb343 ≠ gb354))
             have NB354_343 := Aside0.mk ((by rw [hg]; exact Nat.ne_of_gt (blk_lt BK343.out) : gb354 ≠ gb343))
             replace BK343 := Aside0.mk (blk_below BK343.out hb)
             clear hb hbox hg
             refine hK.out _ _ ⟨(blk_cell BK342.out 0).trans rfl, (blk_cell BK342.out 1).trans rfl, (blk_cell BK342.out 2).trans rfl, (blk_cell BK343.out 0).trans rfl, (blk_cell BK343.out 1).trans rfl, (blk_cell BK343.out 2).trans rfl, (blk_cell BK328.out 0).trans rfl, (blk_cell BK328.out 1).trans rfl, (blk_cell BK328.out 2).trans rfl, (blk_cell BK329.out 0).trans rfl, (blk_cell BK329.out 1).trans rfl, (blk_cell BK329.out 2).trans rfl⟩ (fun hHeld => ?_)
             clear hK K
             refine norm_ (a' := ?_) ?_ ?_
             rotate_left
             · show Act.put _ (some 14) _ = _
               simp only [Act.put, List.setIfInBounds_toArray, List.set_cons_zero, List.set_cons_succ, i64_w, i32_w]
               rfl
             exact norm_ (by (simp only [putAll, Act.put, List.setIfInBounds_toArray, List.set_cons_zero, List.set_cons_succ]; done)) (hJ2_5_6 (v347, v352, gb354) _ ⟨hHeld, (by (with_reducible repeat (fail)); exact Kd.N_mono HO336.out (fun _ hk => ⟨hk.1.1, ⟨hk.1.2.1, ⟨hk.1.2.2.1, ⟨hk.1.2.2.2.1, ⟨hk.1.2.2.2.2.1, ⟨hk.1.2.2.2.2.2.1, ⟨hk.1.2.2.2.2.2.2.1, ⟨hk.1.2.2.2.2.2.2.2, hk.2⟩⟩⟩⟩⟩⟩⟩⟩)), (by (with_reducible repeat (fail)); exact Kd.N_mono HO341.out (fun _ hk => ⟨hk.1.1, ⟨hk.1.2.1, ⟨hk.1.2.2.1, ⟨hk.1.2.2.2.1, ⟨hk.1.2.2.2.2.1, ⟨hk.1.2.2.2.2.2.1, ⟨hk.1.2.2.2.2.2.2.1, ⟨hk.1.2.2.2.2.2.2.2, hk.2⟩⟩⟩⟩⟩⟩⟩⟩)), (by (with_reducible repeat (fail)); exact Kd.N_mono HO348.out (fun _ hk => ⟨hk.1.1, ⟨hk.1.2.1, ⟨hk.1.2.2.1, ⟨hk.1.2.2.2.1, ⟨hk.1.2.2.2.2.1, ⟨hk.1.2.2.2.2.2, hk.2⟩⟩⟩⟩⟩⟩)), (by (with_reducible repeat (fail)); exact Kd.N_mono HO353.out (fun _ hk => ⟨hk.1.1, ⟨hk.1.2.1, ⟨hk.1.2.2.1, ⟨hk.1.2.2.2.1, ⟨hk.1.2.2.2.2.1, ⟨hk.1.2.2.2.2.2.1, ⟨hk.1.2.2.2.2.2.2.1, ⟨hk.1.2.2.2.2.2.2.2, hk.2⟩⟩⟩⟩⟩⟩⟩⟩)), BK328.out, BK329.out, BK330.out, BK342.out, BK343.out, BK354.out, GW354.out, GE354.out, NB328_354.out, NB354_328.out, NB329_354.out, NB354_329.out, NB330_354.out, NB354_330.out, NB342_354.out, NB354_342.out, NB343_354.out, NB354_343.out, HB.out⟩)
           · skip
             refine box_step ?hg (N := 15) ?hd (cs := #[.int .i64 0, .int .i64 0, .slice none 0 0]) (t := 24) ?hr ?_; (case hd => rfl); (case hg => rfl); (case hr => (go_simp; done))
             intro gb355 hg w36 hbox hb
             replace HO336 := Aside0.mk (Kd.N_below (Kd.N_elderB HO336.out gb355 (Nat.le_of_eq hg.symm)) hb)
             replace HO341 := Aside0.mk (Kd.N_below (Kd.N_elderB HO341.out gb355 (Nat.le_of_eq hg.symm)) hb)
             replace HO348 := Aside0.mk (Kd.N_below (Kd.N_elderB HO348.out gb355 (Nat.le_of_eq hg.symm)) hb)
             replace HO353 := Aside0.mk (Kd.N_below (Kd.N_elderB HO353.out gb355 (Nat.le_of_eq hg.symm)) hb)
             have BK355 := Aside0.mk (hbox)
             have GW355 := Aside0.mk ((by rw [hg]; exact (below_size HB.out) : w.heap.size ≤ gb355))
             have GE355 := Aside0.mk ((by rw [hg]; exact (below_size HB.out) : w.heap.size ≤ gb355))
             replace HB := Aside0.mk (below_step HB.out hb)
             have NB328_355 := Aside0.mk ((by rw [hg]; exact Nat.ne_of_lt (blk_lt BK328.out) : gb328 ≠ gb355))
             have NB355_328 := Aside0.mk ((by rw [hg]; exact Nat.ne_of_gt (blk_lt BK328.out) : gb355 ≠ gb328))
             replace BK328 := Aside0.mk (blk_below BK328.out hb)
             have NB329_355 := Aside0.mk ((by rw [hg]; exact Nat.ne_of_lt (blk_lt BK329.out) : gb329 ≠ gb355))
             have NB355_329 := Aside0.mk ((by rw [hg]; exact Nat.ne_of_gt (blk_lt BK329.out) : gb355 ≠ gb329))
             replace BK329 := Aside0.mk (blk_below BK329.out hb)
             have NB330_355 := Aside0.mk ((by rw [hg]; exact Nat.ne_of_lt (blk_lt BK330.out) : gb330 ≠ gb355))
             have NB355_330 := Aside0.mk ((by rw [hg]; exact Nat.ne_of_gt (blk_lt BK330.out) : gb355 ≠ gb330))
             replace BK330 := Aside0.mk (blk_below BK330.out hb)
             have NB342_355 := Aside0.mk ((by rw [hg]; exact Nat.ne_of_lt (blk_lt BK342.out) : gb342 ≠ gb355))
             have NB355_342 := Aside0.mk ((by rw [hg]; exact Nat.ne_of_gt (blk_lt BK342.out) : gb355 ≠ gb342))
             replace BK342 := Aside0.mk (blk_below BK342.out hb)
             have NB343_355 := Aside0.mk ((by rw [hg]; exact Nat.ne_of_lt (blk_lt BK343.out) : gb343 ≠ gb355))
             have NB355_343 := Aside0.mk ((by rw [hg]; exact Nat.ne_of_gt (blk_lt BK343.out) : gb355 ≠ gb343))
             replace BK343 := Aside0.mk (blk_below BK343.out hb)
             clear hb hbox hg
             refine hK.out _ _ ⟨(blk_cell BK342.out 0).trans rfl, (blk_cell BK342.out 1).trans rfl, (blk_cell BK342.out 2).trans rfl, (blk_cell BK343.out 0).trans rfl, (blk_cell BK343.out 1).trans rfl, (blk_cell BK343.out 2).trans rfl, (blk_cell BK328.out 0).trans rfl, (blk_cell BK328.out 1).trans rfl, (blk_cell BK328.out 2).trans rfl, (blk_cell BK329.out 0).trans rfl, (blk_cell BK329.out 1).trans rfl, (blk_cell BK329.out 2).trans rfl⟩ (fun hHeld => ?_)
             clear hK K
             refine norm_ (a' := ?_) ?_ ?_
             rotate_left
             · show Act.put _ (some 15) _ = _
               simp only [Act.put, List.setIfInBounds_toArray, List.set_cons_zero, List.set_cons_succ, i64_w, i32_w]
               rfl
             exact norm_ (by (simp only [putAll, Act.put, List.setIfInBounds_toArray, List.set_cons_zero, List.set_cons_succ]; done)) (hJ2_5_7 (v347, v352, gb355) _ ⟨hHeld, (by (with_reducible repeat (fail)); exact Kd.N_mono HO336.out (fun _ hk => ⟨hk.1.1, ⟨hk.1.2.1, ⟨hk.1.2.2.1, ⟨hk.1.2.2.2.1, ⟨hk.1.2.2.2.2.1, ⟨hk.1.2.2.2.2.2.1, ⟨hk.1.2.2.2.2.2.2.1, ⟨hk.1.2.2.2.2.2.2.2, hk.2⟩⟩⟩⟩⟩⟩⟩⟩)), (by (with_reducible repeat (fail)); exact Kd.N_mono HO341.out (fun _ hk => ⟨hk.1.1, ⟨hk.1.2.1, ⟨hk.1.2.2.1, ⟨hk.1.2.2.2.1, ⟨hk.1.2.2.2.2.1, ⟨hk.1.2.2.2.2.2.1, ⟨hk.1.2.2.2.2.2.2.1, ⟨hk.1.2.2.2.2.2.2.2, hk.2⟩⟩⟩⟩⟩⟩⟩⟩)), (by (with_reducible repeat (fail)); exact Kd.N_mono HO348.out (fun _ hk => ⟨hk.1.1, ⟨hk.1.2.1, ⟨hk.1.2.2.1, ⟨hk.1.2.2.2.1, ⟨hk.1.2.2.2.2.1, ⟨hk.1.2.2.2.2.2, hk.2⟩⟩⟩⟩⟩⟩)), (by (with_reducible repeat (fail)); exact Kd.N_mono HO353.out (fun _ hk => ⟨hk.1.1, ⟨hk.1.2.1, ⟨hk.1.2.2.1, ⟨hk.1.2.2.2.1, ⟨hk.1.2.2.2.2.1, ⟨hk.1.2.2.2.2.2.1, ⟨hk.1.2.2.2.2.2.2.1, ⟨hk.1.2.2.2.2.2.2.2, hk.2⟩⟩⟩⟩⟩⟩⟩⟩)), BK328.out, BK329.out, BK330.out, BK342.out, BK343.out, BK355.out, GW355.out, GE355.out, NB328_355.out, NB355_328.out, NB329_355.out, NB355_329.out, NB330_355.out, NB355_330.out, NB342_355.out, NB355_342.out, NB343_355.out, NB355_343.out, HB.out⟩)
       · skip
         rintro ⟨v347, gb354, gb355⟩ w36 ⟨hS_, h0_, h1_, h2_, h3_, h4_, h5_, h6_, h7_, h8_, h9_, h10_, h11_, h12_, h13_, h14_, h15_, h16_, h17_, h18_, h19_, h20_, h21_, h22_, h23_, h24_, h25_, h26_, h27_, h28_, h29_, h30_, h31_, h32_, h33_, h34_, h35_, h36_⟩
         replace HO336 : Aside0 (Kd.N k24 24 w36 w.heap.size (fun k_ => some k_ ≠ (.slice Ao29 t339.length co29 : Value).ownBlock ∧ some k_ ≠ (v347 : Value).ownBlock ∧ k_ ≠ gb328 ∧ k_ ≠ gb329 ∧ k_ ≠ gb330 ∧ k_ ≠ gb342 ∧ k_ ≠ gb343 ∧ k_ ≠ gb354 ∧ k_ ≠ gb355) (.slice Ao25 t334.length co25) t334) := ⟨h0_⟩
         replace HO341 : Aside0 (Kd.N k24 24 w36 w.heap.size (fun k_ => some k_ ≠ (.slice Ao25 t334.length co25 : Value).ownBlock ∧ some k_ ≠ (v347 : Value).ownBlock ∧ k_ ≠ gb328 ∧ k_ ≠ gb329 ∧ k_ ≠ gb330 ∧ k_ ≠ gb342 ∧ k_ ≠ gb343 ∧ k_ ≠ gb354 ∧ k_ ≠ gb355) (.slice Ao29 t339.length co29) t339) := ⟨h1_⟩
         have HO348 : Aside0 (Kd.N k24 24 w36 w.heap.size (fun k_ => k_ ≠ gb328 ∧ k_ ≠ gb329 ∧ k_ ≠ gb330 ∧ k_ ≠ gb342 ∧ k_ ≠ gb343 ∧ k_ ≠ gb354 ∧ k_ ≠ gb355) v347 t346) := ⟨h2_⟩
         replace BK328 : Aside0 (w36.heap[gb328]? = some (.cells #[.int .i64 a0_0, .int .i64 a0_1, .slice A0_2 l0_2.length c0_2] 24 (0, 0))) := ⟨h3_⟩
         replace BK329 : Aside0 (w36.heap[gb329]? = some (.cells #[.int .i64 a1_0, .int .i64 a1_1, .slice A1_2 l1_2.length c1_2] 24 (0, 0))) := ⟨h4_⟩
         replace BK330 : Aside0 (w36.heap[gb330]? = some (.cells #[.int .i64 a4_0, .int .i64 a4_1, .int .i64 a4_2, .int .i64 a4_3, .int .i64 a4_4, .int .i64 a4_5, .int .i64 a4_6, .int .i64 a4_7] 25 (0, 0))) := ⟨h5_⟩
         replace BK342 : Aside0 (w36.heap[gb342]? = some (.cells #[.int .i64 t332, .int .i64 t333, .slice Ao25 t334.length co25] 24 (0, 0))) := ⟨h6_⟩
         replace BK343 : Aside0 (w36.heap[gb343]? = some (.cells #[.int .i64 t337, .int .i64 t338, .slice Ao29 t339.length co29] 24 (0, 0))) := ⟨h7_⟩
         have BK354 : Aside0 (w36.heap[gb354]? = some (.cells #[.int .i64 0, .int .i64 0, .slice none 0 0] 24 (0, 0))) := ⟨h8_⟩
         have BK355 : Aside0 (w36.heap[gb355]? = some (.cells #[.int .i64 0, .int .i64 0, .slice none 0 0] 24 (0, 0))) := ⟨h9_⟩
         have GW354 : Aside0 (w.heap.size ≤ gb354) := ⟨h10_⟩
         have GE354 : Aside0 (w.heap.size ≤ gb354) := ⟨h11_⟩
         have NB328_354 : Aside0 (gb328 ≠ gb354) := ⟨h12_⟩
         have NB354_328 : Aside0 (gb354 ≠ gb328) := ⟨h13_⟩
         have NB329_354 : Aside0 (gb329 ≠ gb354) := ⟨h14_⟩
         have NB354_329 : Aside0 (gb354 ≠ gb329) := ⟨h15_⟩
         have NB330_354 : Aside0 (gb330 ≠ gb354) := ⟨h16_⟩
         have NB354_330 : Aside0 (gb354 ≠ gb330) := ⟨h17_⟩
         have NB342_354 : Aside0 (gb342 ≠ gb354) := ⟨h18_⟩
         have NB354_342 : Aside0 (gb354 ≠ gb342) := ⟨h19_⟩
         have NB343_354 : Aside0 (gb343 ≠ gb354) := ⟨h20_⟩
         have NB354_343 : Aside0 (gb354 ≠ gb343) := ⟨h21_⟩
         have NB355_354 : Aside0 (gb355 ≠ gb354) := ⟨h22_⟩
         have NB354_355 : Aside0 (gb354 ≠ gb355) := ⟨h23_⟩
         have GW355 : Aside0 (w.heap.size ≤ gb355) := ⟨h24_⟩
         have GE355 : Aside0 (w.heap.size ≤ gb355) := ⟨h25_⟩
         have NB328_355 : Aside0 (gb328 ≠ gb355) := ⟨h26_⟩
         have NB355_328 : Aside0 (gb355 ≠ gb328) := ⟨h27_⟩
         have NB329_355 : Aside0 (gb329 ≠ gb355) := ⟨h28_⟩
         have NB355_329 : Aside0 (gb355 ≠ gb329) := ⟨h29_⟩
         have NB330_355 : Aside0 (gb330 ≠ gb355) := ⟨h30_⟩
         have NB355_330 : Aside0 (gb355 ≠ gb330) := ⟨h31_⟩
         have NB342_355 : Aside0 (gb342 ≠ gb355) := ⟨h32_⟩
         have NB355_342 : Aside0 (gb355 ≠ gb342) := ⟨h33_⟩
         have NB343_355 : Aside0 (gb343 ≠ gb355) := ⟨h34_⟩
         have NB355_343 : Aside0 (gb355 ≠ gb343) := ⟨h35_⟩
         replace HB : Aside0 (Below w.heap.size w w36) := ⟨h36_⟩
         clear h0_ h1_ h2_ h3_ h4_ h5_ h6_ h7_ h8_ h9_ h10_ h11_ h12_ h13_ h14_ h15_ h16_ h17_ h18_ h19_ h20_ h21_ h22_ h23_ h24_ h25_ h26_ h27_ h28_ h29_ h30_ h31_ h32_ h33_ h34_ h35_ h36_
         have hHeld : w36.cell? ⟨gb342, 0, none⟩ = some (.int .i64 t332) ∧ w36.cell? ⟨gb342, 1, none⟩ = some (.int .i64 t333) ∧ w36.cell? ⟨gb342, 2, none⟩ = some (.slice Ao25 t334.length co25) ∧ w36.cell? ⟨gb343, 0, none⟩ = some (.int .i64 t337) ∧ w36.cell? ⟨gb343, 1, none⟩ = some (.int .i64 t338) ∧ w36.cell? ⟨gb343, 2, none⟩ = some (.slice Ao29 t339.length co29) ∧ w36.cell? ⟨gb328, 0, none⟩ = some (.int .i64 a0_0) ∧ w36.cell? ⟨gb328, 1, none⟩ = some (.int .i64 a0_1) ∧ w36.cell? ⟨gb328, 2, none⟩ = some (.slice A0_2 l0_2.length c0_2) ∧ w36.cell? ⟨gb329, 0, none⟩ = some (.int .i64 a1_0) ∧ w36.cell? ⟨gb329, 1, none⟩ = some (.int .i64 a1_1) ∧ w36.cell? ⟨gb329, 2, none⟩ = some (.slice A1_2 l1_2.length c1_2) := hS_
         refine norm_ (a' := ?_) ?_ ?_
         rotate_left
         · simp only [putAll, Act.put, List.setIfInBounds_toArray, List.set_cons_zero, List.set_cons_succ]
           rfl
         refine one_ (i := 5) (N := some 35) #[true, true, true, true, true, true, true, true, false, false] rfl rfl (one_of HT_.out (by kernel_rfl)) (by decide) (fun K hK => ?_)
         refine goes_ Try.func22 (by kernel_rfl) rfl #[.int .i64 5, .agg #[.int .i64 a0_0, .int .i64 a0_1, .slice A0_2 l0_2.length c0_2], .agg #[.int .i64 a1_0, .int .i64 a1_1, .slice A1_2 l1_2.length c1_2]] (by rfl) rfl rfl (by (try simp only [List.map_toArray, List.map_cons, List.map_nil]); rfl) ?_
         with_reducible refine (formelaw14_two.calls 5 a0_0 a0_1 (fun k_ => k_ < w.heap.size) _ _ l0_2 a1_0 a1_1 (fun k_ => k_ < w.heap.size) _ _ l1_2 t349 t350 t351 _ ?side1 ?side2 A10.out).mono ?_
         (case side1 => exact Kd.V_mk HC0_2.out (Kd.F_below (Kd.C_F k24_heap HR0_2.out) HB.out))
         (case side2 => exact Kd.V_mk HC1_2.out (Kd.F_below (Kd.C_F k24_heap HR1_2.out) HB.out))
         rintro e w37 ⟨v352, rfl, ho0, hb⟩
         refine ⟨_, rfl, ?_⟩
         have HO353 := Aside0.mk (Kd.N_lower (Kd.N_mono (ok' := fun k_ => some k_ ≠ (.slice Ao25 t334.length co25 : Value).ownBlock ∧ some k_ ≠ (.slice Ao29 t339.length co29 : Value).ownBlock ∧ some k_ ≠ (v347 : Value).ownBlock ∧ k_ ≠ gb328 ∧ k_ ≠ gb329 ∧ k_ ≠ gb330 ∧ k_ ≠ gb342 ∧ k_ ≠ gb343 ∧ k_ ≠ gb354 ∧ k_ ≠ gb355) ho0 (fun k_ hk_ => ⟨Or.elim hk_ (fun hs_ => Or.elim hs_ (fun hs_ => fun e_ => Nat.not_le.2 hs_ (Kd.N_base HO336.out k_ e_.symm)) (fun hs_ => fun e_ => Nat.not_le.2 hs_ (Kd.N_base HO336.out k_ e_.symm))) (fun hn_ => (Kd.fresh' (Kd.N_lt HO336.out) k_ hn_)), Or.elim hk_ (fun hs_ => Or.elim hs_ (fun hs_ => fun e_ => Nat.not_le.2 hs_ (Kd.N_base HO341.out k_ e_.symm)) (fun hs_ => fun e_ => Nat.not_le.2 hs_ (Kd.N_base HO341.out k_ e_.symm))) (fun hn_ => (Kd.fresh' (Kd.N_lt HO341.out) k_ hn_)), Or.elim hk_ (fun hs_ => Or.elim hs_ (fun hs_ => fun e_ => Nat.not_le.2 hs_ (Kd.N_base HO348.out k_ e_.symm)) (fun hs_ => fun e_ => Nat.not_le.2 hs_ (Kd.N_base HO348.out k_ e_.symm))) (fun hn_ => (Kd.fresh' (Kd.N_lt HO348.out) k_ hn_)), Or.elim hk_ (fun hs_ => Or.elim hs_ (fun hs_ => fun e_ => Nat.not_le.2 hs_ (by rw [e_]; exact GW328.out)) (fun hs_ => fun e_ => Nat.not_le.2 hs_ (by rw [e_]; exact GW328.out))) (fun hn_ => (Kd.freshB BK328.out k_ hn_)), Or.elim hk_ (fun hs_ => Or.elim hs_ (fun hs_ => fun e_ => Nat.not_le.2 hs_ (by rw [e_]; exact GW329.out)) (fun hs_ => fun e_ => Nat.not_le.2 hs_ (by rw [e_]; exact GW329.out))) (fun hn_ => (Kd.freshB BK329.out k_ hn_)), Or.elim hk_ (fun hs_ => Or.elim hs_ (fun hs_ => fun e_ => Nat.not_le.2 hs_ (by rw [e_]; exact GW330.out)) (fun hs_ => fun e_ => Nat.not_le.2 hs_ (by rw [e_]; exact GW330.out))) (fun hn_ => (Kd.freshB BK330.out k_ hn_)), Or.elim hk_ (fun hs_ => Or.elim hs_ (fun hs_ => fun e_ => Nat.not_le.2 hs_ (by rw [e_]; exact GW342.out)) (fun hs_ => fun e_ => Nat.not_le.2 hs_ (by rw [e_]; exact GW342.out))) (fun hn_ => (Kd.freshB BK342.out k_ hn_)), Or.elim hk_ (fun hs_ => Or.elim hs_ (fun hs_ => fun e_ => Nat.not_le.2 hs_ (by rw [e_]; exact GW343.out)) (fun hs_ => fun e_ => Nat.not_le.2 hs_ (by rw [e_]; exact GW343.out))) (fun hn_ => (Kd.freshB BK343.out k_ hn_)), Or.elim hk_ (fun hs_ => Or.elim hs_ (fun hs_ => fun e_ => Nat.not_le.2 hs_ (by rw [e_]; exact GW354.out)) (fun hs_ => fun e_ => Nat.not_le.2 hs_ (by rw [e_]; exact GW354.out))) (fun hn_ => (Kd.freshB BK354.out k_ hn_)), Or.elim hk_ (fun hs_ => Or.elim hs_ (fun hs_ => fun e_ => Nat.not_le.2 hs_ (by rw [e_]; exact GW355.out)) (fun hs_ => fun e_ => Nat.not_le.2 hs_ (by rw [e_]; exact GW355.out))) (fun hn_ => (Kd.freshB BK355.out k_ hn_))⟩)) (below_size HB.out))
         replace HO336 := Aside0.mk (Kd.N_elder' HO336.out (Kd.N_base ho0) hb)
         replace HO341 := Aside0.mk (Kd.N_elder' HO341.out (Kd.N_base ho0) hb)
         replace HO348 := Aside0.mk (Kd.N_elder' HO348.out (Kd.N_base ho0) hb)
         replace BK328 := Aside0.mk (blk_below BK328.out hb)
         replace BK329 := Aside0.mk (blk_below BK329.out hb)
         replace BK330 := Aside0.mk (blk_below BK330.out hb)
         replace BK342 := Aside0.mk (blk_below BK342.out hb)
         replace BK343 := Aside0.mk (blk_below BK343.out hb)
         replace BK354 := Aside0.mk (blk_below BK354.out hb)
         replace BK355 := Aside0.mk (blk_below BK355.out hb)
         replace HB := Aside0.mk (below_step HB.out hb)
         (try clear hb)
         (try clear ho0)
         refine hK.out _ _ ⟨(blk_cell BK342.out 0).trans rfl, (blk_cell BK342.out 1).trans rfl, (blk_cell BK342.out 2).trans rfl, (blk_cell BK343.out 0).trans rfl, (blk_cell BK343.out 1).trans rfl, (blk_cell BK343.out 2).trans rfl, (blk_cell BK328.out 0).trans rfl, (blk_cell BK328.out 1).trans rfl, (blk_cell BK328.out 2).trans rfl, (blk_cell BK329.out 0).trans rfl, (blk_cell BK329.out 1).trans rfl, (blk_cell BK329.out 2).trans rfl⟩ (fun hHeld => ?_)
         clear hK K
         refine norm_ (a' := ?_) ?_ ?_
         rotate_left
         · show Act.put _ (some 35) _ = _
           simp only [Act.put, List.setIfInBounds_toArray, List.set_cons_zero, List.set_cons_succ, i64_w, i32_w]
           rfl
         exact norm_ (by (simp only [putAll, Act.put, List.setIfInBounds_toArray, List.set_cons_zero, List.set_cons_succ]; done)) (hJ2_5_6_7 (v347, v352, gb354, gb355) _ ⟨hHeld, (by (with_reducible repeat (fail)); exact Kd.N_mono HO336.out (fun _ hk => ⟨hk.1.1, ⟨hk.1.2.1, ⟨hk.2, ⟨hk.1.2.2.1, ⟨hk.1.2.2.2.1, ⟨hk.1.2.2.2.2.1, ⟨hk.1.2.2.2.2.2.1, ⟨hk.1.2.2.2.2.2.2.1, ⟨hk.1.2.2.2.2.2.2.2.1, hk.1.2.2.2.2.2.2.2.2⟩⟩⟩⟩⟩⟩⟩⟩⟩)), (by (with_reducible repeat (fail)); exact Kd.N_mono HO341.out (fun _ hk => ⟨hk.1.1, ⟨hk.1.2.1, ⟨hk.2, ⟨hk.1.2.2.1, ⟨hk.1.2.2.2.1, ⟨hk.1.2.2.2.2.1, ⟨hk.1.2.2.2.2.2.1, ⟨hk.1.2.2.2.2.2.2.1, ⟨hk.1.2.2.2.2.2.2.2.1, hk.1.2.2.2.2.2.2.2.2⟩⟩⟩⟩⟩⟩⟩⟩⟩)), (by (with_reducible repeat (fail)); exact Kd.N_mono HO348.out (fun _ hk => ⟨hk.2, ⟨hk.1.1, ⟨hk.1.2.1, ⟨hk.1.2.2.1, ⟨hk.1.2.2.2.1, ⟨hk.1.2.2.2.2.1, ⟨hk.1.2.2.2.2.2.1, hk.1.2.2.2.2.2.2⟩⟩⟩⟩⟩⟩⟩)), HO353.out, BK328.out, BK329.out, BK330.out, BK342.out, BK343.out, BK354.out, BK355.out, GW354.out, GE354.out, NB328_354.out, NB354_328.out, NB329_354.out, NB354_329.out, NB330_354.out, NB354_330.out, NB342_354.out, NB354_342.out, NB343_354.out, NB354_343.out, NB355_354.out, NB354_355.out, GW355.out, GE355.out, NB328_355.out, NB355_328.out, NB329_355.out, NB355_329.out, NB330_355.out, NB355_330.out, NB342_355.out, NB355_342.out, NB343_355.out, NB355_343.out, HB.out⟩)
     · skip
       rintro ⟨v347, v352, gb355⟩ w36 ⟨hS_, h0_, h1_, h2_, h3_, h4_, h5_, h6_, h7_, h8_, h9_, h10_, h11_, h12_, h13_, h14_, h15_, h16_, h17_, h18_, h19_, h20_, h21_, h22_⟩
       replace HO336 : Aside0 (Kd.N k24 24 w36 w.heap.size (fun k_ => some k_ ≠ (.slice Ao29 t339.length co29 : Value).ownBlock ∧ some k_ ≠ (v347 : Value).ownBlock ∧ some k_ ≠ (v352 : Value).ownBlock ∧ k_ ≠ gb328 ∧ k_ ≠ gb329 ∧ k_ ≠ gb330 ∧ k_ ≠ gb342 ∧ k_ ≠ gb343 ∧ k_ ≠ gb355) (.slice Ao25 t334.length co25) t334) := ⟨h0_⟩
       replace HO341 : Aside0 (Kd.N k24 24 w36 w.heap.size (fun k_ => some k_ ≠ (.slice Ao25 t334.length co25 : Value).ownBlock ∧ some k_ ≠ (v347 : Value).ownBlock ∧ some k_ ≠ (v352 : Value).ownBlock ∧ k_ ≠ gb328 ∧ k_ ≠ gb329 ∧ k_ ≠ gb330 ∧ k_ ≠ gb342 ∧ k_ ≠ gb343 ∧ k_ ≠ gb355) (.slice Ao29 t339.length co29) t339) := ⟨h1_⟩
       have HO348 : Aside0 (Kd.N k24 24 w36 w.heap.size (fun k_ => some k_ ≠ (v352 : Value).ownBlock ∧ k_ ≠ gb328 ∧ k_ ≠ gb329 ∧ k_ ≠ gb330 ∧ k_ ≠ gb342 ∧ k_ ≠ gb343 ∧ k_ ≠ gb355) v347 t346) := ⟨h2_⟩
       have HO353 : Aside0 (Kd.N k24 24 w36 w.heap.size (fun k_ => some k_ ≠ (.slice Ao25 t334.length co25 : Value).ownBlock ∧ some k_ ≠ (.slice Ao29 t339.length co29 : Value).ownBlock ∧ some k_ ≠ (v347 : Value).ownBlock ∧ k_ ≠ gb328 ∧ k_ ≠ gb329 ∧ k_ ≠ gb330 ∧ k_ ≠ gb342 ∧ k_ ≠ gb343 ∧ k_ ≠ gb355) v352 t351) := ⟨h3_⟩
       replace BK328 : Aside0 (w36.heap[gb328]? = some (.cells #[.int .i64 a0_0, .int .i64 a0_1, .slice A0_2 l0_2.length c0_2] 24 (0, 0))) := ⟨h4_⟩
       replace BK329 : Aside0 (w36.heap[gb329]? = some (.cells #[.int .i64 a1_0, .int .i64 a1_1, .slice A1_2 l1_2.length c1_2] 24 (0, 0))) := ⟨h5_⟩
       replace BK330 : Aside0 (w36.heap[gb330]? = some (.cells #[.int .i64 a4_0, .int .i64 a4_1, .int .i64 a4_2, .int .i64 a4_3, .int .i64 a4_4, .int .i64 a4_5, .int .i64 a4_6, .int .i64 a4_7] 25 (0, 0))) := ⟨h6_⟩
       replace BK342 : Aside0 (w36.heap[gb342]? = some (.cells #[.int .i64 t332, .int .i64 t333, .slice Ao25 t334.length co25] 24 (0, 0))) := ⟨h7_⟩
       replace BK343 : Aside0 (w36.heap[gb343]? = some (.cells #[.int .i64 t337, .int .i64 t338, .slice Ao29 t339.length co29] 24 (0, 0))) := ⟨h8_⟩
       have BK355 : Aside0 (w36.heap[gb355]? = some (.cells #[.int .i64 0, .int .i64 0, .slice none 0 0] 24 (0, 0))) := ⟨h9_⟩
       have GW355 : Aside0 (w.heap.size ≤ gb355) := ⟨h10_⟩
       have GE355 : Aside0 (w.heap.size ≤ gb355) := ⟨h11_⟩
       have NB328_355 : Aside0 (gb328 ≠ gb355) := ⟨h12_⟩
       have NB355_328 : Aside0 (gb355 ≠ gb328) := ⟨h13_⟩
       have NB329_355 : Aside0 (gb329 ≠ gb355) := ⟨h14_⟩
       have NB355_329 : Aside0 (gb355 ≠ gb329) := ⟨h15_⟩
       have NB330_355 : Aside0 (gb330 ≠ gb355) := ⟨h16_⟩
       have NB355_330 : Aside0 (gb355 ≠ gb330) := ⟨h17_⟩
       have NB342_355 : Aside0 (gb342 ≠ gb355) := ⟨h18_⟩
       have NB355_342 : Aside0 (gb355 ≠ gb342) := ⟨h19_⟩
       have NB343_355 : Aside0 (gb343 ≠ gb355) := ⟨h20_⟩
       have NB355_343 : Aside0 (gb355 ≠ gb343) := ⟨h21_⟩
       replace HB : Aside0 (Below w.heap.size w w36) := ⟨h22_⟩
       clear h0_ h1_ h2_ h3_ h4_ h5_ h6_ h7_ h8_ h9_ h10_ h11_ h12_ h13_ h14_ h15_ h16_ h17_ h18_ h19_ h20_ h21_ h22_
       have hHeld : w36.cell? ⟨gb342, 0, none⟩ = some (.int .i64 t332) ∧ w36.cell? ⟨gb342, 1, none⟩ = some (.int .i64 t333) ∧ w36.cell? ⟨gb342, 2, none⟩ = some (.slice Ao25 t334.length co25) ∧ w36.cell? ⟨gb343, 0, none⟩ = some (.int .i64 t337) ∧ w36.cell? ⟨gb343, 1, none⟩ = some (.int .i64 t338) ∧ w36.cell? ⟨gb343, 2, none⟩ = some (.slice Ao29 t339.length co29) ∧ w36.cell? ⟨gb328, 0, none⟩ = some (.int .i64 a0_0) ∧ w36.cell? ⟨gb328, 1, none⟩ = some (.int .i64 a0_1) ∧ w36.cell? ⟨gb328, 2, none⟩ = some (.slice A0_2 l0_2.length c0_2) ∧ w36.cell? ⟨gb329, 0, none⟩ = some (.int .i64 a1_0) ∧ w36.cell? ⟨gb329, 1, none⟩ = some (.int .i64 a1_1) ∧ w36.cell? ⟨gb329, 2, none⟩ = some (.slice A1_2 l1_2.length c1_2) := hS_
       refine norm_ (a' := ?_) ?_ ?_
       rotate_left
       · simp only [putAll, Act.put, List.setIfInBounds_toArray, List.set_cons_zero, List.set_cons_succ]
         rfl
       refine one_ (i := 6) (N := some 14) #[true, true, true, true, true, true, true, true, false, false] rfl rfl (one_of HT_.out (by kernel_rfl)) (by decide) (fun K hK => ?_)
       refine box_step ?hg (N := 14) ?hd (cs := #[.int .i64 0, .int .i64 0, .slice none 0 0]) (t := 24) ?hr ?_; (case hd => rfl); (case hg => rfl); (case hr => (go_simp; done))
       intro gb354 hg w37 hbox hb
       replace HO336 := Aside0.mk (Kd.N_below (Kd.N_elderB HO336.out gb354 (Nat.le_of_eq hg.symm)) hb)
       replace HO341 := Aside0.mk (Kd.N_below (Kd.N_elderB HO341.out gb354 (Nat.le_of_eq hg.symm)) hb)
       replace HO348 := Aside0.mk (Kd.N_below (Kd.N_elderB HO348.out gb354 (Nat.le_of_eq hg.symm)) hb)
       replace HO353 := Aside0.mk (Kd.N_below (Kd.N_elderB HO353.out gb354 (Nat.le_of_eq hg.symm)) hb)
       have BK354 := Aside0.mk (hbox)
       have GW354 := Aside0.mk ((by rw [hg]; exact (below_size HB.out) : w.heap.size ≤ gb354))
       have GE354 := Aside0.mk ((by rw [hg]; exact (below_size HB.out) : w.heap.size ≤ gb354))
       replace HB := Aside0.mk (below_step HB.out hb)
       have NB328_354 := Aside0.mk ((by rw [hg]; exact Nat.ne_of_lt (blk_lt BK328.out) : gb328 ≠ gb354))
       have NB354_328 := Aside0.mk ((by rw [hg]; exact Nat.ne_of_gt (blk_lt BK328.out) : gb354 ≠ gb328))
       replace BK328 := Aside0.mk (blk_below BK328.out hb)
       have NB329_354 := Aside0.mk ((by rw [hg]; exact Nat.ne_of_lt (blk_lt BK329.out) : gb329 ≠ gb354))
       have NB354_329 := Aside0.mk ((by rw [hg]; exact Nat.ne_of_gt (blk_lt BK329.out) : gb354 ≠ gb329))
       replace BK329 := Aside0.mk (blk_below BK329.out hb)
       have NB330_354 := Aside0.mk ((by rw [hg]; exact Nat.ne_of_lt (blk_lt BK330.out) : gb330 ≠ gb354))
       have NB354_330 := Aside0.mk ((by rw [hg]; exact Nat.ne_of_gt (blk_lt BK330.out) : gb354 ≠ gb330))
       replace BK330 := Aside0.mk (blk_below BK330.out hb)
       have NB342_354 := Aside0.mk ((by rw [hg]; exact Nat.ne_of_lt (blk_lt BK342.out) : gb342 ≠ gb354))
       have NB354_342 := Aside0.mk ((by rw [hg]; exact Nat.ne_of_gt (blk_lt BK342.out) : gb354 ≠ gb342))
       replace BK342 := Aside0.mk (blk_below BK342.out hb)
       have NB343_354 := Aside0.mk ((by rw [hg]; exact Nat.ne_of_lt (blk_lt BK343.out) : gb343 ≠ gb354))
       have NB354_343 := Aside0.mk ((by rw [hg]; exact Nat.ne_of_gt (blk_lt BK343.out) : gb354 ≠ gb343))
       replace BK343 := Aside0.mk (blk_below BK343.out hb)
       have NB355_354 := Aside0.mk ((by rw [hg]; exact Nat.ne_of_lt (blk_lt BK355.out) : gb355 ≠ gb354))
       have NB354_355 := Aside0.mk ((by rw [hg]; exact Nat.ne_of_gt (blk_lt BK355.out) : gb354 ≠ gb355))
       replace BK355 := Aside0.mk (blk_below BK355.out hb)
       clear hb hbox hg
       refine hK.out _ _ ⟨(blk_cell BK342.out 0).trans rfl, (blk_cell BK342.out 1).trans rfl, (blk_cell BK342.out 2).trans rfl, (blk_cell BK343.out 0).trans rfl, (blk_cell BK343.out 1).trans rfl, (blk_cell BK343.out 2).trans rfl, (blk_cell BK328.out 0).trans rfl, (blk_cell BK328.out 1).trans rfl, (blk_cell BK328.out 2).trans rfl, (blk_cell BK329.out 0).trans rfl, (blk_cell BK329.out 1).trans rfl, (blk_cell BK329.out 2).trans rfl⟩ (fun hHeld => ?_)
       clear hK K
       refine norm_ (a' := ?_) ?_ ?_
       rotate_left
       · show Act.put _ (some 14) _ = _
         simp only [Act.put, List.setIfInBounds_toArray, List.set_cons_zero, List.set_cons_succ, i64_w, i32_w]
         rfl
       exact norm_ (by (simp only [putAll, Act.put, List.setIfInBounds_toArray, List.set_cons_zero, List.set_cons_succ]; done)) (hJ2_5_6_7 (v347, v352, gb354, gb355) _ ⟨hHeld, (by (with_reducible repeat (fail)); exact Kd.N_mono HO336.out (fun _ hk => ⟨hk.1.1, ⟨hk.1.2.1, ⟨hk.1.2.2.1, ⟨hk.1.2.2.2.1, ⟨hk.1.2.2.2.2.1, ⟨hk.1.2.2.2.2.2.1, ⟨hk.1.2.2.2.2.2.2.1, ⟨hk.1.2.2.2.2.2.2.2.1, ⟨hk.2, hk.1.2.2.2.2.2.2.2.2⟩⟩⟩⟩⟩⟩⟩⟩⟩)), (by (with_reducible repeat (fail)); exact Kd.N_mono HO341.out (fun _ hk => ⟨hk.1.1, ⟨hk.1.2.1, ⟨hk.1.2.2.1, ⟨hk.1.2.2.2.1, ⟨hk.1.2.2.2.2.1, ⟨hk.1.2.2.2.2.2.1, ⟨hk.1.2.2.2.2.2.2.1, ⟨hk.1.2.2.2.2.2.2.2.1, ⟨hk.2, hk.1.2.2.2.2.2.2.2.2⟩⟩⟩⟩⟩⟩⟩⟩⟩)), (by (with_reducible repeat (fail)); exact Kd.N_mono HO348.out (fun _ hk => ⟨hk.1.1, ⟨hk.1.2.1, ⟨hk.1.2.2.1, ⟨hk.1.2.2.2.1, ⟨hk.1.2.2.2.2.1, ⟨hk.1.2.2.2.2.2.1, ⟨hk.2, hk.1.2.2.2.2.2.2⟩⟩⟩⟩⟩⟩⟩)), (by (with_reducible repeat (fail)); exact Kd.N_mono HO353.out (fun _ hk => ⟨hk.1.1, ⟨hk.1.2.1, ⟨hk.1.2.2.1, ⟨hk.1.2.2.2.1, ⟨hk.1.2.2.2.2.1, ⟨hk.1.2.2.2.2.2.1, ⟨hk.1.2.2.2.2.2.2.1, ⟨hk.1.2.2.2.2.2.2.2.1, ⟨hk.2, hk.1.2.2.2.2.2.2.2.2⟩⟩⟩⟩⟩⟩⟩⟩⟩)), BK328.out, BK329.out, BK330.out, BK342.out, BK343.out, BK354.out, BK355.out, GW354.out, GE354.out, NB328_354.out, NB354_328.out, NB329_354.out, NB354_329.out, NB330_354.out, NB354_330.out, NB342_354.out, NB354_342.out, NB343_354.out, NB354_343.out, NB355_354.out, NB354_355.out, GW355.out, GE355.out, NB328_355.out, NB355_328.out, NB329_355.out, NB355_329.out, NB330_355.out, NB355_330.out, NB342_355.out, NB355_342.out, NB343_355.out, NB355_343.out, HB.out⟩)
   · skip
     rintro ⟨v347, v352, gb354⟩ w36 ⟨hS_, h0_, h1_, h2_, h3_, h4_, h5_, h6_, h7_, h8_, h9_, h10_, h11_, h12_, h13_, h14_, h15_, h16_, h17_, h18_, h19_, h20_, h21_, h22_⟩
     replace HO336 : Aside0 (Kd.N k24 24 w36 w.heap.size (fun k_ => some k_ ≠ (.slice Ao29 t339.length co29 : Value).ownBlock ∧ some k_ ≠ (v347 : Value).ownBlock ∧ some k_ ≠ (v352 : Value).ownBlock ∧ k_ ≠ gb328 ∧ k_ ≠ gb329 ∧ k_ ≠ gb330 ∧ k_ ≠ gb342 ∧ k_ ≠ gb343 ∧ k_ ≠ gb354) (.slice Ao25 t334.length co25) t334) := ⟨h0_⟩
     replace HO341 : Aside0 (Kd.N k24 24 w36 w.heap.size (fun k_ => some k_ ≠ (.slice Ao25 t334.length co25 : Value).ownBlock ∧ some k_ ≠ (v347 : Value).ownBlock ∧ some k_ ≠ (v352 : Value).ownBlock ∧ k_ ≠ gb328 ∧ k_ ≠ gb329 ∧ k_ ≠ gb330 ∧ k_ ≠ gb342 ∧ k_ ≠ gb343 ∧ k_ ≠ gb354) (.slice Ao29 t339.length co29) t339) := ⟨h1_⟩
     have HO348 : Aside0 (Kd.N k24 24 w36 w.heap.size (fun k_ => some k_ ≠ (v352 : Value).ownBlock ∧ k_ ≠ gb328 ∧ k_ ≠ gb329 ∧ k_ ≠ gb330 ∧ k_ ≠ gb342 ∧ k_ ≠ gb343 ∧ k_ ≠ gb354) v347 t346) := ⟨h2_⟩
     have HO353 : Aside0 (Kd.N k24 24 w36 w.heap.size (fun k_ => some k_ ≠ (.slice Ao25 t334.length co25 : Value).ownBlock ∧ some k_ ≠ (.slice Ao29 t339.length co29 : Value).ownBlock ∧ some k_ ≠ (v347 : Value).ownBlock ∧ k_ ≠ gb328 ∧ k_ ≠ gb329 ∧ k_ ≠ gb330 ∧ k_ ≠ gb342 ∧ k_ ≠ gb343 ∧ k_ ≠ gb354) v352 t351) := ⟨h3_⟩
     replace BK328 : Aside0 (w36.heap[gb328]? = some (.cells #[.int .i64 a0_0, .int .i64 a0_1, .slice A0_2 l0_2.length c0_2] 24 (0, 0))) := ⟨h4_⟩
     replace BK329 : Aside0 (w36.heap[gb329]? = some (.cells #[.int .i64 a1_0, .int .i64 a1_1, .slice A1_2 l1_2.length c1_2] 24 (0, 0))) := ⟨h5_⟩
     replace BK330 : Aside0 (w36.heap[gb330]? = some (.cells #[.int .i64 a4_0, .int .i64 a4_1, .int .i64 a4_2, .int .i64 a4_3, .int .i64 a4_4, .int .i64 a4_5, .int .i64 a4_6, .int .i64 a4_7] 25 (0, 0))) := ⟨h6_⟩
     replace BK342 : Aside0 (w36.heap[gb342]? = some (.cells #[.int .i64 t332, .int .i64 t333, .slice Ao25 t334.length co25] 24 (0, 0))) := ⟨h7_⟩
     replace BK343 : Aside0 (w36.heap[gb343]? = some (.cells #[.int .i64 t337, .int .i64 t338, .slice Ao29 t339.length co29] 24 (0, 0))) := ⟨h8_⟩
     have BK354 : Aside0 (w36.heap[gb354]? = some (.cells #[.int .i64 0, .int .i64 0, .slice none 0 0] 24 (0, 0))) := ⟨h9_⟩
     have GW354 : Aside0 (w.heap.size ≤ gb354) := ⟨h10_⟩
     have GE354 : Aside0 (w.heap.size ≤ gb354) := ⟨h11_⟩
     have NB328_354 : Aside0 (gb328 ≠ gb354) := ⟨h12_⟩
     have NB354_328 : Aside0 (gb354 ≠ gb328) := ⟨h13_⟩
     have NB329_354 : Aside0 (gb329 ≠ gb354) := ⟨h14_⟩
     have NB354_329 : Aside0 (gb354 ≠ gb329) := ⟨h15_⟩
     have NB330_354 : Aside0 (gb330 ≠ gb354) := ⟨h16_⟩
     have NB354_330 : Aside0 (gb354 ≠ gb330) := ⟨h17_⟩
     have NB342_354 : Aside0 (gb342 ≠ gb354) := ⟨h18_⟩
     have NB354_342 : Aside0 (gb354 ≠ gb342) := ⟨h19_⟩
     have NB343_354 : Aside0 (gb343 ≠ gb354) := ⟨h20_⟩
     have NB354_343 : Aside0 (gb354 ≠ gb343) := ⟨h21_⟩
     replace HB : Aside0 (Below w.heap.size w w36) := ⟨h22_⟩
     clear h0_ h1_ h2_ h3_ h4_ h5_ h6_ h7_ h8_ h9_ h10_ h11_ h12_ h13_ h14_ h15_ h16_ h17_ h18_ h19_ h20_ h21_ h22_
     have hHeld : w36.cell? ⟨gb342, 0, none⟩ = some (.int .i64 t332) ∧ w36.cell? ⟨gb342, 1, none⟩ = some (.int .i64 t333) ∧ w36.cell? ⟨gb342, 2, none⟩ = some (.slice Ao25 t334.length co25) ∧ w36.cell? ⟨gb343, 0, none⟩ = some (.int .i64 t337) ∧ w36.cell? ⟨gb343, 1, none⟩ = some (.int .i64 t338) ∧ w36.cell? ⟨gb343, 2, none⟩ = some (.slice Ao29 t339.length co29) ∧ w36.cell? ⟨gb328, 0, none⟩ = some (.int .i64 a0_0) ∧ w36.cell? ⟨gb328, 1, none⟩ = some (.int .i64 a0_1) ∧ w36.cell? ⟨gb328, 2, none⟩ = some (.slice A0_2 l0_2.length c0_2) ∧ w36.cell? ⟨gb329, 0, none⟩ = some (.int .i64 a1_0) ∧ w36.cell? ⟨gb329, 1, none⟩ = some (.int .i64 a1_1) ∧ w36.cell? ⟨gb329, 2, none⟩ = some (.slice A1_2 l1_2.length c1_2) := hS_
     refine norm_ (a' := ?_) ?_ ?_
     rotate_left
     · simp only [putAll, Act.put, List.setIfInBounds_toArray, List.set_cons_zero, List.set_cons_succ]
       rfl
     refine one_ (i := 7) (N := some 15) #[true, true, true, true, true, true, true, true, false, false] rfl rfl (one_of HT_.out (by kernel_rfl)) (by decide) (fun K hK => ?_)
     refine box_step ?hg (N := 15) ?hd (cs := #[.int .i64 0, .int .i64 0, .slice none 0 0]) (t := 24) ?hr ?_; (case hd => rfl); (case hg => rfl); (case hr => (go_simp; done))
     intro gb355 hg w37 hbox hb
     replace HO336 := Aside0.mk (Kd.N_below (Kd.N_elderB HO336.out gb355 (Nat.le_of_eq hg.symm)) hb)
     replace HO341 := Aside0.mk (Kd.N_below (Kd.N_elderB HO341.out gb355 (Nat.le_of_eq hg.symm)) hb)
     replace HO348 := Aside0.mk (Kd.N_below (Kd.N_elderB HO348.out gb355 (Nat.le_of_eq hg.symm)) hb)
     replace HO353 := Aside0.mk (Kd.N_below (Kd.N_elderB HO353.out gb355 (Nat.le_of_eq hg.symm)) hb)
     have BK355 := Aside0.mk (hbox)
     have GW355 := Aside0.mk ((by rw [hg]; exact (below_size HB.out) : w.heap.size ≤ gb355))
     have GE355 := Aside0.mk ((by rw [hg]; exact (below_size HB.out) : w.heap.size ≤ gb355))
     replace HB := Aside0.mk (below_step HB.out hb)
     have NB328_355 := Aside0.mk ((by rw [hg]; exact Nat.ne_of_lt (blk_lt BK328.out) : gb328 ≠ gb355))
     have NB355_328 := Aside0.mk ((by rw [hg]; exact Nat.ne_of_gt (blk_lt BK328.out) : gb355 ≠ gb328))
     replace BK328 := Aside0.mk (blk_below BK328.out hb)
     have NB329_355 := Aside0.mk ((by rw [hg]; exact Nat.ne_of_lt (blk_lt BK329.out) : gb329 ≠ gb355))
     have NB355_329 := Aside0.mk ((by rw [hg]; exact Nat.ne_of_gt (blk_lt BK329.out) : gb355 ≠ gb329))
     replace BK329 := Aside0.mk (blk_below BK329.out hb)
     have NB330_355 := Aside0.mk ((by rw [hg]; exact Nat.ne_of_lt (blk_lt BK330.out) : gb330 ≠ gb355))
     have NB355_330 := Aside0.mk ((by rw [hg]; exact Nat.ne_of_gt (blk_lt BK330.out) : gb355 ≠ gb330))
     replace BK330 := Aside0.mk (blk_below BK330.out hb)
     have NB342_355 := Aside0.mk ((by rw [hg]; exact Nat.ne_of_lt (blk_lt BK342.out) : gb342 ≠ gb355))
     have NB355_342 := Aside0.mk ((by rw [hg]; exact Nat.ne_of_gt (blk_lt BK342.out) : gb355 ≠ gb342))
     replace BK342 := Aside0.mk (blk_below BK342.out hb)
     have NB343_355 := Aside0.mk ((by rw [hg]; exact Nat.ne_of_lt (blk_lt BK343.out) : gb343 ≠ gb355))
     have NB355_343 := Aside0.mk ((by rw [hg]; exact Nat.ne_of_gt (blk_lt BK343.out) : gb355 ≠ gb343))
     replace BK343 := Aside0.mk (blk_below BK343.out hb)
     have NB354_355 := Aside0.mk ((by rw [hg]; exact Nat.ne_of_lt (blk_lt BK354.out) : gb354 ≠ gb355))
     have NB355_354 := Aside0.mk ((by rw [hg]; exact Nat.ne_of_gt (blk_lt BK354.out) : gb355 ≠ gb354))
     replace BK354 := Aside0.mk (blk_below BK354.out hb)
     clear hb hbox hg
     refine hK.out _ _ ⟨(blk_cell BK342.out 0).trans rfl, (blk_cell BK342.out 1).trans rfl, (blk_cell BK342.out 2).trans rfl, (blk_cell BK343.out 0).trans rfl, (blk_cell BK343.out 1).trans rfl, (blk_cell BK343.out 2).trans rfl, (blk_cell BK328.out 0).trans rfl, (blk_cell BK328.out 1).trans rfl, (blk_cell BK328.out 2).trans rfl, (blk_cell BK329.out 0).trans rfl, (blk_cell BK329.out 1).trans rfl, (blk_cell BK329.out 2).trans rfl⟩ (fun hHeld => ?_)
     clear hK K
     refine norm_ (a' := ?_) ?_ ?_
     rotate_left
     · show Act.put _ (some 15) _ = _
       simp only [Act.put, List.setIfInBounds_toArray, List.set_cons_zero, List.set_cons_succ, i64_w, i32_w]
       rfl
     exact norm_ (by (simp only [putAll, Act.put, List.setIfInBounds_toArray, List.set_cons_zero, List.set_cons_succ]; done)) (hJ2_5_6_7 (v347, v352, gb354, gb355) _ ⟨hHeld, (by (with_reducible repeat (fail)); exact Kd.N_mono HO336.out (fun _ hk => ⟨hk.1.1, ⟨hk.1.2.1, ⟨hk.1.2.2.1, ⟨hk.1.2.2.2.1, ⟨hk.1.2.2.2.2.1, ⟨hk.1.2.2.2.2.2.1, ⟨hk.1.2.2.2.2.2.2.1, ⟨hk.1.2.2.2.2.2.2.2.1, ⟨hk.1.2.2.2.2.2.2.2.2, hk.2⟩⟩⟩⟩⟩⟩⟩⟩⟩)), (by (with_reducible repeat (fail)); exact Kd.N_mono HO341.out (fun _ hk => ⟨hk.1.1, ⟨hk.1.2.1, ⟨hk.1.2.2.1, ⟨hk.1.2.2.2.1, ⟨hk.1.2.2.2.2.1, ⟨hk.1.2.2.2.2.2.1, ⟨hk.1.2.2.2.2.2.2.1, ⟨hk.1.2.2.2.2.2.2.2.1, ⟨hk.1.2.2.2.2.2.2.2.2, hk.2⟩⟩⟩⟩⟩⟩⟩⟩⟩)), (by (with_reducible repeat (fail)); exact Kd.N_mono HO348.out (fun _ hk => ⟨hk.1.1, ⟨hk.1.2.1, ⟨hk.1.2.2.1, ⟨hk.1.2.2.2.1, ⟨hk.1.2.2.2.2.1, ⟨hk.1.2.2.2.2.2.1, ⟨hk.1.2.2.2.2.2.2, hk.2⟩⟩⟩⟩⟩⟩⟩)), (by (with_reducible repeat (fail)); exact Kd.N_mono HO353.out (fun _ hk => ⟨hk.1.1, ⟨hk.1.2.1, ⟨hk.1.2.2.1, ⟨hk.1.2.2.2.1, ⟨hk.1.2.2.2.2.1, ⟨hk.1.2.2.2.2.2.1, ⟨hk.1.2.2.2.2.2.2.1, ⟨hk.1.2.2.2.2.2.2.2.1, ⟨hk.1.2.2.2.2.2.2.2.2, hk.2⟩⟩⟩⟩⟩⟩⟩⟩⟩)), BK328.out, BK329.out, BK330.out, BK342.out, BK343.out, BK354.out, BK355.out, GW354.out, GE354.out, NB328_354.out, NB354_328.out, NB329_354.out, NB354_329.out, NB330_354.out, NB354_330.out, NB342_354.out, NB354_342.out, NB343_354.out, NB354_343.out, NB355_354.out, NB354_355.out, GW355.out, GE355.out, NB328_355.out, NB355_328.out, NB329_355.out, NB355_329.out, NB330_355.out, NB355_330.out, NB342_355.out, NB355_342.out, NB343_355.out, NB355_343.out, HB.out⟩)
 rintro ⟨v347, v352, gb354, gb355⟩ w37 ⟨hS_, h0_, h1_, h2_, h3_, h4_, h5_, h6_, h7_, h8_, h9_, h10_, h11_, h12_, h13_, h14_, h15_, h16_, h17_, h18_, h19_, h20_, h21_, h22_, h23_, h24_, h25_, h26_, h27_, h28_, h29_, h30_, h31_, h32_, h33_, h34_, h35_, h36_, h37_⟩
 replace HO336 : Aside0 (Kd.N k24 24 w37 w.heap.size (fun k_ => some k_ ≠ (.slice Ao29 t339.length co29 : Value).ownBlock ∧ some k_ ≠ (v347 : Value).ownBlock ∧ some k_ ≠ (v352 : Value).ownBlock ∧ k_ ≠ gb328 ∧ k_ ≠ gb329 ∧ k_ ≠ gb330 ∧ k_ ≠ gb342 ∧ k_ ≠ gb343 ∧ k_ ≠ gb354 ∧ k_ ≠ gb355) (.slice Ao25 t334.length co25) t334) := ⟨h0_⟩
 replace HO341 : Aside0 (Kd.N k24 24 w37 w.heap.size (fun k_ => some k_ ≠ (.slice Ao25 t334.length co25 : Value).ownBlock ∧ some k_ ≠ (v347 : Value).ownBlock ∧ some k_ ≠ (v352 : Value).ownBlock ∧ k_ ≠ gb328 ∧ k_ ≠ gb329 ∧ k_ ≠ gb330 ∧ k_ ≠ gb342 ∧ k_ ≠ gb343 ∧ k_ ≠ gb354 ∧ k_ ≠ gb355) (.slice Ao29 t339.length co29) t339) := ⟨h1_⟩
 have HO348 : Aside0 (Kd.N k24 24 w37 w.heap.size (fun k_ => some k_ ≠ (v352 : Value).ownBlock ∧ k_ ≠ gb328 ∧ k_ ≠ gb329 ∧ k_ ≠ gb330 ∧ k_ ≠ gb342 ∧ k_ ≠ gb343 ∧ k_ ≠ gb354 ∧ k_ ≠ gb355) v347 t346) := ⟨h2_⟩
 have HO353 : Aside0 (Kd.N k24 24 w37 w.heap.size (fun k_ => some k_ ≠ (.slice Ao25 t334.length co25 : Value).ownBlock ∧ some k_ ≠ (.slice Ao29 t339.length co29 : Value).ownBlock ∧ some k_ ≠ (v347 : Value).ownBlock ∧ k_ ≠ gb328 ∧ k_ ≠ gb329 ∧ k_ ≠ gb330 ∧ k_ ≠ gb342 ∧ k_ ≠ gb343 ∧ k_ ≠ gb354 ∧ k_ ≠ gb355) v352 t351) := ⟨h3_⟩
 replace BK328 : Aside0 (w37.heap[gb328]? = some (.cells #[.int .i64 a0_0, .int .i64 a0_1, .slice A0_2 l0_2.length c0_2] 24 (0, 0))) := ⟨h4_⟩
 replace BK329 : Aside0 (w37.heap[gb329]? = some (.cells #[.int .i64 a1_0, .int .i64 a1_1, .slice A1_2 l1_2.length c1_2] 24 (0, 0))) := ⟨h5_⟩
 replace BK330 : Aside0 (w37.heap[gb330]? = some (.cells #[.int .i64 a4_0, .int .i64 a4_1, .int .i64 a4_2, .int .i64 a4_3, .int .i64 a4_4, .int .i64 a4_5, .int .i64 a4_6, .int .i64 a4_7] 25 (0, 0))) := ⟨h6_⟩
 replace BK342 : Aside0 (w37.heap[gb342]? = some (.cells #[.int .i64 t332, .int .i64 t333, .slice Ao25 t334.length co25] 24 (0, 0))) := ⟨h7_⟩
 replace BK343 : Aside0 (w37.heap[gb343]? = some (.cells #[.int .i64 t337, .int .i64 t338, .slice Ao29 t339.length co29] 24 (0, 0))) := ⟨h8_⟩
 have BK354 : Aside0 (w37.heap[gb354]? = some (.cells #[.int .i64 0, .int .i64 0, .slice none 0 0] 24 (0, 0))) := ⟨h9_⟩
 have BK355 : Aside0 (w37.heap[gb355]? = some (.cells #[.int .i64 0, .int .i64 0, .slice none 0 0] 24 (0, 0))) := ⟨h10_⟩
 have GW354 : Aside0 (w.heap.size ≤ gb354) := ⟨h11_⟩
 have GE354 : Aside0 (w.heap.size ≤ gb354) := ⟨h12_⟩
 have NB328_354 : Aside0 (gb328 ≠ gb354) := ⟨h13_⟩
 have NB354_328 : Aside0 (gb354 ≠ gb328) := ⟨h14_⟩
 have NB329_354 : Aside0 (gb329 ≠ gb354) := ⟨h15_⟩
 have NB354_329 : Aside0 (gb354 ≠ gb329) := ⟨h16_⟩
 have NB330_354 : Aside0 (gb330 ≠ gb354) := ⟨h17_⟩
 have NB354_330 : Aside0 (gb354 ≠ gb330) := ⟨h18_⟩
 have NB342_354 : Aside0 (gb342 ≠ gb354) := ⟨h19_⟩
 have NB354_342 : Aside0 (gb354 ≠ gb342) := ⟨h20_⟩
 have NB343_354 : Aside0 (gb343 ≠ gb354) := ⟨h21_⟩
 have NB354_343 : Aside0 (gb354 ≠ gb343) := ⟨h22_⟩
 have NB355_354 : Aside0 (gb355 ≠ gb354) := ⟨h23_⟩
 have NB354_355 : Aside0 (gb354 ≠ gb355) := ⟨h24_⟩
 have GW355 : Aside0 (w.heap.size ≤ gb355) := ⟨h25_⟩
 have GE355 : Aside0 (w.heap.size ≤ gb355) := ⟨h26_⟩
 have NB328_355 : Aside0 (gb328 ≠ gb355) := ⟨h27_⟩
 have NB355_328 : Aside0 (gb355 ≠ gb328) := ⟨h28_⟩
 have NB329_355 : Aside0 (gb329 ≠ gb355) := ⟨h29_⟩
 have NB355_329 : Aside0 (gb355 ≠ gb329) := ⟨h30_⟩
 have NB330_355 : Aside0 (gb330 ≠ gb355) := ⟨h31_⟩
 have NB355_330 : Aside0 (gb355 ≠ gb330) := ⟨h32_⟩
 have NB342_355 : Aside0 (gb342 ≠ gb355) := ⟨h33_⟩
 have NB355_342 : Aside0 (gb355 ≠ gb342) := ⟨h34_⟩
 have NB343_355 : Aside0 (gb343 ≠ gb355) := ⟨h35_⟩
 have NB355_343 : Aside0 (gb355 ≠ gb343) := ⟨h36_⟩
 replace HB : Aside0 (Below w.heap.size w w37) := ⟨h37_⟩
 clear h0_ h1_ h2_ h3_ h4_ h5_ h6_ h7_ h8_ h9_ h10_ h11_ h12_ h13_ h14_ h15_ h16_ h17_ h18_ h19_ h20_ h21_ h22_ h23_ h24_ h25_ h26_ h27_ h28_ h29_ h30_ h31_ h32_ h33_ h34_ h35_ h36_ h37_
 have hHeld : w37.cell? ⟨gb342, 0, none⟩ = some (.int .i64 t332) ∧ w37.cell? ⟨gb342, 1, none⟩ = some (.int .i64 t333) ∧ w37.cell? ⟨gb342, 2, none⟩ = some (.slice Ao25 t334.length co25) ∧ w37.cell? ⟨gb343, 0, none⟩ = some (.int .i64 t337) ∧ w37.cell? ⟨gb343, 1, none⟩ = some (.int .i64 t338) ∧ w37.cell? ⟨gb343, 2, none⟩ = some (.slice Ao29 t339.length co29) ∧ w37.cell? ⟨gb328, 0, none⟩ = some (.int .i64 a0_0) ∧ w37.cell? ⟨gb328, 1, none⟩ = some (.int .i64 a0_1) ∧ w37.cell? ⟨gb328, 2, none⟩ = some (.slice A0_2 l0_2.length c0_2) ∧ w37.cell? ⟨gb329, 0, none⟩ = some (.int .i64 a1_0) ∧ w37.cell? ⟨gb329, 1, none⟩ = some (.int .i64 a1_1) ∧ w37.cell? ⟨gb329, 2, none⟩ = some (.slice A1_2 l1_2.length c1_2) := hS_
 obtain ⟨Ao40, co40, eo40⟩ := Kd.N_slice HO348.out
 (subst eo40)
 obtain ⟨Ao44, co44, eo44⟩ := Kd.N_slice HO353.out
 (subst eo44)
 refine norm_ (a' := ?_) ?_ ?_
 rotate_left
 · simp only [putAll, Act.put, List.setIfInBounds_toArray, List.set_cons_zero, List.set_cons_succ]
   rfl
 refine one_ (i := 8) (N := none) #[true, true, true, true, true, true, true, true, true, false] rfl rfl (one_of HT_.out (by kernel_rfl)) (by decide) (fun K hK => ?_)
 have hs38 : w37.cell? ⟨gb354, 0, none⟩ = some (.int .i64 0) := (blk_cell BK354.out 0).trans rfl
 have hfs38 := blk_frozen BK354.out 0
 have hns38_0 := NB328_354.out
 have hns38_1 := NB329_354.out
 have hns38_2 := NB330_354.out
 have hns38_3 := NB342_354.out
 have hns38_4 := NB343_354.out
 have hns38_6 := NB355_354.out
 have hms38_0 := NB354_328.out
 have hms38_1 := NB354_329.out
 have hms38_2 := NB354_330.out
 have hms38_3 := NB354_342.out
 have hms38_4 := NB354_343.out
 have hms38_6 := NB354_355.out
 have hs39 : w37.cell? ⟨gb354, 1, none⟩ = some (.int .i64 0) := (blk_cell BK354.out 1).trans rfl
 have hfs39 := blk_frozen BK354.out 1
 have hns39_0 := NB328_354.out
 have hns39_1 := NB329_354.out
 have hns39_2 := NB330_354.out
 have hns39_3 := NB342_354.out
 have hns39_4 := NB343_354.out
 have hns39_6 := NB355_354.out
 have hms39_0 := NB354_328.out
 have hms39_1 := NB354_329.out
 have hms39_2 := NB354_330.out
 have hms39_3 := NB354_342.out
 have hms39_4 := NB354_343.out
 have hms39_6 := NB354_355.out
 have hs41 : w37.cell? ⟨gb354, 2, none⟩ = some (.slice none 0 0) := (blk_cell BK354.out 2).trans rfl
 have hfs41 := blk_frozen BK354.out 2
 have hns41_0 := NB328_354.out
 have hns41_1 := NB329_354.out
 have hns41_2 := NB330_354.out
 have hns41_3 := NB342_354.out
 have hns41_4 := NB343_354.out
 have hns41_6 := NB355_354.out
 have hms41_0 := NB354_328.out
 have hms41_1 := NB354_329.out
 have hms41_2 := NB354_330.out
 have hms41_3 := NB354_342.out
 have hms41_4 := NB354_343.out
 have hms41_6 := NB354_355.out
 refine skip_ (w1 := ?_) (by rfl) rfl ?_ ?_
 rotate_left
 · go_simp
   rfl
 refine hK.out _ _ ⟨((cell_far (p := ⟨gb354, _, none⟩) NB342_354.out _).trans (((cell_far (p := ⟨gb354, _, none⟩) NB342_354.out _).trans (((cell_far (p := ⟨gb354, _, none⟩) NB342_354.out _).trans (hHeld.1)))))), ((cell_far (p := ⟨gb354, _, none⟩) NB342_354.out _).trans (((cell_far (p := ⟨gb354, _, none⟩) NB342_354.out _).trans (((cell_far (p := ⟨gb354, _, none⟩) NB342_354.out _).trans (hHeld.2.1)))))), ((cell_far (p := ⟨gb354, _, none⟩) NB342_354.out _).trans (((cell_far (p := ⟨gb354, _, none⟩) NB342_354.out _).trans (((cell_far (p := ⟨gb354, _, none⟩) NB342_354.out _).trans (hHeld.2.2.1)))))), ((cell_far (p := ⟨gb354, _, none⟩) NB343_354.out _).trans (((cell_far (p := ⟨gb354, _, none⟩) NB343_354.out _).trans (((cell_far (p := ⟨gb354, _, none⟩) NB343_354.out _).trans (hHeld.2.2.2.1)))))), ((cell_far (p := ⟨gb354, _, none⟩) NB343_354.out _).trans (((cell_far (p := ⟨gb354, _, none⟩) NB343_354.out _).trans (((cell_far (p := ⟨gb354, _, none⟩) NB343_354.out _).trans (hHeld.2.2.2.2.1)))))), ((cell_far (p := ⟨gb354, _, none⟩) NB343_354.out _).trans (((cell_far (p := ⟨gb354, _, none⟩) NB343_354.out _).trans (((cell_far (p := ⟨gb354, _, none⟩) NB343_354.out _).trans (hHeld.2.2.2.2.2.1)))))), ((cell_far (p := ⟨gb354, _, none⟩) NB328_354.out _).trans (((cell_far (p := ⟨gb354, _, none⟩) NB328_354.out _).trans (((cell_far (p := ⟨gb354, _, none⟩) NB328_354.out _).trans (hHeld.2.2.2.2.2.2.1)))))), ((cell_far (p := ⟨gb354, _, none⟩) NB328_354.out _).trans (((cell_far (p := ⟨gb354, _, none⟩) NB328_354.out _).trans (((cell_far (p := ⟨gb354, _, none⟩) NB328_354.out _).trans (hHeld.2.2.2.2.2.2.2.1)))))), ((cell_far (p := ⟨gb354, _, none⟩) NB328_354.out _).trans (((cell_far (p := ⟨gb354, _, none⟩) NB328_354.out _).trans (((cell_far (p := ⟨gb354, _, none⟩) NB328_354.out _).trans (hHeld.2.2.2.2.2.2.2.2.1)))))), ((cell_far (p := ⟨gb354, _, none⟩) NB329_354.out _).trans (((cell_far (p := ⟨gb354, _, none⟩) NB329_354.out _).trans (((cell_far (p := ⟨gb354, _, none⟩) NB329_354.out _).trans (hHeld.2.2.2.2.2.2.2.2.2.1)))))), ((cell_far (p := ⟨gb354, _, none⟩) NB329_354.out _).trans (((cell_far (p := ⟨gb354, _, none⟩) NB329_354.out _).trans (((cell_far (p := ⟨gb354, _, none⟩) NB329_354.out _).trans (hHeld.2.2.2.2.2.2.2.2.2.2.1)))))), ((cell_far (p := ⟨gb354, _, none⟩) NB329_354.out _).trans (((cell_far (p := ⟨gb354, _, none⟩) NB329_354.out _).trans (((cell_far (p := ⟨gb354, _, none⟩) NB329_354.out _).trans (hHeld.2.2.2.2.2.2.2.2.2.2.2))))))⟩ (fun hHeld => ?_)
 clear hK K
 refine one_ (i := 9) (N := none) #[true, true, true, true, true, true, true, true, true, true] rfl rfl (one_of HT_.out (by kernel_rfl)) (by decide) (fun K hK => ?_)
 have hs42 : w37.cell? ⟨gb355, 0, none⟩ = some (.int .i64 0) := (blk_cell BK355.out 0).trans rfl
 have hfs42 := blk_frozen BK355.out 0
 have hns42_0 := NB328_355.out
 have hns42_1 := NB329_355.out
 have hns42_2 := NB330_355.out
 have hns42_3 := NB342_355.out
 have hns42_4 := NB343_355.out
 have hns42_5 := NB354_355.out
 have hms42_0 := NB355_328.out
 have hms42_1 := NB355_329.out
 have hms42_2 := NB355_330.out
 have hms42_3 := NB355_342.out
 have hms42_4 := NB355_343.out
 have hms42_5 := NB355_354.out
 have hs43 : w37.cell? ⟨gb355, 1, none⟩ = some (.int .i64 0) := (blk_cell BK355.out 1).trans rfl
 have hfs43 := blk_frozen BK355.out 1
 have hns43_0 := NB328_355.out
 have hns43_1 := NB329_355.out
 have hns43_2 := NB330_355.out
 have hns43_3 := NB342_355.out
 have hns43_4 := NB343_355.out
 have hns43_5 := NB354_355.out
 have hms43_0 := NB355_328.out
 have hms43_1 := NB355_329.out
 have hms43_2 := NB355_330.out
 have hms43_3 := NB355_342.out
 have hms43_4 := NB355_343.out
 have hms43_5 := NB355_354.out
 have hs45 : w37.cell? ⟨gb355, 2, none⟩ = some (.slice none 0 0) := (blk_cell BK355.out 2).trans rfl
 have hfs45 := blk_frozen BK355.out 2
 have hns45_0 := NB328_355.out
 have hns45_1 := NB329_355.out
 have hns45_2 := NB330_355.out
 have hns45_3 := NB342_355.out
 have hns45_4 := NB343_355.out
 have hns45_5 := NB354_355.out
 have hms45_0 := NB355_328.out
 have hms45_1 := NB355_329.out
 have hms45_2 := NB355_330.out
 have hms45_3 := NB355_342.out
 have hms45_4 := NB355_343.out
 have hms45_5 := NB355_354.out
 refine skip_ (w1 := ?_) (by rfl) rfl ?_ ?_
 rotate_left
 · go_simp
   rfl
 refine hK.out _ _ ⟨((cell_far (p := ⟨gb355, _, none⟩) NB342_355.out _).trans (((cell_far (p := ⟨gb355, _, none⟩) NB342_355.out _).trans (((cell_far (p := ⟨gb355, _, none⟩) NB342_355.out _).trans (hHeld.1)))))), ((cell_far (p := ⟨gb355, _, none⟩) NB342_355.out _).trans (((cell_far (p := ⟨gb355, _, none⟩) NB342_355.out _).trans (((cell_far (p := ⟨gb355, _, none⟩) NB342_355.out _).trans (hHeld.2.1)))))), ((cell_far (p := ⟨gb355, _, none⟩) NB342_355.out _).trans (((cell_far (p := ⟨gb355, _, none⟩) NB342_355.out _).trans (((cell_far (p := ⟨gb355, _, none⟩) NB342_355.out _).trans (hHeld.2.2.1)))))), ((cell_far (p := ⟨gb355, _, none⟩) NB343_355.out _).trans (((cell_far (p := ⟨gb355, _, none⟩) NB343_355.out _).trans (((cell_far (p := ⟨gb355, _, none⟩) NB343_355.out _).trans (hHeld.2.2.2.1)))))), ((cell_far (p := ⟨gb355, _, none⟩) NB343_355.out _).trans (((cell_far (p := ⟨gb355, _, none⟩) NB343_355.out _).trans (((cell_far (p := ⟨gb355, _, none⟩) NB343_355.out _).trans (hHeld.2.2.2.2.1)))))), ((cell_far (p := ⟨gb355, _, none⟩) NB343_355.out _).trans (((cell_far (p := ⟨gb355, _, none⟩) NB343_355.out _).trans (((cell_far (p := ⟨gb355, _, none⟩) NB343_355.out _).trans (hHeld.2.2.2.2.2.1)))))), ((cell_far (p := ⟨gb355, _, none⟩) NB328_355.out _).trans (((cell_far (p := ⟨gb355, _, none⟩) NB328_355.out _).trans (((cell_far (p := ⟨gb355, _, none⟩) NB328_355.out _).trans (hHeld.2.2.2.2.2.2.1)))))), ((cell_far (p := ⟨gb355, _, none⟩) NB328_355.out _).trans (((cell_far (p := ⟨gb355, _, none⟩) NB328_355.out _).trans (((cell_far (p := ⟨gb355, _, none⟩) NB328_355.out _).trans (hHeld.2.2.2.2.2.2.2.1)))))), ((cell_far (p := ⟨gb355, _, none⟩) NB328_355.out _).trans (((cell_far (p := ⟨gb355, _, none⟩) NB328_355.out _).trans (((cell_far (p := ⟨gb355, _, none⟩) NB328_355.out _).trans (hHeld.2.2.2.2.2.2.2.2.1)))))), ((cell_far (p := ⟨gb355, _, none⟩) NB329_355.out _).trans (((cell_far (p := ⟨gb355, _, none⟩) NB329_355.out _).trans (((cell_far (p := ⟨gb355, _, none⟩) NB329_355.out _).trans (hHeld.2.2.2.2.2.2.2.2.2.1)))))), ((cell_far (p := ⟨gb355, _, none⟩) NB329_355.out _).trans (((cell_far (p := ⟨gb355, _, none⟩) NB329_355.out _).trans (((cell_far (p := ⟨gb355, _, none⟩) NB329_355.out _).trans (hHeld.2.2.2.2.2.2.2.2.2.2.1)))))), ((cell_far (p := ⟨gb355, _, none⟩) NB329_355.out _).trans (((cell_far (p := ⟨gb355, _, none⟩) NB329_355.out _).trans (((cell_far (p := ⟨gb355, _, none⟩) NB329_355.out _).trans (hHeld.2.2.2.2.2.2.2.2.2.2.2))))))⟩ (fun hHeld => ?_)
 clear hK K
 refine done_ (done_of HT_.out (by kernel_rfl)) ?_
 have n0_ : Aside0 (Kd.N k24 24 ((((((w37.setCell ⟨gb354, 0, none⟩ (.int .i64 t344)).setCell ⟨gb354, 1, none⟩ (.int .i64 t345)).setCell ⟨gb354, 2, none⟩ (.slice Ao40 t346.length co40)).setCell ⟨gb355, 0, none⟩ (.int .i64 t349)).setCell ⟨gb355, 1, none⟩ (.int .i64 t350)).setCell ⟨gb355, 2, none⟩ (.slice Ao44 t351.length co44)) w.heap.size (fun k_ => some k_ ≠ (.slice Ao29 t339.length co29 : Value).ownBlock ∧ some k_ ≠ (.slice Ao40 t346.length co40 : Value).ownBlock ∧ some k_ ≠ (.slice Ao44 t351.length co44 : Value).ownBlock ∧ k_ ≠ gb328 ∧ k_ ≠ gb329 ∧ k_ ≠ gb330 ∧ k_ ≠ gb342 ∧ k_ ≠ gb343 ∧ k_ ≠ gb354 ∧ k_ ≠ gb355) (.slice Ao25 t334.length co25) t334) := ⟨by (with_reducible repeat (fail)); exact Kd.N_mono (Kd.N_far (p := ⟨gb355, 2, none⟩) (Kd.N_far (p := ⟨gb355, 1, none⟩) (Kd.N_far (p := ⟨gb355, 0, none⟩) (Kd.N_far (p := ⟨gb354, 2, none⟩) (Kd.N_far (p := ⟨gb354, 1, none⟩) (Kd.N_far (p := ⟨gb354, 0, none⟩) (Kd.N_mono (Kd.N_mono HO336.out (fun k_ hk => (⟨hk, hk.2.2.2.2.2.2.2.2.1⟩ : _ ∧ k_ ≠ gb354))) (fun k_ hk => (⟨hk, hk.1.2.2.2.2.2.2.2.2.2⟩ : _ ∧ k_ ≠ gb355))) (fun _ hk => hk.1.2) (.int .i64 t344)) (fun _ hk => hk.1.2) (.int .i64 t345)) (fun _ hk => hk.1.2) (.slice Ao40 t346.length co40)) (fun _ hk => hk.2) (.int .i64 t349)) (fun _ hk => hk.2) (.int .i64 t350)) (fun _ hk => hk.2) (.slice Ao44 t351.length co44)) (fun _ hk => ⟨hk.1.1.1, ⟨hk.1.1.2.1, ⟨hk.1.1.2.2.1, ⟨hk.1.1.2.2.2.1, ⟨hk.1.1.2.2.2.2.1, ⟨hk.1.1.2.2.2.2.2.1, ⟨hk.1.1.2.2.2.2.2.2.1, ⟨hk.1.1.2.2.2.2.2.2.2.1, ⟨hk.1.1.2.2.2.2.2.2.2.2.1, hk.1.1.2.2.2.2.2.2.2.2.2⟩⟩⟩⟩⟩⟩⟩⟩⟩)⟩
 have n1_ : Aside0 (Kd.N k24 24 ((((((w37.setCell ⟨gb354, 0, none⟩ (.int .i64 t344)).setCell ⟨gb354, 1, none⟩ (.int .i64 t345)).setCell ⟨gb354, 2, none⟩ (.slice Ao40 t346.length co40)).setCell ⟨gb355, 0, none⟩ (.int .i64 t349)).setCell ⟨gb355, 1, none⟩ (.int .i64 t350)).setCell ⟨gb355, 2, none⟩ (.slice Ao44 t351.length co44)) w.heap.size (fun k_ => some k_ ≠ (.slice Ao25 t334.length co25 : Value).ownBlock ∧ some k_ ≠ (.slice Ao40 t346.length co40 : Value).ownBlock ∧ some k_ ≠ (.slice Ao44 t351.length co44 : Value).ownBlock ∧ k_ ≠ gb328 ∧ k_ ≠ gb329 ∧ k_ ≠ gb330 ∧ k_ ≠ gb342 ∧ k_ ≠ gb343 ∧ k_ ≠ gb354 ∧ k_ ≠ gb355) (.slice Ao29 t339.length co29) t339) := ⟨by (with_reducible repeat (fail)); exact Kd.N_mono (Kd.N_far (p := ⟨gb355, 2, none⟩) (Kd.N_far (p := ⟨gb355, 1, none⟩) (Kd.N_far (p := ⟨gb355, 0, none⟩) (Kd.N_far (p := ⟨gb354, 2, none⟩) (Kd.N_far (p := ⟨gb354, 1, none⟩) (Kd.N_far (p := ⟨gb354, 0, none⟩) (Kd.N_mono (Kd.N_mono HO341.out (fun k_ hk => (⟨hk, hk.2.2.2.2.2.2.2.2.1⟩ : _ ∧ k_ ≠ gb354))) (fun k_ hk => (⟨hk, hk.1.2.2.2.2.2.2.2.2.2⟩ : _ ∧ k_ ≠ gb355))) (fun _ hk => hk.1.2) (.int .i64 t344)) (fun _ hk => hk.1.2) (.int .i64 t345)) (fun _ hk => hk.1.2) (.slice Ao40 t346.length co40)) (fun _ hk => hk.2) (.int .i64 t349)) (fun _ hk => hk.2) (.int .i64 t350)) (fun _ hk => hk.2) (.slice Ao44 t351.length co44)) (fun _ hk => ⟨hk.1.1.1, ⟨hk.1.1.2.1, ⟨hk.1.1.2.2.1, ⟨hk.1.1.2.2.2.1, ⟨hk.1.1.2.2.2.2.1, ⟨hk.1.1.2.2.2.2.2.1, ⟨hk.1.1.2.2.2.2.2.2.1, ⟨hk.1.1.2.2.2.2.2.2.2.1, ⟨hk.1.1.2.2.2.2.2.2.2.2.1, hk.1.1.2.2.2.2.2.2.2.2.2⟩⟩⟩⟩⟩⟩⟩⟩⟩)⟩
 have n2_ : Aside0 (Kd.N k24 24 ((((((w37.setCell ⟨gb354, 0, none⟩ (.int .i64 t344)).setCell ⟨gb354, 1, none⟩ (.int .i64 t345)).setCell ⟨gb354, 2, none⟩ (.slice Ao40 t346.length co40)).setCell ⟨gb355, 0, none⟩ (.int .i64 t349)).setCell ⟨gb355, 1, none⟩ (.int .i64 t350)).setCell ⟨gb355, 2, none⟩ (.slice Ao44 t351.length co44)) w.heap.size (fun k_ => some k_ ≠ (.slice Ao44 t351.length co44 : Value).ownBlock ∧ k_ ≠ gb328 ∧ k_ ≠ gb329 ∧ k_ ≠ gb330 ∧ k_ ≠ gb342 ∧ k_ ≠ gb343 ∧ k_ ≠ gb354 ∧ k_ ≠ gb355) (.slice Ao40 t346.length co40) t346) := ⟨by (with_reducible repeat (fail)); exact Kd.N_mono (Kd.N_far (p := ⟨gb355, 2, none⟩) (Kd.N_far (p := ⟨gb355, 1, none⟩) (Kd.N_far (p := ⟨gb355, 0, none⟩) (Kd.N_far (p := ⟨gb354, 2, none⟩) (Kd.N_far (p := ⟨gb354, 1, none⟩) (Kd.N_far (p := ⟨gb354, 0, none⟩) (Kd.N_mono (Kd.N_mono HO348.out (fun k_ hk => (⟨hk, hk.2.2.2.2.2.2.1⟩ : _ ∧ k_ ≠ gb354))) (fun k_ hk => (⟨hk, hk.1.2.2.2.2.2.2.2⟩ : _ ∧ k_ ≠ gb355))) (fun _ hk => hk.1.2) (.int .i64 t344)) (fun _ hk => hk.1.2) (.int .i64 t345)) (fun _ hk => hk.1.2) (.slice Ao40 t346.length co40)) (fun _ hk => hk.2) (.int .i64 t349)) (fun _ hk => hk.2) (.int .i64 t350)) (fun _ hk => hk.2) (.slice Ao44 t351.length co44)) (fun _ hk => ⟨hk.1.1.1, ⟨hk.1.1.2.1, ⟨hk.1.1.2.2.1, ⟨hk.1.1.2.2.2.1, ⟨hk.1.1.2.2.2.2.1, ⟨hk.1.1.2.2.2.2.2.1, ⟨hk.1.1.2.2.2.2.2.2.1, hk.1.1.2.2.2.2.2.2.2⟩⟩⟩⟩⟩⟩⟩)⟩
 have n3_ : Aside0 (Kd.N k24 24 ((((((w37.setCell ⟨gb354, 0, none⟩ (.int .i64 t344)).setCell ⟨gb354, 1, none⟩ (.int .i64 t345)).setCell ⟨gb354, 2, none⟩ (.slice Ao40 t346.length co40)).setCell ⟨gb355, 0, none⟩ (.int .i64 t349)).setCell ⟨gb355, 1, none⟩ (.int .i64 t350)).setCell ⟨gb355, 2, none⟩ (.slice Ao44 t351.length co44)) w.heap.size (fun k_ => some k_ ≠ (.slice Ao25 t334.length co25 : Value).ownBlock ∧ some k_ ≠ (.slice Ao29 t339.length co29 : Value).ownBlock ∧ some k_ ≠ (.slice Ao40 t346.length co40 : Value).ownBlock ∧ k_ ≠ gb328 ∧ k_ ≠ gb329 ∧ k_ ≠ gb330 ∧ k_ ≠ gb342 ∧ k_ ≠ gb343 ∧ k_ ≠ gb354 ∧ k_ ≠ gb355) (.slice Ao44 t351.length co44) t351) := ⟨by (with_reducible repeat (fail)); exact Kd.N_mono (Kd.N_far (p := ⟨gb355, 2, none⟩) (Kd.N_far (p := ⟨gb355, 1, none⟩) (Kd.N_far (p := ⟨gb355, 0, none⟩) (Kd.N_far (p := ⟨gb354, 2, none⟩) (Kd.N_far (p := ⟨gb354, 1, none⟩) (Kd.N_far (p := ⟨gb354, 0, none⟩) (Kd.N_mono (Kd.N_mono HO353.out (fun k_ hk => (⟨hk, hk.2.2.2.2.2.2.2.2.1⟩ : _ ∧ k_ ≠ gb354))) (fun k_ hk => (⟨hk, hk.1.2.2.2.2.2.2.2.2.2⟩ : _ ∧ k_ ≠ gb355))) (fun _ hk => hk.1.2) (.int .i64 t344)) (fun _ hk => hk.1.2) (.int .i64 t345)) (fun _ hk => hk.1.2) (.slice Ao40 t346.length co40)) (fun _ hk => hk.2) (.int .i64 t349)) (fun _ hk => hk.2) (.int .i64 t350)) (fun _ hk => hk.2) (.slice Ao44 t351.length co44)) (fun _ hk => ⟨hk.1.1.1, ⟨hk.1.1.2.1, ⟨hk.1.1.2.2.1, ⟨hk.1.1.2.2.2.1, ⟨hk.1.1.2.2.2.2.1, ⟨hk.1.1.2.2.2.2.2.1, ⟨hk.1.1.2.2.2.2.2.2.1, ⟨hk.1.1.2.2.2.2.2.2.2.1, ⟨hk.1.1.2.2.2.2.2.2.2.2.1, hk.1.1.2.2.2.2.2.2.2.2.2⟩⟩⟩⟩⟩⟩⟩⟩⟩)⟩
 have n4_ : Aside0 (((((((w37.setCell ⟨gb354, 0, none⟩ (.int .i64 t344)).setCell ⟨gb354, 1, none⟩ (.int .i64 t345)).setCell ⟨gb354, 2, none⟩ (.slice Ao40 t346.length co40)).setCell ⟨gb355, 0, none⟩ (.int .i64 t349)).setCell ⟨gb355, 1, none⟩ (.int .i64 t350)).setCell ⟨gb355, 2, none⟩ (.slice Ao44 t351.length co44)).heap[gb328]? = some (.cells #[.int .i64 a0_0, .int .i64 a0_1, .slice A0_2 l0_2.length c0_2] 24 (0, 0))) := ⟨by (with_reducible repeat (fail)); refine blk_far ?_ NB328_355.out _; (with_reducible repeat (fail)); refine blk_far ?_ NB328_355.out _; (with_reducible repeat (fail)); refine blk_far ?_ NB328_355.out _; (with_reducible repeat (fail)); refine blk_far ?_ NB328_354.out _; (with_reducible repeat (fail)); refine blk_far ?_ NB328_354.out _; (with_reducible repeat (fail)); refine blk_far ?_ NB328_354.out _; (with_reducible repeat (fail)); exact BK328.out⟩
 have n5_ : Aside0 (((((((w37.setCell ⟨gb354, 0, none⟩ (.int .i64 t344)).setCell ⟨gb354, 1, none⟩ (.int .i64 t345)).setCell ⟨gb354, 2, none⟩ (.slice Ao40 t346.length co40)).setCell ⟨gb355, 0, none⟩ (.int .i64 t349)).setCell ⟨gb355, 1, none⟩ (.int .i64 t350)).setCell ⟨gb355, 2, none⟩ (.slice Ao44 t351.length co44)).heap[gb329]? = some (.cells #[.int .i64 a1_0, .int .i64 a1_1, .slice A1_2 l1_2.length c1_2] 24 (0, 0))) := ⟨by (with_reducible repeat (fail)); refine blk_far ?_ NB329_355.out _; (with_reducible repeat (fail)); refine blk_far ?_ NB329_355.out _; (with_reducible repeat (fail)); refine blk_far ?_ NB329_355.out _; (with_reducible repeat (fail)); refine blk_far ?_ NB329_354.out _; (with_reducible repeat (fail)); refine blk_far ?_ NB329_354.out _; (with_reducible repeat (fail)); refine blk_far ?_ NB329_354.out _; (with_reducible repeat (fail)); exact BK329.out⟩
 have n6_ : Aside0 (((((((w37.setCell ⟨gb354, 0, none⟩ (.int .i64 t344)).setCell ⟨gb354, 1, none⟩ (.int .i64 t345)).setCell ⟨gb354, 2, none⟩ (.slice Ao40 t346.length co40)).setCell ⟨gb355, 0, none⟩ (.int .i64 t349)).setCell ⟨gb355, 1, none⟩ (.int .i64 t350)).setCell ⟨gb355, 2, none⟩ (.slice Ao44 t351.length co44)).heap[gb330]? = some (.cells #[.int .i64 a4_0, .int .i64 a4_1, .int .i64 a4_2, .int .i64 a4_3, .int .i64 a4_4, .int .i64 a4_5, .int .i64 a4_6, .int .i64 a4_7] 25 (0, 0))) := ⟨by (with_reducible repeat (fail)); refine blk_far ?_ NB330_355.out _; (with_reducible repeat (fail)); refine blk_far ?_ NB330_355.out _; (with_reducible repeat (fail)); refine blk_far ?_ NB330_355.out _; (with_reducible repeat (fail)); refine blk_far ?_ NB330_354.out _; (with_reducible repeat (fail)); refine blk_far ?_ NB330_354.out _; (with_reducible repeat (fail)); refine blk_far ?_ NB330_354.out _; (with_reducible repeat (fail)); exact BK330.out⟩
 have n7_ : Aside0 (((((((w37.setCell ⟨gb354, 0, none⟩ (.int .i64 t344)).setCell ⟨gb354, 1, none⟩ (.int .i64 t345)).setCell ⟨gb354, 2, none⟩ (.slice Ao40 t346.length co40)).setCell ⟨gb355, 0, none⟩ (.int .i64 t349)).setCell ⟨gb355, 1, none⟩ (.int .i64 t350)).setCell ⟨gb355, 2, none⟩ (.slice Ao44 t351.length co44)).heap[gb342]? = some (.cells #[.int .i64 t332, .int .i64 t333, .slice Ao25 t334.length co25] 24 (0, 0))) := ⟨by (with_reducible repeat (fail)); refine blk_far ?_ NB342_355.out _; (with_reducible repeat (fail)); refine blk_far ?_ NB342_355.out _; (with_reducible repeat (fail)); refine blk_far ?_ NB342_355.out _; (with_reducible repeat (fail)); refine blk_far ?_ NB342_354.out _; (with_reducible repeat (fail)); refine blk_far ?_ NB342_354.out _; (with_reducible repeat (fail)); refine blk_far ?_ NB342_354.out _; (with_reducible repeat (fail)); exact BK342.out⟩
 have n8_ : Aside0 (((((((w37.setCell ⟨gb354, 0, none⟩ (.int .i64 t344)).setCell ⟨gb354, 1, none⟩ (.int .i64 t345)).setCell ⟨gb354, 2, none⟩ (.slice Ao40 t346.length co40)).setCell ⟨gb355, 0, none⟩ (.int .i64 t349)).setCell ⟨gb355, 1, none⟩ (.int .i64 t350)).setCell ⟨gb355, 2, none⟩ (.slice Ao44 t351.length co44)).heap[gb343]? = some (.cells #[.int .i64 t337, .int .i64 t338, .slice Ao29 t339.length co29] 24 (0, 0))) := ⟨by (with_reducible repeat (fail)); refine blk_far ?_ NB343_355.out _; (with_reducible repeat (fail)); refine blk_far ?_ NB343_355.out _; (with_reducible repeat (fail)); refine blk_far ?_ NB343_355.out _; (with_reducible repeat (fail)); refine blk_far ?_ NB343_354.out _; (with_reducible repeat (fail)); refine blk_far ?_ NB343_354.out _; (with_reducible repeat (fail)); refine blk_far ?_ NB343_354.out _; (with_reducible repeat (fail)); exact BK343.out⟩
 have n9_ : Aside0 (((((((w37.setCell ⟨gb354, 0, none⟩ (.int .i64 t344)).setCell ⟨gb354, 1, none⟩ (.int .i64 t345)).setCell ⟨gb354, 2, none⟩ (.slice Ao40 t346.length co40)).setCell ⟨gb355, 0, none⟩ (.int .i64 t349)).setCell ⟨gb355, 1, none⟩ (.int .i64 t350)).setCell ⟨gb355, 2, none⟩ (.slice Ao44 t351.length co44)).heap[gb354]? = some (.cells #[.int .i64 t344, .int .i64 t345, .slice Ao40 t346.length co40] 24 (0, 0))) := ⟨by (with_reducible repeat (fail)); refine blk_far ?_ NB354_355.out _; (with_reducible repeat (fail)); refine blk_far ?_ NB354_355.out _; (with_reducible repeat (fail)); refine blk_far ?_ NB354_355.out _; (with_reducible repeat (fail)); refine blk_put (cs := #[.int .i64 t344, .int .i64 t345, .slice none 0 0]) ?_ 2 _ rfl; (with_reducible repeat (fail)); refine blk_put (cs := #[.int .i64 t344, .int .i64 0, .slice none 0 0]) ?_ 1 _ rfl; (with_reducible repeat (fail)); refine blk_put (cs := #[.int .i64 0, .int .i64 0, .slice none 0 0]) ?_ 0 _ rfl; (with_reducible repeat (fail)); exact BK354.out⟩
 have n10_ : Aside0 (((((((w37.setCell ⟨gb354, 0, none⟩ (.int .i64 t344)).setCell ⟨gb354, 1, none⟩ (.int .i64 t345)).setCell ⟨gb354, 2, none⟩ (.slice Ao40 t346.length co40)).setCell ⟨gb355, 0, none⟩ (.int .i64 t349)).setCell ⟨gb355, 1, none⟩ (.int .i64 t350)).setCell ⟨gb355, 2, none⟩ (.slice Ao44 t351.length co44)).heap[gb355]? = some (.cells #[.int .i64 t349, .int .i64 t350, .slice Ao44 t351.length co44] 24 (0, 0))) := ⟨by (with_reducible repeat (fail)); refine blk_put (cs := #[.int .i64 t349, .int .i64 t350, .slice none 0 0]) ?_ 2 _ rfl; (with_reducible repeat (fail)); refine blk_put (cs := #[.int .i64 t349, .int .i64 0, .slice none 0 0]) ?_ 1 _ rfl; (with_reducible repeat (fail)); refine blk_put (cs := #[.int .i64 0, .int .i64 0, .slice none 0 0]) ?_ 0 _ rfl; (with_reducible repeat (fail)); refine blk_far ?_ NB355_354.out _; (with_reducible repeat (fail)); refine blk_far ?_ NB355_354.out _; (with_reducible repeat (fail)); refine blk_far ?_ NB355_354.out _; (with_reducible repeat (fail)); exact BK355.out⟩
 have n11_ : Aside0 (Below w.heap.size w ((((((w37.setCell ⟨gb354, 0, none⟩ (.int .i64 t344)).setCell ⟨gb354, 1, none⟩ (.int .i64 t345)).setCell ⟨gb354, 2, none⟩ (.slice Ao40 t346.length co40)).setCell ⟨gb355, 0, none⟩ (.int .i64 t349)).setCell ⟨gb355, 1, none⟩ (.int .i64 t350)).setCell ⟨gb355, 2, none⟩ (.slice Ao44 t351.length co44))) := ⟨by repeat ((with_reducible first | exact HB.out | refine below_set ?_ GE354.out | refine below_set ?_ GE355.out))⟩
 (try clear HO336)
 (try clear HO341)
 (try clear HO348)
 (try clear HO353)
 (try clear BK328)
 (try clear BK329)
 (try clear BK330)
 (try clear BK342)
 (try clear BK343)
 (try clear BK354)
 (try clear BK355)
 (try clear HB)
 generalize ((((((w37.setCell ⟨gb354, 0, none⟩ (.int .i64 t344)).setCell ⟨gb354, 1, none⟩ (.int .i64 t345)).setCell ⟨gb354, 2, none⟩ (.slice Ao40 t346.length co40)).setCell ⟨gb355, 0, none⟩ (.int .i64 t349)).setCell ⟨gb355, 1, none⟩ (.int .i64 t350)).setCell ⟨gb355, 2, none⟩ (.slice Ao44 t351.length co44)) = w46 at n0_ n1_ n2_ n3_ n4_ n5_ n6_ n7_ n8_ n9_ n10_ n11_ ⊢
 have HO336 := n0_
 have HO341 := n1_
 have HO348 := n2_
 have HO353 := n3_
 have BK328 := n4_
 have BK329 := n5_
 have BK330 := n6_
 have BK342 := n7_
 have BK343 := n8_
 have BK354 := n9_
 have BK355 := n10_
 have HB := n11_
 clear n0_ n1_ n2_ n3_ n4_ n5_ n6_ n7_ n8_ n9_ n10_ n11_
 have hnb47 := NB343_328.out
 have hnc47 := NB328_343.out
 have hnb48 := NB343_329.out
 have hnc48 := NB329_343.out
 have hnb49 := NB343_330.out
 have hnc49 := NB330_343.out
 have hnb50 := NB343_342.out
 have hnc50 := NB342_343.out
 have hnb51 := NB343_354.out
 have hnc51 := NB354_343.out
 have hnb52 := NB343_355.out
 have hnc52 := NB355_343.out
 have hcz53_0 : w46.cell? ⟨gb343, 0, none⟩ = some (.int .i64 t337) := (blk_cell BK343.out 0).trans rfl
 have hcz53_1 : w46.cell? ⟨gb343, 1, none⟩ = some (.int .i64 t338) := (blk_cell BK343.out 1).trans rfl
 have hcz53_2 : w46.cell? ⟨gb343, 2, none⟩ = some (.slice Ao29 t339.length co29) := (blk_cell BK343.out 2).trans rfl
 have hfz53_0 := blk_frozen BK343.out 0
 have hfz53_1 := blk_frozen BK343.out 1
 have hfz53_2 := blk_frozen BK343.out 2
 have hnb54 := NB342_328.out
 have hnc54 := NB328_342.out
 have hnb55 := NB342_329.out
 have hnc55 := NB329_342.out
 have hnb56 := NB342_330.out
 have hnc56 := NB330_342.out
 have hnb57 := NB342_354.out
 have hnc57 := NB354_342.out
 have hnb58 := NB342_355.out
 have hnc58 := NB355_342.out
 have hcz59_0 : w46.cell? ⟨gb342, 0, none⟩ = some (.int .i64 t332) := (blk_cell BK342.out 0).trans rfl
 have hcz59_1 : w46.cell? ⟨gb342, 1, none⟩ = some (.int .i64 t333) := (blk_cell BK342.out 1).trans rfl
 have hcz59_2 : w46.cell? ⟨gb342, 2, none⟩ = some (.slice Ao25 t334.length co25) := (blk_cell BK342.out 2).trans rfl
 have hfz59_0 := blk_frozen BK342.out 0
 have hfz59_1 := blk_frozen BK342.out 1
 have hfz59_2 := blk_frozen BK342.out 2
 refine formelaw14_ValueOrder.calls_b_b (hu24 := hu24) (hu25 := hu25) (A11 := A11) (HC12 := HC12) (NB328_330 := NB328_330) (NB330_328 := NB330_328) (NB329_330 := NB329_330) (NB330_329 := NB330_329) (NB330_342 := NB330_342) (NB342_330 := NB342_330) (NB330_343 := NB330_343) (NB343_330 := NB343_330) (hns23_0 := hns23_0) (hns23_1 := hns23_1) (hns23_2 := hns23_2) (hns23_4 := hns23_4) (hms23_0 := hms23_0) (hms23_1 := hms23_1) (hms23_2 := hms23_2) (hms23_4 := hms23_4) (hns24_0 := hns24_0) (hns24_1 := hns24_1) (hns24_2 := hns24_2) (hns24_4 := hns24_4) (hms24_0 := hms24_0) (hms24_1 := hms24_1) (hms24_2 := hms24_2) (hms24_4 := hms24_4) (hns26_0 := hns26_0) (hns26_1 := hns26_1) (hns26_2 := hns26_2) (hns26_4 := hns26_4) (hms26_0 := hms26_0) (hms26_1 := hms26_1) (hms26_2 := hms26_2) (hms26_4 := hms26_4) (hns27_0 := hns27_0) (hns27_1 := hns27_1) (hns27_2 := hns27_2) (hns27_3 := hns27_3) (hms27_0 := hms27_0) (hms27_1 := hms27_1) (hms27_2 := hms27_2) (hms27_3 := hms27_3) (hns28_0 := hns28_0) (hns28_1 := hns28_1) (hns28_2 := hns28_2) (hns28_3 := hns28_3) (hms28_0 := hms28_0) (hms28_1 := hms28_1) (hms28_2 := hms28_2) (hms28_3 := hms28_3) (hns30_0 := hns30_0) (hns30_1 := hns30_1) (hns30_2 := hns30_2) (hns30_3 := hns30_3) (hms30_0 := hms30_0) (hms30_1 := hms30_1) (hms30_2 := hms30_2) (hms30_3 := hms30_3) (az_ := az_) (NB328_354 := NB328_354) (NB354_328 := NB354_328) (NB329_354 := NB329_354) (NB354_329 := NB354_329) (NB330_354 := NB330_354) (NB354_330 := NB354_330) (NB342_354 := NB342_354) (NB354_342 := NB354_342) (NB343_354 := NB343_354) (NB354_343 := NB354_343) (NB355_354 := NB355_354) (NB354_355 := NB354_355) (NB328_355 := NB328_355) (NB355_328 := NB355_328) (NB329_355 := NB329_355) (NB355_329 := NB355_329) (NB330_355 := NB330_355) (NB355_330 := NB355_330) (NB342_355 := NB342_355) (NB355_342 := NB355_342) (NB343_355 := NB343_355) (NB355_343 := NB355_343) (hns38_0 := hns38_0) (hns38_1 := hns38_1) (hns38_2 := hns38_2) (hns38_3 := hns38_3) (hns38_4 := hns38_4) (hns38_6 := hns38_6) (hms38_0 := hms38_0) (hms38_1 := hms38_1) (hms38_2 := hms38_2) (hms38_3 := hms38_3) (hms38_4 := hms38_4) (hms38_6 := hms38_6) (hns39_0 := hns39_0) (hns39_1 := hns39_1) (hns39_2 := hns39_2) (hns39_3 := hns39_3) (hns39_4 := hns39_4) (hns39_6 := hns39_6) (hms39_0 := hms39_0) (hms39_1 := hms39_1) (hms39_2 := hms39_2) (hms39_3 := hms39_3) (hms39_4 := hms39_4) (hms39_6 := hms39_6) (hns41_0 := hns41_0) (hns41_1 := hns41_1) (hns41_2 := hns41_2) (hns41_3 := hns41_3) (hns41_4 := hns41_4) (hns41_6 := hns41_6) (hms41_0 := hms41_0) (hms41_1 := hms41_1) (hms41_2 := hms41_2) (hms41_3 := hms41_3) (hms41_4 := hms41_4) (hms41_6 := hms41_6) (hns42_0 := hns42_0) (hns42_1 := hns42_1) (hns42_2 := hns42_2) (hns42_3 := hns42_3) (hns42_4 := hns42_4) (hns42_5 := hns42_5) (hms42_0 := hms42_0) (hms42_1 := hms42_1) (hms42_2 := hms42_2) (hms42_3 := hms42_3) (hms42_4 := hms42_4) (hms42_5 := hms42_5) (hns43_0 := hns43_0) (hns43_1 := hns43_1) (hns43_2 := hns43_2) (hns43_3 := hns43_3) (hns43_4 := hns43_4) (hns43_5 := hns43_5) (hms43_0 := hms43_0) (hms43_1 := hms43_1) (hms43_2 := hms43_2) (hms43_3 := hms43_3) (hms43_4 := hms43_4) (hms43_5 := hms43_5) (hns45_0 := hns45_0) (hns45_1 := hns45_1) (hns45_2 := hns45_2) (hns45_3 := hns45_3) (hns45_4 := hns45_4) (hns45_5 := hns45_5) (hms45_0 := hms45_0) (hms45_1 := hms45_1) (hms45_2 := hms45_2) (hms45_3 := hms45_3) (hms45_4 := hms45_4) (hms45_5 := hms45_5) (HO336 := HO336) (HO341 := HO341) (HO348 := HO348) (HO353 := HO353) (BK328 := BK328) (BK329 := BK329) (BK330 := BK330) (BK342 := BK342) (BK343 := BK343) (BK354 := BK354) (BK355 := BK355) (HB := HB) (hnb47 := hnb47) (hnc47 := hnc47) (hnb48 := hnb48) (hnc48 := hnc48) (hnb49 := hnb49) (hnc49 := hnc49) (hnb50 := hnb50) (hnc50 := hnc50) (hnb51 := hnb51) (hnc51 := hnc51) (hnb52 := hnb52) (hnc52 := hnc52) (hcz53_0 := hcz53_0) (hcz53_1 := hcz53_1) (hcz53_2 := hcz53_2) (hfz53_0 := hfz53_0) (hfz53_1 := hfz53_1) (hfz53_2 := hfz53_2) (hnb54 := hnb54) (hnc54 := hnc54) (hnb55 := hnb55) (hnc55 := hnc55) (hnb56 := hnb56) (hnc56 := hnc56) (hnb57 := hnb57) (hnc57 := hnc57) (hnb58 := hnb58) (hnc58 := hnc58) (hcz59_0 := hcz59_0) (hcz59_1 := hcz59_1) (hcz59_2 := hcz59_2) (hfz59_0 := hfz59_0) (hfz59_1 := hfz59_1) (hfz59_2 := hfz59_2)
end Go.Proofs.Ytdigjjncoeaiiaa.PAll
