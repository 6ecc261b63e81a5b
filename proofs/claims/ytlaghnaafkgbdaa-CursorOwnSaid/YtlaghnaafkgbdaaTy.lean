import Derived.Test.YtlaghnaafkgbdaaLf
import Derived.Test.YtlaghnaafkgbdaaChecked
import Derived.KernelRfl
set_option linter.unusedVariables false
namespace Go.Proofs.Ytlaghnaafkgbdaa
open Go Go.Lf Go.Proofs
theorem mixed : Try.prog.follows .mixedOrders = true := Try.checked.mixed
@[go_sem] theorem ce1 : Try.prog.cellsOf 1 = 1 := by kernel_rfl
@[go_sem] theorem ce2 : Try.prog.cellsOf 2 = 1 := by kernel_rfl
theorem zv2 : (Try.prog.info? 2).bind (fun i => i.zero.map fun z => z.cells.toList) = some (Value.cells (Value.int IntKind.i64 0)).toList := by kernel_rfl
theorem eo2 : EO Try.prog 2 1 8 (Value.int IntKind.i64 0) := ⟨by kernel_rfl, rfl, by decide⟩
@[go_sem] theorem ce3 : Try.prog.cellsOf 3 = 1 := by kernel_rfl
theorem zv3 : (Try.prog.info? 3).bind (fun i => i.zero.map fun z => z.cells.toList) = some (Value.cells (Value.int IntKind.i64 0)).toList := by kernel_rfl
theorem eo3 : EO Try.prog 3 1 8 (Value.int IntKind.i64 0) := ⟨by kernel_rfl, rfl, by decide⟩
@[go_sem] theorem ce4 : Try.prog.cellsOf 4 = 1 := by kernel_rfl
theorem zv4 : (Try.prog.info? 4).bind (fun i => i.zero.map fun z => z.cells.toList) = some (Value.cells (Value.bool false)).toList := by kernel_rfl
theorem eo4 : EO Try.prog 4 1 1 (Value.bool false) := ⟨by kernel_rfl, rfl, by decide⟩
@[go_sem] theorem ce5 : Try.prog.cellsOf 5 = 1 := by kernel_rfl
theorem zv5 : (Try.prog.info? 5).bind (fun i => i.zero.map fun z => z.cells.toList) = some (Value.cells (Value.int IntKind.u8 0)).toList := by kernel_rfl
theorem eo5 : EO Try.prog 5 1 1 (Value.int IntKind.u8 0) := ⟨by kernel_rfl, rfl, by decide⟩
@[go_sem] theorem ce6 : Try.prog.cellsOf 6 = 1 := by kernel_rfl
theorem zv6 : (Try.prog.info? 6).bind (fun i => i.zero.map fun z => z.cells.toList) = some (Value.cells (Value.int IntKind.u8 0)).toList := by kernel_rfl
theorem eo6 : EO Try.prog 6 1 1 (Value.int IntKind.u8 0) := ⟨by kernel_rfl, rfl, by decide⟩
@[go_sem] theorem ce7 : Try.prog.cellsOf 7 = 4 := by kernel_rfl
theorem zv7 : (Try.prog.info? 7).bind (fun i => i.zero.map fun z => z.cells.toList) = some (Value.cells (Value.agg #[Value.int IntKind.i64 0, Value.int IntKind.i64 0, Value.bool false, Value.int IntKind.u8 0])).toList := by kernel_rfl
theorem eo7 : EO Try.prog 7 4 24 (Value.agg #[Value.int IntKind.i64 0, Value.int IntKind.i64 0, Value.bool false, Value.int IntKind.u8 0]) := ⟨by kernel_rfl, rfl, by decide⟩
theorem bd7 : BD Try.prog 7 (Value.cells (Value.agg #[Value.int IntKind.i64 0, Value.int IntKind.i64 0, Value.bool false, Value.int IntKind.u8 0])).toList [(0, 1), (1, 1), (2, 1), (3, 1)] := ⟨by kernel_rfl, by kernel_rfl, by kernel_rfl⟩
theorem eg7 : Try.prog.eqGuardType Try.prog.depth 7 = false := by kernel_rfl
@[go_sem] theorem ce8 : Try.prog.cellsOf 8 = 4 := by kernel_rfl
theorem zv8 : (Try.prog.info? 8).bind (fun i => i.zero.map fun z => z.cells.toList) = some (Value.cells (Value.agg #[Value.int IntKind.i64 0, Value.int IntKind.i64 0, Value.bool false, Value.int IntKind.u8 0])).toList := by kernel_rfl
theorem eo8 : EO Try.prog 8 4 24 (Value.agg #[Value.int IntKind.i64 0, Value.int IntKind.i64 0, Value.bool false, Value.int IntKind.u8 0]) := ⟨by kernel_rfl, rfl, by decide⟩
theorem bd8 : BD Try.prog 8 (Value.cells (Value.agg #[Value.int IntKind.i64 0, Value.int IntKind.i64 0, Value.bool false, Value.int IntKind.u8 0])).toList [(0, 1), (1, 1), (2, 1), (3, 1)] := ⟨by kernel_rfl, by kernel_rfl, by kernel_rfl⟩
theorem eg8 : Try.prog.eqGuardType Try.prog.depth 8 = false := by kernel_rfl
@[go_sem] theorem ce9 : Try.prog.cellsOf 9 = 1 := by kernel_rfl
theorem zv9 : (Try.prog.info? 9).bind (fun i => i.zero.map fun z => z.cells.toList) = some (Value.cells (Value.string { data := #[] })).toList := by kernel_rfl
theorem eo9 : EO Try.prog 9 1 16 (Value.string { data := #[] }) := ⟨by kernel_rfl, rfl, by decide⟩
@[go_sem] theorem ce10 : Try.prog.cellsOf 10 = 1 := by kernel_rfl
theorem zv10 : (Try.prog.info? 10).bind (fun i => i.zero.map fun z => z.cells.toList) = some (Value.cells (Value.string { data := #[] })).toList := by kernel_rfl
theorem eo10 : EO Try.prog 10 1 16 (Value.string { data := #[] }) := ⟨by kernel_rfl, rfl, by decide⟩
@[go_sem] theorem ce11 : Try.prog.cellsOf 11 = 1 := by kernel_rfl
theorem zv11 : (Try.prog.info? 11).bind (fun i => i.zero.map fun z => z.cells.toList) = some (Value.cells (Value.string { data := #[] })).toList := by kernel_rfl
theorem eo11 : EO Try.prog 11 1 16 (Value.string { data := #[] }) := ⟨by kernel_rfl, rfl, by decide⟩
@[go_sem] theorem ce12 : Try.prog.cellsOf 12 = 1 := by kernel_rfl
theorem zv12 : (Try.prog.info? 12).bind (fun i => i.zero.map fun z => z.cells.toList) = some (Value.cells (Value.int IntKind.u64 0)).toList := by kernel_rfl
theorem eo12 : EO Try.prog 12 1 8 (Value.int IntKind.u64 0) := ⟨by kernel_rfl, rfl, by decide⟩
@[go_sem] theorem ce13 : Try.prog.cellsOf 13 = 2 := by kernel_rfl
theorem zv13 : (Try.prog.info? 13).bind (fun i => i.zero.map fun z => z.cells.toList) = some (Value.cells (Value.agg #[Value.string { data := #[] }, Value.int IntKind.u64 0])).toList := by kernel_rfl
theorem eo13 : EO Try.prog 13 2 24 (Value.agg #[Value.string { data := #[] }, Value.int IntKind.u64 0]) := ⟨by kernel_rfl, rfl, by decide⟩
theorem bd13 : BD Try.prog 13 (Value.cells (Value.agg #[Value.string { data := #[] }, Value.int IntKind.u64 0])).toList [(0, 1), (1, 1)] := ⟨by kernel_rfl, by kernel_rfl, by kernel_rfl⟩
theorem eg13 : Try.prog.eqGuardType Try.prog.depth 13 = false := by kernel_rfl
@[go_sem] theorem ce14 : Try.prog.cellsOf 14 = 2 := by kernel_rfl
theorem zv14 : (Try.prog.info? 14).bind (fun i => i.zero.map fun z => z.cells.toList) = some (Value.cells (Value.agg #[Value.string { data := #[] }, Value.int IntKind.u64 0])).toList := by kernel_rfl
theorem eo14 : EO Try.prog 14 2 24 (Value.agg #[Value.string { data := #[] }, Value.int IntKind.u64 0]) := ⟨by kernel_rfl, rfl, by decide⟩
theorem bd14 : BD Try.prog 14 (Value.cells (Value.agg #[Value.string { data := #[] }, Value.int IntKind.u64 0])).toList [(0, 1), (1, 1)] := ⟨by kernel_rfl, by kernel_rfl, by kernel_rfl⟩
theorem eg14 : Try.prog.eqGuardType Try.prog.depth 14 = false := by kernel_rfl
@[go_sem] theorem ce15 : Try.prog.cellsOf 15 = 1 := by kernel_rfl
theorem zv15 : (Try.prog.info? 15).bind (fun i => i.zero.map fun z => z.cells.toList) = some (Value.cells (Value.pointer none)).toList := by kernel_rfl
theorem eo15 : EO Try.prog 15 1 8 (Value.pointer none) := ⟨by kernel_rfl, rfl, by decide⟩
@[go_sem] theorem ce16 : Try.prog.cellsOf 16 = 1 := by kernel_rfl
theorem zv16 : (Try.prog.info? 16).bind (fun i => i.zero.map fun z => z.cells.toList) = some (Value.cells (Value.pointer none)).toList := by kernel_rfl
theorem eo16 : EO Try.prog 16 1 8 (Value.pointer none) := ⟨by kernel_rfl, rfl, by decide⟩
@[go_sem] theorem ce17 : Try.prog.cellsOf 17 = 1 := by kernel_rfl
theorem zv17 : (Try.prog.info? 17).bind (fun i => i.zero.map fun z => z.cells.toList) = some (Value.cells (Value.pointer none)).toList := by kernel_rfl
theorem eo17 : EO Try.prog 17 1 8 (Value.pointer none) := ⟨by kernel_rfl, rfl, by decide⟩
@[go_sem] theorem ce18 : Try.prog.cellsOf 18 = 1 := by kernel_rfl
theorem zv18 : (Try.prog.info? 18).bind (fun i => i.zero.map fun z => z.cells.toList) = some (Value.cells (Value.agg #[Value.pointer none])).toList := by kernel_rfl
theorem eo18 : EO Try.prog 18 1 8 (Value.agg #[Value.pointer none]) := ⟨by kernel_rfl, rfl, by decide⟩
theorem bd18 : BD Try.prog 18 (Value.cells (Value.agg #[Value.pointer none])).toList [(0, 1)] := ⟨by kernel_rfl, by kernel_rfl, by kernel_rfl⟩
theorem eg18 : Try.prog.eqGuardType Try.prog.depth 18 = false := by kernel_rfl
@[go_sem] theorem ce19 : Try.prog.cellsOf 19 = 1 := by kernel_rfl
theorem zv19 : (Try.prog.info? 19).bind (fun i => i.zero.map fun z => z.cells.toList) = some (Value.cells (Value.agg #[Value.pointer none])).toList := by kernel_rfl
theorem eo19 : EO Try.prog 19 1 8 (Value.agg #[Value.pointer none]) := ⟨by kernel_rfl, rfl, by decide⟩
theorem bd19 : BD Try.prog 19 (Value.cells (Value.agg #[Value.pointer none])).toList [(0, 1)] := ⟨by kernel_rfl, by kernel_rfl, by kernel_rfl⟩
theorem eg19 : Try.prog.eqGuardType Try.prog.depth 19 = false := by kernel_rfl
@[go_sem] theorem ce20 : Try.prog.cellsOf 20 = 1 := by kernel_rfl
theorem zv20 : (Try.prog.info? 20).bind (fun i => i.zero.map fun z => z.cells.toList) = some (Value.cells (Value.nilIface)).toList := by kernel_rfl
theorem eo20 : EO Try.prog 20 1 16 (Value.nilIface) := ⟨by kernel_rfl, rfl, by decide⟩
@[go_sem] theorem ce21 : Try.prog.cellsOf 21 = 1 := by kernel_rfl
theorem zv21 : (Try.prog.info? 21).bind (fun i => i.zero.map fun z => z.cells.toList) = some (Value.cells (Value.int IntKind.i32 0)).toList := by kernel_rfl
theorem eo21 : EO Try.prog 21 1 4 (Value.int IntKind.i32 0) := ⟨by kernel_rfl, rfl, by decide⟩
@[go_sem] theorem ce22 : Try.prog.cellsOf 22 = 1 := by kernel_rfl
theorem zv22 : (Try.prog.info? 22).bind (fun i => i.zero.map fun z => z.cells.toList) = some (Value.cells (Value.slice none 0 0)).toList := by kernel_rfl
theorem eo22 : EO Try.prog 22 1 24 (Value.slice none 0 0) := ⟨by kernel_rfl, rfl, by decide⟩
@[go_sem] theorem ce23 : Try.prog.cellsOf 23 = 1 := by kernel_rfl
@[go_sem] theorem ce24 : Try.prog.cellsOf 24 = 1 := by kernel_rfl
theorem zv24 : (Try.prog.info? 24).bind (fun i => i.zero.map fun z => z.cells.toList) = some (Value.cells (Value.int IntKind.i64 0)).toList := by kernel_rfl
theorem eo24 : EO Try.prog 24 1 8 (Value.int IntKind.i64 0) := ⟨by kernel_rfl, rfl, by decide⟩
@[go_sem] theorem ce26 : Try.prog.cellsOf 26 = 1 := by kernel_rfl
@[go_sem] theorem ce27 : Try.prog.cellsOf 27 = 1 := by kernel_rfl
@[go_sem] theorem ce28 : Try.prog.cellsOf 28 = 1 := by kernel_rfl
@[go_sem] theorem ce30 : Try.prog.cellsOf 30 = 1 := by kernel_rfl
@[go_sem] theorem ce31 : Try.prog.cellsOf 31 = 1 := by kernel_rfl
@[go_sem] theorem ce32 : Try.prog.cellsOf 32 = 1 := by kernel_rfl
@[go_sem] theorem ce34 : Try.prog.cellsOf 34 = 1 := by kernel_rfl
@[go_sem] theorem ce35 : Try.prog.cellsOf 35 = 1 := by kernel_rfl
@[go_sem] theorem ce36 : Try.prog.cellsOf 36 = 1 := by kernel_rfl
@[go_sem] theorem ce37 : Try.prog.cellsOf 37 = 1 := by kernel_rfl
theorem zv37 : (Try.prog.info? 37).bind (fun i => i.zero.map fun z => z.cells.toList) = some (Value.cells (Value.pointer none)).toList := by kernel_rfl
theorem eo37 : EO Try.prog 37 1 8 (Value.pointer none) := ⟨by kernel_rfl, rfl, by decide⟩
@[go_sem] theorem ce38 : Try.prog.cellsOf 38 = 1 := by kernel_rfl
@[go_sem] theorem ce39 : Try.prog.cellsOf 39 = 1 := by kernel_rfl
@[go_sem] theorem ce40 : Try.prog.cellsOf 40 = 1 := by kernel_rfl
@[go_sem] theorem ce41 : Try.prog.cellsOf 41 = 3 := by kernel_rfl
theorem zv41 : (Try.prog.info? 41).bind (fun i => i.zero.map fun z => z.cells.toList) = some (Value.cells (Value.agg #[Value.string { data := #[] }, Value.string { data := #[] }, Value.bool false])).toList := by kernel_rfl
theorem eo41 : EO Try.prog 41 3 40 (Value.agg #[Value.string { data := #[] }, Value.string { data := #[] }, Value.bool false]) := ⟨by kernel_rfl, rfl, by decide⟩
theorem bd41 : BD Try.prog 41 (Value.cells (Value.agg #[Value.string { data := #[] }, Value.string { data := #[] }, Value.bool false])).toList [(0, 1), (1, 1), (2, 1)] := ⟨by kernel_rfl, by kernel_rfl, by kernel_rfl⟩
theorem eg41 : Try.prog.eqGuardType Try.prog.depth 41 = false := by kernel_rfl
@[go_sem] theorem ce42 : Try.prog.cellsOf 42 = 3 := by kernel_rfl
theorem zv42 : (Try.prog.info? 42).bind (fun i => i.zero.map fun z => z.cells.toList) = some (Value.cells (Value.agg #[Value.string { data := #[] }, Value.string { data := #[] }, Value.bool false])).toList := by kernel_rfl
theorem eo42 : EO Try.prog 42 3 40 (Value.agg #[Value.string { data := #[] }, Value.string { data := #[] }, Value.bool false]) := ⟨by kernel_rfl, rfl, by decide⟩
theorem bd42 : BD Try.prog 42 (Value.cells (Value.agg #[Value.string { data := #[] }, Value.string { data := #[] }, Value.bool false])).toList [(0, 1), (1, 1), (2, 1)] := ⟨by kernel_rfl, by kernel_rfl, by kernel_rfl⟩
@[go_sem] theorem sh42 : Try.prog.stoodInHeld 42 = false := by kernel_rfl
theorem eg42 : Try.prog.eqGuardType Try.prog.depth 42 = false := by kernel_rfl
@[go_sem] theorem ce44 : Try.prog.cellsOf 44 = 1 := by kernel_rfl
@[go_sem] theorem ce45 : Try.prog.cellsOf 45 = 1 := by kernel_rfl
@[go_sem] theorem ce46 : Try.prog.cellsOf 46 = 1 := by kernel_rfl
@[go_sem] theorem ce47 : Try.prog.cellsOf 47 = 1 := by kernel_rfl
@[go_sem] theorem ce48 : Try.prog.cellsOf 48 = 1 := by kernel_rfl
theorem zv48 : (Try.prog.info? 48).bind (fun i => i.zero.map fun z => z.cells.toList) = some (Value.cells (Value.slice none 0 0)).toList := by kernel_rfl
theorem eo48 : EO Try.prog 48 1 24 (Value.slice none 0 0) := ⟨by kernel_rfl, rfl, by decide⟩
@[go_sem] theorem ce49 : Try.prog.cellsOf 49 = 1 := by kernel_rfl
theorem zv49 : (Try.prog.info? 49).bind (fun i => i.zero.map fun z => z.cells.toList) = some (Value.cells (Value.pointer none)).toList := by kernel_rfl
theorem eo49 : EO Try.prog 49 1 8 (Value.pointer none) := ⟨by kernel_rfl, rfl, by decide⟩
@[go_sem] theorem ce50 : Try.prog.cellsOf 50 = 1 := by kernel_rfl
@[go_sem] theorem ce51 : Try.prog.cellsOf 51 = 1 := by kernel_rfl
@[go_sem] theorem ce52 : Try.prog.cellsOf 52 = 1 := by kernel_rfl
@[go_sem] theorem ce54 : Try.prog.cellsOf 54 = 1 := by kernel_rfl
@[go_sem] theorem ce55 : Try.prog.cellsOf 55 = 1 := by kernel_rfl
@[go_sem] theorem ce56 : Try.prog.cellsOf 56 = 1 := by kernel_rfl
@[go_sem] theorem ce57 : Try.prog.cellsOf 57 = 1 := by kernel_rfl
@[go_sem] theorem ce58 : Try.prog.cellsOf 58 = 1 := by kernel_rfl
theorem zv58 : (Try.prog.info? 58).bind (fun i => i.zero.map fun z => z.cells.toList) = some (Value.cells (Value.slice none 0 0)).toList := by kernel_rfl
theorem eo58 : EO Try.prog 58 1 24 (Value.slice none 0 0) := ⟨by kernel_rfl, rfl, by decide⟩
@[go_sem] theorem ce59 : Try.prog.cellsOf 59 = 2 := by kernel_rfl
theorem zv59 : (Try.prog.info? 59).bind (fun i => i.zero.map fun z => z.cells.toList) = some (Value.cells (Value.agg #[Value.slice none 0 0, Value.int IntKind.i64 0])).toList := by kernel_rfl
theorem eo59 : EO Try.prog 59 2 32 (Value.agg #[Value.slice none 0 0, Value.int IntKind.i64 0]) := ⟨by kernel_rfl, rfl, by decide⟩
theorem bd59 : BD Try.prog 59 (Value.cells (Value.agg #[Value.slice none 0 0, Value.int IntKind.i64 0])).toList [(0, 1), (1, 1)] := ⟨by kernel_rfl, by kernel_rfl, by kernel_rfl⟩
theorem eg59 : Try.prog.eqGuardType Try.prog.depth 59 = false := by kernel_rfl
@[go_sem] theorem ce60 : Try.prog.cellsOf 60 = 2 := by kernel_rfl
theorem zv60 : (Try.prog.info? 60).bind (fun i => i.zero.map fun z => z.cells.toList) = some (Value.cells (Value.agg #[Value.slice none 0 0, Value.int IntKind.i64 0])).toList := by kernel_rfl
theorem eo60 : EO Try.prog 60 2 32 (Value.agg #[Value.slice none 0 0, Value.int IntKind.i64 0]) := ⟨by kernel_rfl, rfl, by decide⟩
theorem bd60 : BD Try.prog 60 (Value.cells (Value.agg #[Value.slice none 0 0, Value.int IntKind.i64 0])).toList [(0, 1), (1, 1)] := ⟨by kernel_rfl, by kernel_rfl, by kernel_rfl⟩
@[go_sem] theorem sh60 : Try.prog.stoodInHeld 60 = false := by kernel_rfl
theorem eg60 : Try.prog.eqGuardType Try.prog.depth 60 = false := by kernel_rfl
@[go_sem] theorem ce61 : Try.prog.cellsOf 61 = 2 := by kernel_rfl
theorem zv61 : (Try.prog.info? 61).bind (fun i => i.zero.map fun z => z.cells.toList) = some (Value.cells (Value.agg #[Value.int IntKind.i64 0, Value.int IntKind.i64 0])).toList := by kernel_rfl
theorem eo61 : EO Try.prog 61 2 16 (Value.agg #[Value.int IntKind.i64 0, Value.int IntKind.i64 0]) := ⟨by kernel_rfl, rfl, by decide⟩
theorem bd61 : BD Try.prog 61 (Value.cells (Value.agg #[Value.int IntKind.i64 0, Value.int IntKind.i64 0])).toList [(0, 1), (1, 1)] := ⟨by kernel_rfl, by kernel_rfl, by kernel_rfl⟩
theorem eg61 : Try.prog.eqGuardType Try.prog.depth 61 = false := by kernel_rfl
@[go_sem] theorem ce62 : Try.prog.cellsOf 62 = 2 := by kernel_rfl
theorem zv62 : (Try.prog.info? 62).bind (fun i => i.zero.map fun z => z.cells.toList) = some (Value.cells (Value.agg #[Value.int IntKind.i64 0, Value.int IntKind.i64 0])).toList := by kernel_rfl
theorem eo62 : EO Try.prog 62 2 16 (Value.agg #[Value.int IntKind.i64 0, Value.int IntKind.i64 0]) := ⟨by kernel_rfl, rfl, by decide⟩
theorem bd62 : BD Try.prog 62 (Value.cells (Value.agg #[Value.int IntKind.i64 0, Value.int IntKind.i64 0])).toList [(0, 1), (1, 1)] := ⟨by kernel_rfl, by kernel_rfl, by kernel_rfl⟩
@[go_sem] theorem sh62 : Try.prog.stoodInHeld 62 = false := by kernel_rfl
theorem eg62 : Try.prog.eqGuardType Try.prog.depth 62 = false := by kernel_rfl
@[go_sem] theorem ce63 : Try.prog.cellsOf 63 = 1 := by kernel_rfl
@[go_sem] theorem ce64 : Try.prog.cellsOf 64 = 1 := by kernel_rfl
@[go_sem] theorem ce65 : Try.prog.cellsOf 65 = 1 := by kernel_rfl
theorem zv65 : (Try.prog.info? 65).bind (fun i => i.zero.map fun z => z.cells.toList) = some (Value.cells (Value.slice none 0 0)).toList := by kernel_rfl
theorem eo65 : EO Try.prog 65 1 24 (Value.slice none 0 0) := ⟨by kernel_rfl, rfl, by decide⟩
@[go_sem] theorem ce66 : Try.prog.cellsOf 66 = 2 := by kernel_rfl
theorem zv66 : (Try.prog.info? 66).bind (fun i => i.zero.map fun z => z.cells.toList) = some (Value.cells (Value.agg #[Value.int IntKind.i64 0, Value.int IntKind.i64 0])).toList := by kernel_rfl
theorem eo66 : EO Try.prog 66 2 16 (Value.agg #[Value.int IntKind.i64 0, Value.int IntKind.i64 0]) := ⟨by kernel_rfl, rfl, by decide⟩
theorem bd66 : BD Try.prog 66 (Value.cells (Value.agg #[Value.int IntKind.i64 0, Value.int IntKind.i64 0])).toList [(0, 1), (1, 1)] := ⟨by kernel_rfl, by kernel_rfl, by kernel_rfl⟩
theorem eg66 : Try.prog.eqGuardType Try.prog.depth 66 = false := by kernel_rfl
@[go_sem] theorem ce67 : Try.prog.cellsOf 67 = 2 := by kernel_rfl
theorem zv67 : (Try.prog.info? 67).bind (fun i => i.zero.map fun z => z.cells.toList) = some (Value.cells (Value.agg #[Value.int IntKind.i64 0, Value.int IntKind.i64 0])).toList := by kernel_rfl
theorem eo67 : EO Try.prog 67 2 16 (Value.agg #[Value.int IntKind.i64 0, Value.int IntKind.i64 0]) := ⟨by kernel_rfl, rfl, by decide⟩
theorem bd67 : BD Try.prog 67 (Value.cells (Value.agg #[Value.int IntKind.i64 0, Value.int IntKind.i64 0])).toList [(0, 1), (1, 1)] := ⟨by kernel_rfl, by kernel_rfl, by kernel_rfl⟩
@[go_sem] theorem sh67 : Try.prog.stoodInHeld 67 = false := by kernel_rfl
theorem eg67 : Try.prog.eqGuardType Try.prog.depth 67 = false := by kernel_rfl
@[go_sem] theorem ce69 : Try.prog.cellsOf 69 = 1 := by kernel_rfl
@[go_sem] theorem ce71 : Try.prog.cellsOf 71 = 1 := by kernel_rfl
@[go_sem] theorem ce72 : Try.prog.cellsOf 72 = 1 := by kernel_rfl
@[go_sem] theorem ce73 : Try.prog.cellsOf 73 = 2 := by kernel_rfl
theorem zv73 : (Try.prog.info? 73).bind (fun i => i.zero.map fun z => z.cells.toList) = some (Value.cells (Value.agg #[Value.slice none 0 0, Value.int IntKind.i64 0])).toList := by kernel_rfl
theorem eo73 : EO Try.prog 73 2 32 (Value.agg #[Value.slice none 0 0, Value.int IntKind.i64 0]) := ⟨by kernel_rfl, rfl, by decide⟩
theorem bd73 : BD Try.prog 73 (Value.cells (Value.agg #[Value.slice none 0 0, Value.int IntKind.i64 0])).toList [(0, 1), (1, 1)] := ⟨by kernel_rfl, by kernel_rfl, by kernel_rfl⟩
theorem eg73 : Try.prog.eqGuardType Try.prog.depth 73 = false := by kernel_rfl
@[go_sem] theorem ce74 : Try.prog.cellsOf 74 = 2 := by kernel_rfl
theorem zv74 : (Try.prog.info? 74).bind (fun i => i.zero.map fun z => z.cells.toList) = some (Value.cells (Value.agg #[Value.slice none 0 0, Value.int IntKind.i64 0])).toList := by kernel_rfl
theorem eo74 : EO Try.prog 74 2 32 (Value.agg #[Value.slice none 0 0, Value.int IntKind.i64 0]) := ⟨by kernel_rfl, rfl, by decide⟩
theorem bd74 : BD Try.prog 74 (Value.cells (Value.agg #[Value.slice none 0 0, Value.int IntKind.i64 0])).toList [(0, 1), (1, 1)] := ⟨by kernel_rfl, by kernel_rfl, by kernel_rfl⟩
@[go_sem] theorem sh74 : Try.prog.stoodInHeld 74 = false := by kernel_rfl
theorem eg74 : Try.prog.eqGuardType Try.prog.depth 74 = false := by kernel_rfl
@[go_sem] theorem ce75 : Try.prog.cellsOf 75 = 1 := by kernel_rfl
@[go_sem] theorem ce76 : Try.prog.cellsOf 76 = 1 := by kernel_rfl
theorem zv76 : (Try.prog.info? 76).bind (fun i => i.zero.map fun z => z.cells.toList) = some (Value.cells (Value.pointer none)).toList := by kernel_rfl
theorem eo76 : EO Try.prog 76 1 8 (Value.pointer none) := ⟨by kernel_rfl, rfl, by decide⟩
@[go_sem] theorem ce78 : Try.prog.cellsOf 78 = 1 := by kernel_rfl
@[go_sem] theorem ce79 : Try.prog.cellsOf 79 = 1 := by kernel_rfl
@[go_sem] theorem ce80 : Try.prog.cellsOf 80 = 1 := by kernel_rfl
theorem zv80 : (Try.prog.info? 80).bind (fun i => i.zero.map fun z => z.cells.toList) = some (Value.cells (Value.int IntKind.u64 0)).toList := by kernel_rfl
theorem eo80 : EO Try.prog 80 1 8 (Value.int IntKind.u64 0) := ⟨by kernel_rfl, rfl, by decide⟩
@[go_sem] theorem ce81 : Try.prog.cellsOf 81 = 1 := by kernel_rfl
@[go_sem] theorem ce82 : Try.prog.cellsOf 82 = 1 := by kernel_rfl
@[go_sem] theorem ce83 : Try.prog.cellsOf 83 = 1 := by kernel_rfl
@[go_sem] theorem ce84 : Try.prog.cellsOf 84 = 2 := by kernel_rfl
theorem zv84 : (Try.prog.info? 84).bind (fun i => i.zero.map fun z => z.cells.toList) = some (Value.cells (Value.agg #[Value.string { data := #[] }, Value.string { data := #[] }])).toList := by kernel_rfl
theorem eo84 : EO Try.prog 84 2 32 (Value.agg #[Value.string { data := #[] }, Value.string { data := #[] }]) := ⟨by kernel_rfl, rfl, by decide⟩
theorem bd84 : BD Try.prog 84 (Value.cells (Value.agg #[Value.string { data := #[] }, Value.string { data := #[] }])).toList [(0, 1), (1, 1)] := ⟨by kernel_rfl, by kernel_rfl, by kernel_rfl⟩
theorem eg84 : Try.prog.eqGuardType Try.prog.depth 84 = false := by kernel_rfl
@[go_sem] theorem ce85 : Try.prog.cellsOf 85 = 28 := by kernel_rfl
theorem zv85 : (Try.prog.info? 85).bind (fun i => i.zero.map fun z => z.cells.toList) = some (Value.cells (Value.agg #[Value.string { data := #[] }, Value.string { data := #[] }, Value.string { data := #[] }, Value.string { data := #[] }, Value.string { data := #[] }, Value.string { data := #[] }, Value.string { data := #[] }, Value.string { data := #[] }, Value.string { data := #[] }, Value.string { data := #[] }, Value.string { data := #[] }, Value.string { data := #[] }, Value.string { data := #[] }, Value.string { data := #[] }, Value.string { data := #[] }, Value.string { data := #[] }, Value.string { data := #[] }, Value.string { data := #[] }, Value.string { data := #[] }, Value.string { data := #[] }, Value.string { data := #[] }, Value.string { data := #[] }, Value.string { data := #[] }, Value.string { data := #[] }, Value.string { data := #[] }, Value.string { data := #[] }, Value.string { data := #[] }, Value.string { data := #[] }])).toList := by kernel_rfl
theorem eo85 : EO Try.prog 85 28 448 (Value.agg #[Value.string { data := #[] }, Value.string { data := #[] }, Value.string { data := #[] }, Value.string { data := #[] }, Value.string { data := #[] }, Value.string { data := #[] }, Value.string { data := #[] }, Value.string { data := #[] }, Value.string { data := #[] }, Value.string { data := #[] }, Value.string { data := #[] }, Value.string { data := #[] }, Value.string { data := #[] }, Value.string { data := #[] }, Value.string { data := #[] }, Value.string { data := #[] }, Value.string { data := #[] }, Value.string { data := #[] }, Value.string { data := #[] }, Value.string { data := #[] }, Value.string { data := #[] }, Value.string { data := #[] }, Value.string { data := #[] }, Value.string { data := #[] }, Value.string { data := #[] }, Value.string { data := #[] }, Value.string { data := #[] }, Value.string { data := #[] }]) := ⟨by kernel_rfl, rfl, by decide⟩
theorem bd85 : BD Try.prog 85 (Value.cells (Value.agg #[Value.string { data := #[] }, Value.string { data := #[] }, Value.string { data := #[] }, Value.string { data := #[] }, Value.string { data := #[] }, Value.string { data := #[] }, Value.string { data := #[] }, Value.string { data := #[] }, Value.string { data := #[] }, Value.string { data := #[] }, Value.string { data := #[] }, Value.string { data := #[] }, Value.string { data := #[] }, Value.string { data := #[] }, Value.string { data := #[] }, Value.string { data := #[] }, Value.string { data := #[] }, Value.string { data := #[] }, Value.string { data := #[] }, Value.string { data := #[] }, Value.string { data := #[] }, Value.string { data := #[] }, Value.string { data := #[] }, Value.string { data := #[] }, Value.string { data := #[] }, Value.string { data := #[] }, Value.string { data := #[] }, Value.string { data := #[] }])).toList [(0, 2), (2, 2), (4, 2), (6, 2), (8, 2), (10, 2), (12, 2), (14, 2), (16, 2), (18, 2), (20, 2), (22, 2), (24, 2), (26, 2)] := ⟨by kernel_rfl, by kernel_rfl, by kernel_rfl⟩
theorem eg85 : Try.prog.eqGuardType Try.prog.depth 85 = false := by kernel_rfl
@[go_sem] theorem ce86 : Try.prog.cellsOf 86 = 1 := by kernel_rfl
@[go_sem] theorem ce87 : Try.prog.cellsOf 87 = 47 := by kernel_rfl
theorem zv87 : (Try.prog.info? 87).bind (fun i => i.zero.map fun z => z.cells.toList) = some (Value.cells (Value.agg #[Value.string { data := #[] }, Value.string { data := #[] }, Value.string { data := #[] }, Value.string { data := #[] }, Value.string { data := #[] }, Value.string { data := #[] }, Value.string { data := #[] }, Value.string { data := #[] }, Value.string { data := #[] }, Value.string { data := #[] }, Value.string { data := #[] }, Value.string { data := #[] }, Value.string { data := #[] }, Value.string { data := #[] }, Value.string { data := #[] }, Value.string { data := #[] }, Value.string { data := #[] }, Value.string { data := #[] }, Value.string { data := #[] }, Value.string { data := #[] }, Value.string { data := #[] }, Value.string { data := #[] }, Value.string { data := #[] }, Value.string { data := #[] }, Value.string { data := #[] }, Value.string { data := #[] }, Value.string { data := #[] }, Value.string { data := #[] }, Value.string { data := #[] }, Value.string { data := #[] }, Value.string { data := #[] }, Value.string { data := #[] }, Value.string { data := #[] }, Value.string { data := #[] }, Value.string { data := #[] }, Value.string { data := #[] }, Value.string { data := #[] }, Value.string { data := #[] }, Value.string { data := #[] }, Value.string { data := #[] }, Value.string { data := #[] }, Value.string { data := #[] }, Value.string { data := #[] }, Value.string { data := #[] }, Value.string { data := #[] }, Value.string { data := #[] }, Value.string { data := #[] }])).toList := by kernel_rfl
theorem eo87 : EO Try.prog 87 47 752 (Value.agg #[Value.string { data := #[] }, Value.string { data := #[] }, Value.string { data := #[] }, Value.string { data := #[] }, Value.string { data := #[] }, Value.string { data := #[] }, Value.string { data := #[] }, Value.string { data := #[] }, Value.string { data := #[] }, Value.string { data := #[] }, Value.string { data := #[] }, Value.string { data := #[] }, Value.string { data := #[] }, Value.string { data := #[] }, Value.string { data := #[] }, Value.string { data := #[] }, Value.string { data := #[] }, Value.string { data := #[] }, Value.string { data := #[] }, Value.string { data := #[] }, Value.string { data := #[] }, Value.string { data := #[] }, Value.string { data := #[] }, Value.string { data := #[] }, Value.string { data := #[] }, Value.string { data := #[] }, Value.string { data := #[] }, Value.string { data := #[] }, Value.string { data := #[] }, Value.string { data := #[] }, Value.string { data := #[] }, Value.string { data := #[] }, Value.string { data := #[] }, Value.string { data := #[] }, Value.string { data := #[] }, Value.string { data := #[] }, Value.string { data := #[] }, Value.string { data := #[] }, Value.string { data := #[] }, Value.string { data := #[] }, Value.string { data := #[] }, Value.string { data := #[] }, Value.string { data := #[] }, Value.string { data := #[] }, Value.string { data := #[] }, Value.string { data := #[] }, Value.string { data := #[] }]) := ⟨by kernel_rfl, rfl, by decide⟩
theorem bd87 : BD Try.prog 87 (Value.cells (Value.agg #[Value.string { data := #[] }, Value.string { data := #[] }, Value.string { data := #[] }, Value.string { data := #[] }, Value.string { data := #[] }, Value.string { data := #[] }, Value.string { data := #[] }, Value.string { data := #[] }, Value.string { data := #[] }, Value.string { data := #[] }, Value.string { data := #[] }, Value.string { data := #[] }, Value.string { data := #[] }, Value.string { data := #[] }, Value.string { data := #[] }, Value.string { data := #[] }, Value.string { data := #[] }, Value.string { data := #[] }, Value.string { data := #[] }, Value.string { data := #[] }, Value.string { data := #[] }, Value.string { data := #[] }, Value.string { data := #[] }, Value.string { data := #[] }, Value.string { data := #[] }, Value.string { data := #[] }, Value.string { data := #[] }, Value.string { data := #[] }, Value.string { data := #[] }, Value.string { data := #[] }, Value.string { data := #[] }, Value.string { data := #[] }, Value.string { data := #[] }, Value.string { data := #[] }, Value.string { data := #[] }, Value.string { data := #[] }, Value.string { data := #[] }, Value.string { data := #[] }, Value.string { data := #[] }, Value.string { data := #[] }, Value.string { data := #[] }, Value.string { data := #[] }, Value.string { data := #[] }, Value.string { data := #[] }, Value.string { data := #[] }, Value.string { data := #[] }, Value.string { data := #[] }])).toList [(0, 1), (1, 1), (2, 1), (3, 1), (4, 1), (5, 1), (6, 1), (7, 1), (8, 1), (9, 1), (10, 1), (11, 1), (12, 1), (13, 1), (14, 1), (15, 1), (16, 1), (17, 1), (18, 1), (19, 1), (20, 1), (21, 1), (22, 1), (23, 1), (24, 1), (25, 1), (26, 1), (27, 1), (28, 1), (29, 1), (30, 1), (31, 1), (32, 1), (33, 1), (34, 1), (35, 1), (36, 1), (37, 1), (38, 1), (39, 1), (40, 1), (41, 1), (42, 1), (43, 1), (44, 1), (45, 1), (46, 1)] := ⟨by kernel_rfl, by kernel_rfl, by kernel_rfl⟩
theorem eg87 : Try.prog.eqGuardType Try.prog.depth 87 = false := by kernel_rfl
@[go_sem] theorem ce88 : Try.prog.cellsOf 88 = 1 := by kernel_rfl
@[go_sem] theorem ce89 : Try.prog.cellsOf 89 = 1 := by kernel_rfl
@[go_sem] theorem ce90 : Try.prog.cellsOf 90 = 2 := by kernel_rfl
theorem zv90 : (Try.prog.info? 90).bind (fun i => i.zero.map fun z => z.cells.toList) = some (Value.cells (Value.agg #[Value.slice none 0 0, Value.int IntKind.i64 0])).toList := by kernel_rfl
theorem eo90 : EO Try.prog 90 2 32 (Value.agg #[Value.slice none 0 0, Value.int IntKind.i64 0]) := ⟨by kernel_rfl, rfl, by decide⟩
theorem bd90 : BD Try.prog 90 (Value.cells (Value.agg #[Value.slice none 0 0, Value.int IntKind.i64 0])).toList [(0, 1), (1, 1)] := ⟨by kernel_rfl, by kernel_rfl, by kernel_rfl⟩
theorem eg90 : Try.prog.eqGuardType Try.prog.depth 90 = false := by kernel_rfl
@[go_sem] theorem ce91 : Try.prog.cellsOf 91 = 2 := by kernel_rfl
theorem zv91 : (Try.prog.info? 91).bind (fun i => i.zero.map fun z => z.cells.toList) = some (Value.cells (Value.agg #[Value.slice none 0 0, Value.int IntKind.i64 0])).toList := by kernel_rfl
theorem eo91 : EO Try.prog 91 2 32 (Value.agg #[Value.slice none 0 0, Value.int IntKind.i64 0]) := ⟨by kernel_rfl, rfl, by decide⟩
theorem bd91 : BD Try.prog 91 (Value.cells (Value.agg #[Value.slice none 0 0, Value.int IntKind.i64 0])).toList [(0, 1), (1, 1)] := ⟨by kernel_rfl, by kernel_rfl, by kernel_rfl⟩
@[go_sem] theorem sh91 : Try.prog.stoodInHeld 91 = false := by kernel_rfl
theorem eg91 : Try.prog.eqGuardType Try.prog.depth 91 = false := by kernel_rfl
@[go_sem] theorem ce92 : Try.prog.cellsOf 92 = 1 := by kernel_rfl
@[go_sem] theorem ce93 : Try.prog.cellsOf 93 = 4 := by kernel_rfl
theorem zv93 : (Try.prog.info? 93).bind (fun i => i.zero.map fun z => z.cells.toList) = some (Value.cells (Value.agg #[Value.pointer none, Value.pointer none, Value.pointer none, Value.string { data := #[] }])).toList := by kernel_rfl
theorem eo93 : EO Try.prog 93 4 40 (Value.agg #[Value.pointer none, Value.pointer none, Value.pointer none, Value.string { data := #[] }]) := ⟨by kernel_rfl, rfl, by decide⟩
theorem bd93 : BD Try.prog 93 (Value.cells (Value.agg #[Value.pointer none, Value.pointer none, Value.pointer none, Value.string { data := #[] }])).toList [(0, 1), (1, 1), (2, 1), (3, 1)] := ⟨by kernel_rfl, by kernel_rfl, by kernel_rfl⟩
theorem eg93 : Try.prog.eqGuardType Try.prog.depth 93 = false := by kernel_rfl
@[go_sem] theorem ce94 : Try.prog.cellsOf 94 = 4 := by kernel_rfl
theorem zv94 : (Try.prog.info? 94).bind (fun i => i.zero.map fun z => z.cells.toList) = some (Value.cells (Value.agg #[Value.pointer none, Value.pointer none, Value.pointer none, Value.string { data := #[] }])).toList := by kernel_rfl
theorem eo94 : EO Try.prog 94 4 40 (Value.agg #[Value.pointer none, Value.pointer none, Value.pointer none, Value.string { data := #[] }]) := ⟨by kernel_rfl, rfl, by decide⟩
theorem bd94 : BD Try.prog 94 (Value.cells (Value.agg #[Value.pointer none, Value.pointer none, Value.pointer none, Value.string { data := #[] }])).toList [(0, 1), (1, 1), (2, 1), (3, 1)] := ⟨by kernel_rfl, by kernel_rfl, by kernel_rfl⟩
theorem eg94 : Try.prog.eqGuardType Try.prog.depth 94 = false := by kernel_rfl
@[go_sem] theorem ce95 : Try.prog.cellsOf 95 = 0 := by kernel_rfl
@[go_sem] theorem ce96 : Try.prog.cellsOf 96 = 0 := by kernel_rfl
@[go_sem] theorem ce97 : Try.prog.cellsOf 97 = 0 := by kernel_rfl
@[go_sem] theorem ce98 : Try.prog.cellsOf 98 = 1 := by kernel_rfl
theorem zv98 : (Try.prog.info? 98).bind (fun i => i.zero.map fun z => z.cells.toList) = some (Value.cells (Value.int IntKind.u32 0)).toList := by kernel_rfl
theorem eo98 : EO Try.prog 98 1 4 (Value.int IntKind.u32 0) := ⟨by kernel_rfl, rfl, by decide⟩
@[go_sem] theorem ce99 : Try.prog.cellsOf 99 = 1 := by kernel_rfl
theorem zv99 : (Try.prog.info? 99).bind (fun i => i.zero.map fun z => z.cells.toList) = some (Value.cells (Value.int IntKind.u8 0)).toList := by kernel_rfl
theorem eo99 : EO Try.prog 99 1 1 (Value.int IntKind.u8 0) := ⟨by kernel_rfl, rfl, by decide⟩
@[go_sem] theorem ce100 : Try.prog.cellsOf 100 = 1 := by kernel_rfl
theorem zv100 : (Try.prog.info? 100).bind (fun i => i.zero.map fun z => z.cells.toList) = some (Value.cells (Value.int IntKind.u8 0)).toList := by kernel_rfl
theorem eo100 : EO Try.prog 100 1 1 (Value.int IntKind.u8 0) := ⟨by kernel_rfl, rfl, by decide⟩
@[go_sem] theorem ce101 : Try.prog.cellsOf 101 = 1 := by kernel_rfl
@[go_sem] theorem ce102 : Try.prog.cellsOf 102 = 1 := by kernel_rfl
theorem zv102 : (Try.prog.info? 102).bind (fun i => i.zero.map fun z => z.cells.toList) = some (Value.cells (Value.pointer none)).toList := by kernel_rfl
theorem eo102 : EO Try.prog 102 1 8 (Value.pointer none) := ⟨by kernel_rfl, rfl, by decide⟩
@[go_sem] theorem ce103 : Try.prog.cellsOf 103 = 1 := by kernel_rfl
theorem zv103 : (Try.prog.info? 103).bind (fun i => i.zero.map fun z => z.cells.toList) = some (Value.cells (Value.int IntKind.i32 0)).toList := by kernel_rfl
theorem eo103 : EO Try.prog 103 1 4 (Value.int IntKind.i32 0) := ⟨by kernel_rfl, rfl, by decide⟩
@[go_sem] theorem ce104 : Try.prog.cellsOf 104 = 1 := by kernel_rfl
theorem zv104 : (Try.prog.info? 104).bind (fun i => i.zero.map fun z => z.cells.toList) = some (Value.cells (Value.int IntKind.i32 0)).toList := by kernel_rfl
theorem eo104 : EO Try.prog 104 1 4 (Value.int IntKind.i32 0) := ⟨by kernel_rfl, rfl, by decide⟩
@[go_sem] theorem ce105 : Try.prog.cellsOf 105 = 11 := by kernel_rfl
theorem zv105 : (Try.prog.info? 105).bind (fun i => i.zero.map fun z => z.cells.toList) = some (Value.cells (Value.agg #[Value.int IntKind.u64 0, Value.int IntKind.u64 0, Value.int IntKind.u32 0, Value.int IntKind.u8 0, Value.int IntKind.u8 0, Value.int IntKind.u8 0, Value.int IntKind.u8 0, Value.nilFunc, Value.pointer none, Value.int IntKind.i32 0, Value.int IntKind.i32 0])).toList := by kernel_rfl
theorem eo105 : EO Try.prog 105 11 48 (Value.agg #[Value.int IntKind.u64 0, Value.int IntKind.u64 0, Value.int IntKind.u32 0, Value.int IntKind.u8 0, Value.int IntKind.u8 0, Value.int IntKind.u8 0, Value.int IntKind.u8 0, Value.nilFunc, Value.pointer none, Value.int IntKind.i32 0, Value.int IntKind.i32 0]) := ⟨by kernel_rfl, rfl, by decide⟩
theorem bd105 : BD Try.prog 105 (Value.cells (Value.agg #[Value.int IntKind.u64 0, Value.int IntKind.u64 0, Value.int IntKind.u32 0, Value.int IntKind.u8 0, Value.int IntKind.u8 0, Value.int IntKind.u8 0, Value.int IntKind.u8 0, Value.nilFunc, Value.pointer none, Value.int IntKind.i32 0, Value.int IntKind.i32 0])).toList [(0, 1), (1, 1), (2, 1), (3, 1), (4, 1), (5, 1), (6, 1), (7, 1), (8, 1), (9, 1), (10, 1)] := ⟨by kernel_rfl, by kernel_rfl, by kernel_rfl⟩
theorem eg105 : Try.prog.eqGuardType Try.prog.depth 105 = false := by kernel_rfl
@[go_sem] theorem ce106 : Try.prog.cellsOf 106 = 11 := by kernel_rfl
theorem zv106 : (Try.prog.info? 106).bind (fun i => i.zero.map fun z => z.cells.toList) = some (Value.cells (Value.agg #[Value.int IntKind.u64 0, Value.int IntKind.u64 0, Value.int IntKind.u32 0, Value.int IntKind.u8 0, Value.int IntKind.u8 0, Value.int IntKind.u8 0, Value.int IntKind.u8 0, Value.nilFunc, Value.pointer none, Value.int IntKind.i32 0, Value.int IntKind.i32 0])).toList := by kernel_rfl
theorem eo106 : EO Try.prog 106 11 48 (Value.agg #[Value.int IntKind.u64 0, Value.int IntKind.u64 0, Value.int IntKind.u32 0, Value.int IntKind.u8 0, Value.int IntKind.u8 0, Value.int IntKind.u8 0, Value.int IntKind.u8 0, Value.nilFunc, Value.pointer none, Value.int IntKind.i32 0, Value.int IntKind.i32 0]) := ⟨by kernel_rfl, rfl, by decide⟩
theorem bd106 : BD Try.prog 106 (Value.cells (Value.agg #[Value.int IntKind.u64 0, Value.int IntKind.u64 0, Value.int IntKind.u32 0, Value.int IntKind.u8 0, Value.int IntKind.u8 0, Value.int IntKind.u8 0, Value.int IntKind.u8 0, Value.nilFunc, Value.pointer none, Value.int IntKind.i32 0, Value.int IntKind.i32 0])).toList [(0, 1), (1, 1), (2, 1), (3, 1), (4, 1), (5, 1), (6, 1), (7, 1), (8, 1), (9, 1), (10, 1)] := ⟨by kernel_rfl, by kernel_rfl, by kernel_rfl⟩
theorem eg106 : Try.prog.eqGuardType Try.prog.depth 106 = false := by kernel_rfl
@[go_sem] theorem ce107 : Try.prog.cellsOf 107 = 1 := by kernel_rfl
theorem zv107 : (Try.prog.info? 107).bind (fun i => i.zero.map fun z => z.cells.toList) = some (Value.cells (Value.pointer none)).toList := by kernel_rfl
theorem eo107 : EO Try.prog 107 1 8 (Value.pointer none) := ⟨by kernel_rfl, rfl, by decide⟩
attribute [go_sem] Try.underlying0
attribute [go_sem] Try.underlying1
attribute [go_sem] Try.underlying2
attribute [go_sem] Try.underlying3
attribute [go_sem] Try.underlying4
attribute [go_sem] Try.underlying5
attribute [go_sem] Try.underlying6
attribute [go_sem] Try.underlying7
attribute [go_sem] Try.underlying8
attribute [go_sem] Try.underlying9
attribute [go_sem] Try.underlying10
attribute [go_sem] Try.underlying11
attribute [go_sem] Try.underlying12
attribute [go_sem] Try.underlying13
attribute [go_sem] Try.underlying14
attribute [go_sem] Try.underlying15
attribute [go_sem] Try.underlying16
attribute [go_sem] Try.underlying17
attribute [go_sem] Try.underlying18
attribute [go_sem] Try.underlying19
attribute [go_sem] Try.underlying20
attribute [go_sem] Try.underlying21
attribute [go_sem] Try.underlying22
attribute [go_sem] Try.underlying23
attribute [go_sem] Try.underlying24
attribute [go_sem] Try.underlying25
attribute [go_sem] Try.underlying26
attribute [go_sem] Try.underlying27
attribute [go_sem] Try.underlying28
attribute [go_sem] Try.underlying29
attribute [go_sem] Try.underlying30
attribute [go_sem] Try.underlying31
attribute [go_sem] Try.underlying32
attribute [go_sem] Try.underlying33
attribute [go_sem] Try.underlying34
attribute [go_sem] Try.underlying35
attribute [go_sem] Try.underlying36
attribute [go_sem] Try.underlying37
attribute [go_sem] Try.underlying38
attribute [go_sem] Try.underlying39
attribute [go_sem] Try.underlying40
attribute [go_sem] Try.underlying41
attribute [go_sem] Try.underlying42
attribute [go_sem] Try.underlying43
attribute [go_sem] Try.underlying44
attribute [go_sem] Try.underlying45
attribute [go_sem] Try.underlying46
attribute [go_sem] Try.underlying47
attribute [go_sem] Try.underlying48
attribute [go_sem] Try.underlying49
attribute [go_sem] Try.underlying50
attribute [go_sem] Try.underlying51
attribute [go_sem] Try.underlying52
attribute [go_sem] Try.underlying53
attribute [go_sem] Try.underlying54
attribute [go_sem] Try.underlying55
attribute [go_sem] Try.underlying56
attribute [go_sem] Try.underlying57
attribute [go_sem] Try.underlying58
attribute [go_sem] Try.underlying59
attribute [go_sem] Try.underlying60
attribute [go_sem] Try.underlying61
attribute [go_sem] Try.underlying62
attribute [go_sem] Try.underlying63
attribute [go_sem] Try.underlying64
attribute [go_sem] Try.underlying65
attribute [go_sem] Try.underlying66
attribute [go_sem] Try.underlying67
attribute [go_sem] Try.underlying68
attribute [go_sem] Try.underlying69
attribute [go_sem] Try.underlying70
attribute [go_sem] Try.underlying71
attribute [go_sem] Try.underlying72
attribute [go_sem] Try.underlying73
attribute [go_sem] Try.underlying74
attribute [go_sem] Try.underlying75
attribute [go_sem] Try.underlying76
attribute [go_sem] Try.underlying77
attribute [go_sem] Try.underlying78
attribute [go_sem] Try.underlying79
attribute [go_sem] Try.underlying80
attribute [go_sem] Try.underlying81
attribute [go_sem] Try.underlying82
attribute [go_sem] Try.underlying83
attribute [go_sem] Try.underlying84
attribute [go_sem] Try.underlying85
attribute [go_sem] Try.underlying86
attribute [go_sem] Try.underlying87
attribute [go_sem] Try.underlying88
attribute [go_sem] Try.underlying89
attribute [go_sem] Try.underlying90
attribute [go_sem] Try.underlying91
attribute [go_sem] Try.underlying92
attribute [go_sem] Try.underlying93
attribute [go_sem] Try.underlying94
attribute [go_sem] Try.underlying95
attribute [go_sem] Try.underlying96
attribute [go_sem] Try.underlying97
attribute [go_sem] Try.underlying98
attribute [go_sem] Try.underlying99
attribute [go_sem] Try.underlying100
attribute [go_sem] Try.underlying101
attribute [go_sem] Try.underlying102
attribute [go_sem] Try.underlying103
attribute [go_sem] Try.underlying104
attribute [go_sem] Try.underlying105
attribute [go_sem] Try.underlying106
attribute [go_sem] Try.underlying107
end Go.Proofs.Ytlaghnaafkgbdaa
