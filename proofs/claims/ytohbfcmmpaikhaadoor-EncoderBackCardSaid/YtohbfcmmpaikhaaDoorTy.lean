import Derived.Test.YtohbfcmmpaikhaaDoorLf
import Derived.Test.YtohbfcmmpaikhaaDoorChecked
import Derived.KernelRfl
set_option linter.unusedVariables false
namespace Go.Proofs.YtohbfcmmpaikhaaDoor
open Go Go.Lf Go.Proofs
theorem mixed : Tryd.prog.follows .mixedOrders = true := Tryd.checked.mixed
@[go_sem] theorem ce1 : Tryd.prog.cellsOf 1 = 1 := by kernel_rfl
@[go_sem] theorem ce2 : Tryd.prog.cellsOf 2 = 1 := by kernel_rfl
@[go_sem] theorem ce3 : Tryd.prog.cellsOf 3 = 1 := by kernel_rfl
theorem zv3 : (Tryd.prog.info? 3).bind (fun i => i.zero.map fun z => z.cells.toList) = some (Value.cells (.int .i64 0)).toList := by kernel_rfl
theorem eo3 : EO Tryd.prog 3 1 8 (.int .i64 0) := ⟨by kernel_rfl, rfl, by decide⟩
@[go_sem] theorem ce4 : Tryd.prog.cellsOf 4 = 1 := by kernel_rfl
theorem zv4 : (Tryd.prog.info? 4).bind (fun i => i.zero.map fun z => z.cells.toList) = some (Value.cells (.bool false)).toList := by kernel_rfl
theorem eo4 : EO Tryd.prog 4 1 1 (.bool false) := ⟨by kernel_rfl, rfl, by decide⟩
@[go_sem] theorem ce5 : Tryd.prog.cellsOf 5 = 1 := by kernel_rfl
theorem zv5 : (Tryd.prog.info? 5).bind (fun i => i.zero.map fun z => z.cells.toList) = some (Value.cells (.int .u8 0)).toList := by kernel_rfl
theorem eo5 : EO Tryd.prog 5 1 1 (.int .u8 0) := ⟨by kernel_rfl, rfl, by decide⟩
@[go_sem] theorem ce6 : Tryd.prog.cellsOf 6 = 1 := by kernel_rfl
@[go_sem] theorem ce7 : Tryd.prog.cellsOf 7 = 4 := by kernel_rfl
@[go_sem] theorem ce8 : Tryd.prog.cellsOf 8 = 4 := by kernel_rfl
@[go_sem] theorem ce9 : Tryd.prog.cellsOf 9 = 1 := by kernel_rfl
theorem zv9 : (Tryd.prog.info? 9).bind (fun i => i.zero.map fun z => z.cells.toList) = some (Value.cells (.string ⟨#[]⟩)).toList := by kernel_rfl
theorem eo9 : EO Tryd.prog 9 1 16 (.string ⟨#[]⟩) := ⟨by kernel_rfl, rfl, by decide⟩
@[go_sem] theorem ce10 : Tryd.prog.cellsOf 10 = 1 := by kernel_rfl
@[go_sem] theorem ce11 : Tryd.prog.cellsOf 11 = 1 := by kernel_rfl
@[go_sem] theorem ce12 : Tryd.prog.cellsOf 12 = 1 := by kernel_rfl
@[go_sem] theorem ce13 : Tryd.prog.cellsOf 13 = 2 := by kernel_rfl
@[go_sem] theorem ce14 : Tryd.prog.cellsOf 14 = 2 := by kernel_rfl
@[go_sem] theorem ce15 : Tryd.prog.cellsOf 15 = 1 := by kernel_rfl
@[go_sem] theorem ce16 : Tryd.prog.cellsOf 16 = 1 := by kernel_rfl
@[go_sem] theorem ce17 : Tryd.prog.cellsOf 17 = 1 := by kernel_rfl
@[go_sem] theorem ce18 : Tryd.prog.cellsOf 18 = 1 := by kernel_rfl
@[go_sem] theorem ce19 : Tryd.prog.cellsOf 19 = 1 := by kernel_rfl
@[go_sem] theorem ce20 : Tryd.prog.cellsOf 20 = 1 := by kernel_rfl
@[go_sem] theorem ce21 : Tryd.prog.cellsOf 21 = 1 := by kernel_rfl
@[go_sem] theorem ce22 : Tryd.prog.cellsOf 22 = 1 := by kernel_rfl
theorem zv22 : (Tryd.prog.info? 22).bind (fun i => i.zero.map fun z => z.cells.toList) = some (Value.cells (Value.slice none 0 0)).toList := by kernel_rfl
theorem eo22 : EO Tryd.prog 22 1 24 (Value.slice none 0 0) := ⟨by kernel_rfl, rfl, by decide⟩
@[go_sem] theorem ce23 : Tryd.prog.cellsOf 23 = 1 := by kernel_rfl
@[go_sem] theorem ce24 : Tryd.prog.cellsOf 24 = 2 := by kernel_rfl
@[go_sem] theorem ce25 : Tryd.prog.cellsOf 25 = 2 := by kernel_rfl
theorem zv25 : (Tryd.prog.info? 25).bind (fun i => i.zero.map fun z => z.cells.toList) = some (Value.cells (Value.agg #[.string ⟨#[]⟩, .bool false])).toList := by kernel_rfl
theorem eo25 : EO Tryd.prog 25 2 24 (Value.agg #[.string ⟨#[]⟩, .bool false]) := ⟨by kernel_rfl, rfl, by decide⟩
theorem bd25 : BD Tryd.prog 25 (Value.cells (Value.agg #[.string ⟨#[]⟩, .bool false])).toList [(0, 1), (1, 1)] := ⟨by kernel_rfl, by kernel_rfl, by kernel_rfl⟩
@[go_sem] theorem sh25 : Tryd.prog.stoodInHeld 25 = false := by kernel_rfl
theorem eg25 : Tryd.prog.eqGuardType Tryd.prog.depth 25 = false := by kernel_rfl
@[go_sem] theorem ce26 : Tryd.prog.cellsOf 26 = 7 := by kernel_rfl
@[go_sem] theorem ce27 : Tryd.prog.cellsOf 27 = 7 := by kernel_rfl
theorem zv27 : (Tryd.prog.info? 27).bind (fun i => i.zero.map fun z => z.cells.toList) = some (Value.cells (Value.agg #[.int .i64 0, .int .i64 0, .string ⟨#[]⟩, .bool false, .string ⟨#[]⟩, .bool false, .int .i64 0])).toList := by kernel_rfl
theorem eo27 : EO Tryd.prog 27 7 72 (Value.agg #[.int .i64 0, .int .i64 0, .string ⟨#[]⟩, .bool false, .string ⟨#[]⟩, .bool false, .int .i64 0]) := ⟨by kernel_rfl, rfl, by decide⟩
theorem bd27 : BD Tryd.prog 27 (Value.cells (Value.agg #[.int .i64 0, .int .i64 0, .string ⟨#[]⟩, .bool false, .string ⟨#[]⟩, .bool false, .int .i64 0])).toList [(0, 1), (1, 1), (2, 2), (4, 2), (6, 1)] := ⟨by kernel_rfl, by kernel_rfl, by kernel_rfl⟩
@[go_sem] theorem sh27 : Tryd.prog.stoodInHeld 27 = false := by kernel_rfl
theorem eg27 : Tryd.prog.eqGuardType Tryd.prog.depth 27 = false := by kernel_rfl
@[go_sem] theorem ce28 : Tryd.prog.cellsOf 28 = 1 := by kernel_rfl
theorem zv28 : (Tryd.prog.info? 28).bind (fun i => i.zero.map fun z => z.cells.toList) = some (Value.cells (.int .i64 0)).toList := by kernel_rfl
theorem eo28 : EO Tryd.prog 28 1 8 (.int .i64 0) := ⟨by kernel_rfl, rfl, by decide⟩
@[go_sem] theorem ce30 : Tryd.prog.cellsOf 30 = 1 := by kernel_rfl
@[go_sem] theorem ce31 : Tryd.prog.cellsOf 31 = 7 := by kernel_rfl
@[go_sem] theorem ce32 : Tryd.prog.cellsOf 32 = 7 := by kernel_rfl
@[go_sem] theorem sh32 : Tryd.prog.stoodInHeld 32 = false := by kernel_rfl
@[go_sem] theorem ce34 : Tryd.prog.cellsOf 34 = 1 := by kernel_rfl
@[go_sem] theorem ce35 : Tryd.prog.cellsOf 35 = 1 := by kernel_rfl
@[go_sem] theorem ce36 : Tryd.prog.cellsOf 36 = 1 := by kernel_rfl
@[go_sem] theorem ce38 : Tryd.prog.cellsOf 38 = 1 := by kernel_rfl
@[go_sem] theorem ce39 : Tryd.prog.cellsOf 39 = 1 := by kernel_rfl
@[go_sem] theorem ce40 : Tryd.prog.cellsOf 40 = 1 := by kernel_rfl
@[go_sem] theorem ce41 : Tryd.prog.cellsOf 41 = 1 := by kernel_rfl
@[go_sem] theorem ce42 : Tryd.prog.cellsOf 42 = 1 := by kernel_rfl
@[go_sem] theorem ce43 : Tryd.prog.cellsOf 43 = 1 := by kernel_rfl
@[go_sem] theorem ce44 : Tryd.prog.cellsOf 44 = 1 := by kernel_rfl
@[go_sem] theorem ce45 : Tryd.prog.cellsOf 45 = 1 := by kernel_rfl
@[go_sem] theorem ce46 : Tryd.prog.cellsOf 46 = 1 := by kernel_rfl
theorem zv46 : (Tryd.prog.info? 46).bind (fun i => i.zero.map fun z => z.cells.toList) = some (Value.cells (.pointer none)).toList := by kernel_rfl
@[go_sem] theorem ce48 : Tryd.prog.cellsOf 48 = 1 := by kernel_rfl
@[go_sem] theorem ce49 : Tryd.prog.cellsOf 49 = 1 := by kernel_rfl
@[go_sem] theorem ce50 : Tryd.prog.cellsOf 50 = 1 := by kernel_rfl
theorem zv50 : (Tryd.prog.info? 50).bind (fun i => i.zero.map fun z => z.cells.toList) = some (Value.cells (Value.slice none 0 0)).toList := by kernel_rfl
theorem eo50 : EO Tryd.prog 50 1 24 (Value.slice none 0 0) := ⟨by kernel_rfl, rfl, by decide⟩
@[go_sem] theorem ce51 : Tryd.prog.cellsOf 51 = 2 := by kernel_rfl
@[go_sem] theorem ce52 : Tryd.prog.cellsOf 52 = 2 := by kernel_rfl
@[go_sem] theorem sh52 : Tryd.prog.stoodInHeld 52 = false := by kernel_rfl
@[go_sem] theorem ce53 : Tryd.prog.cellsOf 53 = 1 := by kernel_rfl
theorem zv53 : (Tryd.prog.info? 53).bind (fun i => i.zero.map fun z => z.cells.toList) = some (Value.cells (Value.slice none 0 0)).toList := by kernel_rfl
theorem eo53 : EO Tryd.prog 53 1 24 (Value.slice none 0 0) := ⟨by kernel_rfl, rfl, by decide⟩
@[go_sem] theorem ce54 : Tryd.prog.cellsOf 54 = 2 := by kernel_rfl
@[go_sem] theorem ce55 : Tryd.prog.cellsOf 55 = 2 := by kernel_rfl
theorem zv55 : (Tryd.prog.info? 55).bind (fun i => i.zero.map fun z => z.cells.toList) = some (Value.cells (Value.agg #[Value.slice none 0 0, Value.slice none 0 0])).toList := by kernel_rfl
theorem eo55 : EO Tryd.prog 55 2 48 (Value.agg #[Value.slice none 0 0, Value.slice none 0 0]) := ⟨by kernel_rfl, rfl, by decide⟩
theorem bd55 : BD Tryd.prog 55 (Value.cells (Value.agg #[Value.slice none 0 0, Value.slice none 0 0])).toList [(0, 1), (1, 1)] := ⟨by kernel_rfl, by kernel_rfl, by kernel_rfl⟩
@[go_sem] theorem sh55 : Tryd.prog.stoodInHeld 55 = false := by kernel_rfl
@[go_sem] theorem ce57 : Tryd.prog.cellsOf 57 = 1 := by kernel_rfl
@[go_sem] theorem ce59 : Tryd.prog.cellsOf 59 = 1 := by kernel_rfl
@[go_sem] theorem ce60 : Tryd.prog.cellsOf 60 = 1 := by kernel_rfl
@[go_sem] theorem ce61 : Tryd.prog.cellsOf 61 = 1 := by kernel_rfl
@[go_sem] theorem ce62 : Tryd.prog.cellsOf 62 = 1 := by kernel_rfl
@[go_sem] theorem ce63 : Tryd.prog.cellsOf 63 = 1 := by kernel_rfl
@[go_sem] theorem ce64 : Tryd.prog.cellsOf 64 = 1 := by kernel_rfl
@[go_sem] theorem ce65 : Tryd.prog.cellsOf 65 = 1 := by kernel_rfl
@[go_sem] theorem ce66 : Tryd.prog.cellsOf 66 = 3 := by kernel_rfl
@[go_sem] theorem ce67 : Tryd.prog.cellsOf 67 = 3 := by kernel_rfl
theorem zv67 : (Tryd.prog.info? 67).bind (fun i => i.zero.map fun z => z.cells.toList) = some (Value.cells (Value.agg #[.string ⟨#[]⟩, .string ⟨#[]⟩, .bool false])).toList := by kernel_rfl
theorem eo67 : EO Tryd.prog 67 3 40 (Value.agg #[.string ⟨#[]⟩, .string ⟨#[]⟩, .bool false]) := ⟨by kernel_rfl, rfl, by decide⟩
theorem bd67 : BD Tryd.prog 67 (Value.cells (Value.agg #[.string ⟨#[]⟩, .string ⟨#[]⟩, .bool false])).toList [(0, 1), (1, 1), (2, 1)] := ⟨by kernel_rfl, by kernel_rfl, by kernel_rfl⟩
@[go_sem] theorem sh67 : Tryd.prog.stoodInHeld 67 = false := by kernel_rfl
theorem eg67 : Tryd.prog.eqGuardType Tryd.prog.depth 67 = false := by kernel_rfl
@[go_sem] theorem ce68 : Tryd.prog.cellsOf 68 = 1 := by kernel_rfl
@[go_sem] theorem ce69 : Tryd.prog.cellsOf 69 = 1 := by kernel_rfl
theorem zv69 : (Tryd.prog.info? 69).bind (fun i => i.zero.map fun z => z.cells.toList) = some (Value.cells (.pointer none)).toList := by kernel_rfl
theorem eo69 : EO Tryd.prog 69 1 8 (.pointer none) := ⟨by kernel_rfl, rfl, by decide⟩
@[go_sem] theorem ce70 : Tryd.prog.cellsOf 70 = 1 := by kernel_rfl
@[go_sem] theorem ce71 : Tryd.prog.cellsOf 71 = 1 := by kernel_rfl
theorem zv71 : (Tryd.prog.info? 71).bind (fun i => i.zero.map fun z => z.cells.toList) = some (Value.cells (Value.agg #[.pointer none])).toList := by kernel_rfl
theorem bd71 : BD Tryd.prog 71 (Value.cells (Value.agg #[.pointer none])).toList [(0, 1)] := ⟨by kernel_rfl, by kernel_rfl, by kernel_rfl⟩
@[go_sem] theorem sh71 : Tryd.prog.stoodInHeld 71 = false := by kernel_rfl
@[go_sem] theorem ce72 : Tryd.prog.cellsOf 72 = 1 := by kernel_rfl
theorem zv72 : (Tryd.prog.info? 72).bind (fun i => i.zero.map fun z => z.cells.toList) = some (Value.cells (Value.slice none 0 0)).toList := by kernel_rfl
@[go_sem] theorem ce73 : Tryd.prog.cellsOf 73 = 1 := by kernel_rfl
@[go_sem] theorem ce74 : Tryd.prog.cellsOf 74 = 1 := by kernel_rfl
theorem zv74 : (Tryd.prog.info? 74).bind (fun i => i.zero.map fun z => z.cells.toList) = some (Value.cells (.pointer none)).toList := by kernel_rfl
theorem eo74 : EO Tryd.prog 74 1 8 (.pointer none) := ⟨by kernel_rfl, rfl, by decide⟩
@[go_sem] theorem ce76 : Tryd.prog.cellsOf 76 = 1 := by kernel_rfl
@[go_sem] theorem ce77 : Tryd.prog.cellsOf 77 = 1 := by kernel_rfl
theorem zv77 : (Tryd.prog.info? 77).bind (fun i => i.zero.map fun z => z.cells.toList) = some (Value.cells (Value.slice none 0 0)).toList := by kernel_rfl
theorem eo77 : EO Tryd.prog 77 1 24 (Value.slice none 0 0) := ⟨by kernel_rfl, rfl, by decide⟩
@[go_sem] theorem ce78 : Tryd.prog.cellsOf 78 = 3 := by kernel_rfl
@[go_sem] theorem ce79 : Tryd.prog.cellsOf 79 = 3 := by kernel_rfl
theorem zv79 : (Tryd.prog.info? 79).bind (fun i => i.zero.map fun z => z.cells.toList) = some (Value.cells (Value.agg #[Value.slice none 0 0, Value.slice none 0 0, Value.slice none 0 0])).toList := by kernel_rfl
@[go_sem] theorem sh79 : Tryd.prog.stoodInHeld 79 = false := by kernel_rfl
@[go_sem] theorem ce80 : Tryd.prog.cellsOf 80 = 1 := by kernel_rfl
@[go_sem] theorem ce81 : Tryd.prog.cellsOf 81 = 1 := by kernel_rfl
theorem zv81 : (Tryd.prog.info? 81).bind (fun i => i.zero.map fun z => z.cells.toList) = some (Value.cells (Value.slice none 0 0)).toList := by kernel_rfl
theorem eo81 : EO Tryd.prog 81 1 24 (Value.slice none 0 0) := ⟨by kernel_rfl, rfl, by decide⟩
@[go_sem] theorem ce82 : Tryd.prog.cellsOf 82 = 1 := by kernel_rfl
@[go_sem] theorem ce84 : Tryd.prog.cellsOf 84 = 1 := by kernel_rfl
@[go_sem] theorem ce85 : Tryd.prog.cellsOf 85 = 1 := by kernel_rfl
@[go_sem] theorem ce86 : Tryd.prog.cellsOf 86 = 1 := by kernel_rfl
@[go_sem] theorem ce87 : Tryd.prog.cellsOf 87 = 1 := by kernel_rfl
theorem zv87 : (Tryd.prog.info? 87).bind (fun i => i.zero.map fun z => z.cells.toList) = some (Value.cells (Value.agg #[.pointer none])).toList := by kernel_rfl
theorem eo87 : EO Tryd.prog 87 1 8 (Value.agg #[.pointer none]) := ⟨by kernel_rfl, rfl, by decide⟩
theorem bd87 : BD Tryd.prog 87 (Value.cells (Value.agg #[.pointer none])).toList [(0, 1)] := ⟨by kernel_rfl, by kernel_rfl, by kernel_rfl⟩
@[go_sem] theorem sh87 : Tryd.prog.stoodInHeld 87 = false := by kernel_rfl
@[go_sem] theorem ce88 : Tryd.prog.cellsOf 88 = 1 := by kernel_rfl
@[go_sem] theorem ce89 : Tryd.prog.cellsOf 89 = 1 := by kernel_rfl
@[go_sem] theorem ce91 : Tryd.prog.cellsOf 91 = 1 := by kernel_rfl
@[go_sem] theorem ce92 : Tryd.prog.cellsOf 92 = 2 := by kernel_rfl
@[go_sem] theorem ce93 : Tryd.prog.cellsOf 93 = 2 := by kernel_rfl
theorem zv93 : (Tryd.prog.info? 93).bind (fun i => i.zero.map fun z => z.cells.toList) = some (Value.cells (Value.agg #[.int .i64 0, .int .i64 0])).toList := by kernel_rfl
theorem eo93 : EO Tryd.prog 93 2 16 (Value.agg #[.int .i64 0, .int .i64 0]) := ⟨by kernel_rfl, rfl, by decide⟩
theorem bd93 : BD Tryd.prog 93 (Value.cells (Value.agg #[.int .i64 0, .int .i64 0])).toList [(0, 1), (1, 1)] := ⟨by kernel_rfl, by kernel_rfl, by kernel_rfl⟩
@[go_sem] theorem sh93 : Tryd.prog.stoodInHeld 93 = false := by kernel_rfl
@[go_sem] theorem ce94 : Tryd.prog.cellsOf 94 = 12 := by kernel_rfl
theorem zv94 : (Tryd.prog.info? 94).bind (fun i => i.zero.map fun z => z.cells.toList) = some (Value.cells (Value.agg #[.int .i64 0, .int .i64 0, .int .i64 0, .int .i64 0, .int .i64 0, .int .i64 0, .int .i64 0, .int .i64 0, .int .i64 0, .int .i64 0, .int .i64 0, .int .i64 0])).toList := by kernel_rfl
theorem eo94 : EO Tryd.prog 94 12 96 (Value.agg #[.int .i64 0, .int .i64 0, .int .i64 0, .int .i64 0, .int .i64 0, .int .i64 0, .int .i64 0, .int .i64 0, .int .i64 0, .int .i64 0, .int .i64 0, .int .i64 0]) := ⟨by kernel_rfl, rfl, by decide⟩
theorem bd94 : BD Tryd.prog 94 (Value.cells (Value.agg #[.int .i64 0, .int .i64 0, .int .i64 0, .int .i64 0, .int .i64 0, .int .i64 0, .int .i64 0, .int .i64 0, .int .i64 0, .int .i64 0, .int .i64 0, .int .i64 0])).toList [(0, 2), (2, 2), (4, 2), (6, 2), (8, 2), (10, 2)] := ⟨by kernel_rfl, by kernel_rfl, by kernel_rfl⟩
@[go_sem] theorem ce95 : Tryd.prog.cellsOf 95 = 1 := by kernel_rfl
theorem zv95 : (Tryd.prog.info? 95).bind (fun i => i.zero.map fun z => z.cells.toList) = some (Value.cells (.pointer none)).toList := by kernel_rfl
theorem eo95 : EO Tryd.prog 95 1 8 (.pointer none) := ⟨by kernel_rfl, rfl, by decide⟩
@[go_sem] theorem ce96 : Tryd.prog.cellsOf 96 = 1 := by kernel_rfl
theorem zv96 : (Tryd.prog.info? 96).bind (fun i => i.zero.map fun z => z.cells.toList) = some (Value.cells (Value.slice none 0 0)).toList := by kernel_rfl
theorem eo96 : EO Tryd.prog 96 1 24 (Value.slice none 0 0) := ⟨by kernel_rfl, rfl, by decide⟩
@[go_sem] theorem ce98 : Tryd.prog.cellsOf 98 = 1 := by kernel_rfl
@[go_sem] theorem ce100 : Tryd.prog.cellsOf 100 = 1 := by kernel_rfl
@[go_sem] theorem ce102 : Tryd.prog.cellsOf 102 = 1 := by kernel_rfl
@[go_sem] theorem ce103 : Tryd.prog.cellsOf 103 = 1 := by kernel_rfl
@[go_sem] theorem ce104 : Tryd.prog.cellsOf 104 = 1 := by kernel_rfl
@[go_sem] theorem ce106 : Tryd.prog.cellsOf 106 = 1 := by kernel_rfl
@[go_sem] theorem ce107 : Tryd.prog.cellsOf 107 = 1 := by kernel_rfl
theorem zv107 : (Tryd.prog.info? 107).bind (fun i => i.zero.map fun z => z.cells.toList) = some (Value.cells (.pointer none)).toList := by kernel_rfl
theorem eo107 : EO Tryd.prog 107 1 8 (.pointer none) := ⟨by kernel_rfl, rfl, by decide⟩
@[go_sem] theorem ce108 : Tryd.prog.cellsOf 108 = 1 := by kernel_rfl
@[go_sem] theorem ce109 : Tryd.prog.cellsOf 109 = 3 := by kernel_rfl
@[go_sem] theorem ce110 : Tryd.prog.cellsOf 110 = 3 := by kernel_rfl
theorem zv110 : (Tryd.prog.info? 110).bind (fun i => i.zero.map fun z => z.cells.toList) = some (Value.cells (Value.agg #[Value.slice none 0 0, Value.slice none 0 0, .pointer none])).toList := by kernel_rfl
theorem eo110 : EO Tryd.prog 110 3 56 (Value.agg #[Value.slice none 0 0, Value.slice none 0 0, .pointer none]) := ⟨by kernel_rfl, rfl, by decide⟩
theorem bd110 : BD Tryd.prog 110 (Value.cells (Value.agg #[Value.slice none 0 0, Value.slice none 0 0, .pointer none])).toList [(0, 2), (2, 1)] := ⟨by kernel_rfl, by kernel_rfl, by kernel_rfl⟩
@[go_sem] theorem sh110 : Tryd.prog.stoodInHeld 110 = false := by kernel_rfl
@[go_sem] theorem ce111 : Tryd.prog.cellsOf 111 = 3 := by kernel_rfl
@[go_sem] theorem ce112 : Tryd.prog.cellsOf 112 = 3 := by kernel_rfl
theorem zv112 : (Tryd.prog.info? 112).bind (fun i => i.zero.map fun z => z.cells.toList) = some (Value.cells (Value.agg #[Value.slice none 0 0, .int .i64 0, .int .i64 0])).toList := by kernel_rfl
theorem eo112 : EO Tryd.prog 112 3 40 (Value.agg #[Value.slice none 0 0, .int .i64 0, .int .i64 0]) := ⟨by kernel_rfl, rfl, by decide⟩
theorem bd112 : BD Tryd.prog 112 (Value.cells (Value.agg #[Value.slice none 0 0, .int .i64 0, .int .i64 0])).toList [(0, 1), (1, 1), (2, 1)] := ⟨by kernel_rfl, by kernel_rfl, by kernel_rfl⟩
@[go_sem] theorem sh112 : Tryd.prog.stoodInHeld 112 = false := by kernel_rfl
@[go_sem] theorem ce113 : Tryd.prog.cellsOf 113 = 1 := by kernel_rfl
@[go_sem] theorem ce114 : Tryd.prog.cellsOf 114 = 1 := by kernel_rfl
@[go_sem] theorem ce115 : Tryd.prog.cellsOf 115 = 1 := by kernel_rfl
@[go_sem] theorem ce117 : Tryd.prog.cellsOf 117 = 1 := by kernel_rfl
@[go_sem] theorem ce118 : Tryd.prog.cellsOf 118 = 1 := by kernel_rfl
@[go_sem] theorem ce119 : Tryd.prog.cellsOf 119 = 1 := by kernel_rfl
@[go_sem] theorem ce120 : Tryd.prog.cellsOf 120 = 1 := by kernel_rfl
@[go_sem] theorem ce121 : Tryd.prog.cellsOf 121 = 4 := by kernel_rfl
@[go_sem] theorem ce122 : Tryd.prog.cellsOf 122 = 4 := by kernel_rfl
theorem zv122 : (Tryd.prog.info? 122).bind (fun i => i.zero.map fun z => z.cells.toList) = some (Value.cells (Value.agg #[.int .i64 0, .bool false, .bool false, .bool false])).toList := by kernel_rfl
theorem eo122 : EO Tryd.prog 122 4 16 (Value.agg #[.int .i64 0, .bool false, .bool false, .bool false]) := ⟨by kernel_rfl, rfl, by decide⟩
theorem bd122 : BD Tryd.prog 122 (Value.cells (Value.agg #[.int .i64 0, .bool false, .bool false, .bool false])).toList [(0, 1), (1, 1), (2, 1), (3, 1)] := ⟨by kernel_rfl, by kernel_rfl, by kernel_rfl⟩
@[go_sem] theorem sh122 : Tryd.prog.stoodInHeld 122 = false := by kernel_rfl
@[go_sem] theorem ce123 : Tryd.prog.cellsOf 123 = 1 := by kernel_rfl
@[go_sem] theorem ce124 : Tryd.prog.cellsOf 124 = 4 := by kernel_rfl
theorem zv124 : (Tryd.prog.info? 124).bind (fun i => i.zero.map fun z => z.cells.toList) = some (Value.cells (Value.agg #[.int .i64 0, .bool false, .bool false, .bool false])).toList := by kernel_rfl
theorem eo124 : EO Tryd.prog 124 4 16 (Value.agg #[.int .i64 0, .bool false, .bool false, .bool false]) := ⟨by kernel_rfl, rfl, by decide⟩
theorem bd124 : BD Tryd.prog 124 (Value.cells (Value.agg #[.int .i64 0, .bool false, .bool false, .bool false])).toList [(0, 1), (1, 1), (2, 1), (3, 1)] := ⟨by kernel_rfl, by kernel_rfl, by kernel_rfl⟩
@[go_sem] theorem sh124 : Tryd.prog.stoodInHeld 124 = false := by kernel_rfl
@[go_sem] theorem ce126 : Tryd.prog.cellsOf 126 = 1 := by kernel_rfl
@[go_sem] theorem ce128 : Tryd.prog.cellsOf 128 = 1 := by kernel_rfl
@[go_sem] theorem ce129 : Tryd.prog.cellsOf 129 = 1 := by kernel_rfl
theorem eo129 : EO Tryd.prog 129 1 8 (.int .u64 0) := ⟨by kernel_rfl, rfl, by decide⟩
@[go_sem] theorem ce130 : Tryd.prog.cellsOf 130 = 1 := by kernel_rfl
@[go_sem] theorem ce131 : Tryd.prog.cellsOf 131 = 1 := by kernel_rfl
@[go_sem] theorem ce132 : Tryd.prog.cellsOf 132 = 1 := by kernel_rfl
@[go_sem] theorem ce133 : Tryd.prog.cellsOf 133 = 1 := by kernel_rfl
@[go_sem] theorem ce134 : Tryd.prog.cellsOf 134 = 1 := by kernel_rfl
@[go_sem] theorem ce136 : Tryd.prog.cellsOf 136 = 1 := by kernel_rfl
@[go_sem] theorem ce137 : Tryd.prog.cellsOf 137 = 1 := by kernel_rfl
@[go_sem] theorem ce138 : Tryd.prog.cellsOf 138 = 1 := by kernel_rfl
@[go_sem] theorem ce139 : Tryd.prog.cellsOf 139 = 1 := by kernel_rfl
@[go_sem] theorem ce140 : Tryd.prog.cellsOf 140 = 1 := by kernel_rfl
@[go_sem] theorem ce141 : Tryd.prog.cellsOf 141 = 1 := by kernel_rfl
@[go_sem] theorem ce142 : Tryd.prog.cellsOf 142 = 1 := by kernel_rfl
@[go_sem] theorem ce143 : Tryd.prog.cellsOf 143 = 1 := by kernel_rfl
@[go_sem] theorem ce144 : Tryd.prog.cellsOf 144 = 1 := by kernel_rfl
@[go_sem] theorem ce145 : Tryd.prog.cellsOf 145 = 1 := by kernel_rfl
@[go_sem] theorem ce146 : Tryd.prog.cellsOf 146 = 1 := by kernel_rfl
@[go_sem] theorem ce147 : Tryd.prog.cellsOf 147 = 1 := by kernel_rfl
@[go_sem] theorem ce148 : Tryd.prog.cellsOf 148 = 1 := by kernel_rfl
theorem zv148 : (Tryd.prog.info? 148).bind (fun i => i.zero.map fun z => z.cells.toList) = some (Value.cells (.pointer none)).toList := by kernel_rfl
theorem eo148 : EO Tryd.prog 148 1 8 (.pointer none) := ⟨by kernel_rfl, rfl, by decide⟩
@[go_sem] theorem ce149 : Tryd.prog.cellsOf 149 = 1 := by kernel_rfl
@[go_sem] theorem ce150 : Tryd.prog.cellsOf 150 = 1 := by kernel_rfl
theorem eo150 : EO Tryd.prog 150 1 8 (.pointer none) := ⟨by kernel_rfl, rfl, by decide⟩
@[go_sem] theorem ce151 : Tryd.prog.cellsOf 151 = 1 := by kernel_rfl
@[go_sem] theorem ce152 : Tryd.prog.cellsOf 152 = 1 := by kernel_rfl
@[go_sem] theorem ce153 : Tryd.prog.cellsOf 153 = 1 := by kernel_rfl
@[go_sem] theorem ce154 : Tryd.prog.cellsOf 154 = 1 := by kernel_rfl
@[go_sem] theorem ce155 : Tryd.prog.cellsOf 155 = 1 := by kernel_rfl
@[go_sem] theorem ce156 : Tryd.prog.cellsOf 156 = 1 := by kernel_rfl
@[go_sem] theorem ce157 : Tryd.prog.cellsOf 157 = 2 := by kernel_rfl
@[go_sem] theorem ce158 : Tryd.prog.cellsOf 158 = 2 := by kernel_rfl
theorem zv158 : (Tryd.prog.info? 158).bind (fun i => i.zero.map fun z => z.cells.toList) = some (Value.cells (Value.agg #[Value.slice none 0 0, .int .i64 0])).toList := by kernel_rfl
theorem eo158 : EO Tryd.prog 158 2 32 (Value.agg #[Value.slice none 0 0, .int .i64 0]) := ⟨by kernel_rfl, rfl, by decide⟩
@[go_sem] theorem sh158 : Tryd.prog.stoodInHeld 158 = false := by kernel_rfl
@[go_sem] theorem ce159 : Tryd.prog.cellsOf 159 = 1 := by kernel_rfl
@[go_sem] theorem ce160 : Tryd.prog.cellsOf 160 = 1 := by kernel_rfl
@[go_sem] theorem ce162 : Tryd.prog.cellsOf 162 = 1 := by kernel_rfl
@[go_sem] theorem ce163 : Tryd.prog.cellsOf 163 = 1 := by kernel_rfl
@[go_sem] theorem ce164 : Tryd.prog.cellsOf 164 = 1 := by kernel_rfl
@[go_sem] theorem ce165 : Tryd.prog.cellsOf 165 = 1 := by kernel_rfl
@[go_sem] theorem ce166 : Tryd.prog.cellsOf 166 = 1 := by kernel_rfl
@[go_sem] theorem ce167 : Tryd.prog.cellsOf 167 = 1 := by kernel_rfl
@[go_sem] theorem ce168 : Tryd.prog.cellsOf 168 = 257 := by kernel_rfl
set_option maxRecDepth 20000 in
theorem zv168 : (Tryd.prog.info? 168).bind (fun i => i.zero.map fun z => z.cells.toList) = some (Value.cells (Value.agg (([.int .i64 0, .int .i64 0, .int .i64 0, .int .i64 0, .int .i64 0, .int .i64 0, .int .i64 0, .int .i64 0, .int .i64 0, .int .i64 0, .int .i64 0, .int .i64 0, .int .i64 0, .int .i64 0, .int .i64 0, .int .i64 0, .int .i64 0, .int .i64 0, .int .i64 0, .int .i64 0, .int .i64 0, .int .i64 0, .int .i64 0, .int .i64 0, .int .i64 0, .int .i64 0, .int .i64 0, .int .i64 0, .int .i64 0, .int .i64 0, .int .i64 0, .int .i64 0, .int .i64 0, .int .i64 0, .int .i64 0, .int .i64 0, .int .i64 0, .int .i64 0, .int .i64 0, .int .i64 0, .int .i64 0, .int .i64 0, .int .i64 0, .int .i64 0, .int .i64 0, .int .i64 0, .int .i64 0, .int .i64 0, .int .i64 0, .int .i64 0, .int .i64 0, .int .i64 0, .int .i64 0, .int .i64 0, .int .i64 0, .int .i64 0, .int .i64 0, .int .i64 0, .int .i64 0, .int .i64 0, .int .i64 0, .int .i64 0, .int .i64 0, .int .i64 0].append [.int .i64 0, .int .i64 0, .int .i64 0, .int .i64 0, .int .i64 0, .int .i64 0, .int .i64 0, .int .i64 0, .int .i64 0, .int .i64 0, .int .i64 0, .int .i64 0, .int .i64 0, .int .i64 0, .int .i64 0, .int .i64 0, .int .i64 0, .int .i64 0, .int .i64 0, .int .i64 0, .int .i64 0, .int .i64 0, .int .i64 0, .int .i64 0, .int .i64 0, .int .i64 0, .int .i64 0, .int .i64 0, .int .i64 0, .int .i64 0, .int .i64 0, .int .i64 0, .int .i64 0, .int .i64 0, .int .i64 0, .int .i64 0, .int .i64 0, .int .i64 0, .int .i64 0, .int .i64 0, .int .i64 0, .int .i64 0, .int .i64 0, .int .i64 0, .int .i64 0, .int .i64 0, .int .i64 0, .int .i64 0, .int .i64 0, .int .i64 0, .int .i64 0, .int .i64 0, .int .i64 0, .int .i64 0, .int .i64 0, .int .i64 0, .int .i64 0, .int .i64 0, .int .i64 0, .int .i64 0, .int .i64 0, .int .i64 0, .int .i64 0, .int .i64 0]).append ([.int .i64 0, .int .i64 0, .int .i64 0, .int .i64 0, .int .i64 0, .int .i64 0, .int .i64 0, .int .i64 0, .int .i64 0, .int .i64 0, .int .i64 0, .int .i64 0, .int .i64 0, .int .i64 0, .int .i64 0, .int .i64 0, .int .i64 0, .int .i64 0, .int .i64 0, .int .i64 0, .int .i64 0, .int .i64 0, .int .i64 0, .int .i64 0, .int .i64 0, .int .i64 0, .int .i64 0, .int .i64 0, .int .i64 0, .int .i64 0, .int .i64 0, .int .i64 0, .int .i64 0, .int .i64 0, .int .i64 0, .int .i64 0, .int .i64 0, .int .i64 0, .int .i64 0, .int .i64 0, .int .i64 0, .int .i64 0, .int .i64 0, .int .i64 0, .int .i64 0, .int .i64 0, .int .i64 0, .int .i64 0, .int .i64 0, .int .i64 0, .int .i64 0, .int .i64 0, .int .i64 0, .int .i64 0, .int .i64 0, .int .i64 0, .int .i64 0, .int .i64 0, .int .i64 0, .int .i64 0, .int .i64 0, .int .i64 0, .int .i64 0, .int .i64 0].append ([.int .i64 0, .int .i64 0, .int .i64 0, .int .i64 0, .int .i64 0, .int .i64 0, .int .i64 0, .int .i64 0, .int .i64 0, .int .i64 0, .int .i64 0, .int .i64 0, .int .i64 0, .int .i64 0, .int .i64 0, .int .i64 0, .int .i64 0, .int .i64 0, .int .i64 0, .int .i64 0, .int .i64 0, .int .i64 0, .int .i64 0, .int .i64 0, .int .i64 0, .int .i64 0, .int .i64 0, .int .i64 0, .int .i64 0, .int .i64 0, .int .i64 0, .int .i64 0].append [.int .i64 0, .int .i64 0, .int .i64 0, .int .i64 0, .int .i64 0, .int .i64 0, .int .i64 0, .int .i64 0, .int .i64 0, .int .i64 0, .int .i64 0, .int .i64 0, .int .i64 0, .int .i64 0, .int .i64 0, .int .i64 0, .int .i64 0, .int .i64 0, .int .i64 0, .int .i64 0, .int .i64 0, .int .i64 0, .int .i64 0, .int .i64 0, .int .i64 0, .int .i64 0, .int .i64 0, .int .i64 0, .int .i64 0, .int .i64 0, .int .i64 0, .int .i64 0, .int .i64 0]))).toArray)).toList := by kernel_rfl
set_option maxRecDepth 20000 in
theorem eo168 : EO Tryd.prog 168 257 2056 (Value.agg (([.int .i64 0, .int .i64 0, .int .i64 0, .int .i64 0, .int .i64 0, .int .i64 0, .int .i64 0, .int .i64 0, .int .i64 0, .int .i64 0, .int .i64 0, .int .i64 0, .int .i64 0, .int .i64 0, .int .i64 0, .int .i64 0, .int .i64 0, .int .i64 0, .int .i64 0, .int .i64 0, .int .i64 0, .int .i64 0, .int .i64 0, .int .i64 0, .int .i64 0, .int .i64 0, .int .i64 0, .int .i64 0, .int .i64 0, .int .i64 0, .int .i64 0, .int .i64 0, .int .i64 0, .int .i64 0, .int .i64 0, .int .i64 0, .int .i64 0, .int .i64 0, .int .i64 0, .int .i64 0, .int .i64 0, .int .i64 0, .int .i64 0, .int .i64 0, .int .i64 0, .int .i64 0, .int .i64 0, .int .i64 0, .int .i64 0, .int .i64 0, .int .i64 0, .int .i64 0, .int .i64 0, .int .i64 0, .int .i64 0, .int .i64 0, .int .i64 0, .int .i64 0, .int .i64 0, .int .i64 0, .int .i64 0, .int .i64 0, .int .i64 0, .int .i64 0].append [.int .i64 0, .int .i64 0, .int .i64 0, .int .i64 0, .int .i64 0, .int .i64 0, .int .i64 0, .int .i64 0, .int .i64 0, .int .i64 0, .int .i64 0, .int .i64 0, .int .i64 0, .int .i64 0, .int .i64 0, .int .i64 0, .int .i64 0, .int .i64 0, .int .i64 0, .int .i64 0, .int .i64 0, .int .i64 0, .int .i64 0, .int .i64 0, .int .i64 0, .int .i64 0, .int .i64 0, .int .i64 0, .int .i64 0, .int .i64 0, .int .i64 0, .int .i64 0, .int .i64 0, .int .i64 0, .int .i64 0, .int .i64 0, .int .i64 0, .int .i64 0, .int .i64 0, .int .i64 0, .int .i64 0, .int .i64 0, .int .i64 0, .int .i64 0, .int .i64 0, .int .i64 0, .int .i64 0, .int .i64 0, .int .i64 0, .int .i64 0, .int .i64 0, .int .i64 0, .int .i64 0, .int .i64 0, .int .i64 0, .int .i64 0, .int .i64 0, .int .i64 0, .int .i64 0, .int .i64 0, .int .i64 0, .int .i64 0, .int .i64 0, .int .i64 0]).append ([.int .i64 0, .int .i64 0, .int .i64 0, .int .i64 0, .int .i64 0, .int .i64 0, .int .i64 0, .int .i64 0, .int .i64 0, .int .i64 0, .int .i64 0, .int .i64 0, .int .i64 0, .int .i64 0, .int .i64 0, .int .i64 0, .int .i64 0, .int .i64 0, .int .i64 0, .int .i64 0, .int .i64 0, .int .i64 0, .int .i64 0, .int .i64 0, .int .i64 0, .int .i64 0, .int .i64 0, .int .i64 0, .int .i64 0, .int .i64 0, .int .i64 0, .int .i64 0, .int .i64 0, .int .i64 0, .int .i64 0, .int .i64 0, .int .i64 0, .int .i64 0, .int .i64 0, .int .i64 0, .int .i64 0, .int .i64 0, .int .i64 0, .int .i64 0, .int .i64 0, .int .i64 0, .int .i64 0, .int .i64 0, .int .i64 0, .int .i64 0, .int .i64 0, .int .i64 0, .int .i64 0, .int .i64 0, .int .i64 0, .int .i64 0, .int .i64 0, .int .i64 0, .int .i64 0, .int .i64 0, .int .i64 0, .int .i64 0, .int .i64 0, .int .i64 0].append ([.int .i64 0, .int .i64 0, .int .i64 0, .int .i64 0, .int .i64 0, .int .i64 0, .int .i64 0, .int .i64 0, .int .i64 0, .int .i64 0, .int .i64 0, .int .i64 0, .int .i64 0, .int .i64 0, .int .i64 0, .int .i64 0, .int .i64 0, .int .i64 0, .int .i64 0, .int .i64 0, .int .i64 0, .int .i64 0, .int .i64 0, .int .i64 0, .int .i64 0, .int .i64 0, .int .i64 0, .int .i64 0, .int .i64 0, .int .i64 0, .int .i64 0, .int .i64 0].append [.int .i64 0, .int .i64 0, .int .i64 0, .int .i64 0, .int .i64 0, .int .i64 0, .int .i64 0, .int .i64 0, .int .i64 0, .int .i64 0, .int .i64 0, .int .i64 0, .int .i64 0, .int .i64 0, .int .i64 0, .int .i64 0, .int .i64 0, .int .i64 0, .int .i64 0, .int .i64 0, .int .i64 0, .int .i64 0, .int .i64 0, .int .i64 0, .int .i64 0, .int .i64 0, .int .i64 0, .int .i64 0, .int .i64 0, .int .i64 0, .int .i64 0, .int .i64 0, .int .i64 0]))).toArray) := ⟨by kernel_rfl, rfl, by decide⟩
set_option maxRecDepth 20000 in
theorem bd168 : BD Tryd.prog 168 (Value.cells (Value.agg (([.int .i64 0, .int .i64 0, .int .i64 0, .int .i64 0, .int .i64 0, .int .i64 0, .int .i64 0, .int .i64 0, .int .i64 0, .int .i64 0, .int .i64 0, .int .i64 0, .int .i64 0, .int .i64 0, .int .i64 0, .int .i64 0, .int .i64 0, .int .i64 0, .int .i64 0, .int .i64 0, .int .i64 0, .int .i64 0, .int .i64 0, .int .i64 0, .int .i64 0, .int .i64 0, .int .i64 0, .int .i64 0, .int .i64 0, .int .i64 0, .int .i64 0, .int .i64 0, .int .i64 0, .int .i64 0, .int .i64 0, .int .i64 0, .int .i64 0, .int .i64 0, .int .i64 0, .int .i64 0, .int .i64 0, .int .i64 0, .int .i64 0, .int .i64 0, .int .i64 0, .int .i64 0, .int .i64 0, .int .i64 0, .int .i64 0, .int .i64 0, .int .i64 0, .int .i64 0, .int .i64 0, .int .i64 0, .int .i64 0, .int .i64 0, .int .i64 0, .int .i64 0, .int .i64 0, .int .i64 0, .int .i64 0, .int .i64 0, .int .i64 0, .int .i64 0].append [.int .i64 0, .int .i64 0, .int .i64 0, .int .i64 0, .int .i64 0, .int .i64 0, .int .i64 0, .int .i64 0, .int .i64 0, .int .i64 0, .int .i64 0, .int .i64 0, .int .i64 0, .int .i64 0, .int .i64 0, .int .i64 0, .int .i64 0, .int .i64 0, .int .i64 0, .int .i64 0, .int .i64 0, .int .i64 0, .int .i64 0, .int .i64 0, .int .i64 0, .int .i64 0, .int .i64 0, .int .i64 0, .int .i64 0, .int .i64 0, .int .i64 0, .int .i64 0, .int .i64 0, .int .i64 0, .int .i64 0, .int .i64 0, .int .i64 0, .int .i64 0, .int .i64 0, .int .i64 0, .int .i64 0, .int .i64 0, .int .i64 0, .int .i64 0, .int .i64 0, .int .i64 0, .int .i64 0, .int .i64 0, .int .i64 0, .int .i64 0, .int .i64 0, .int .i64 0, .int .i64 0, .int .i64 0, .int .i64 0, .int .i64 0, .int .i64 0, .int .i64 0, .int .i64 0, .int .i64 0, .int .i64 0, .int .i64 0, .int .i64 0, .int .i64 0]).append ([.int .i64 0, .int .i64 0, .int .i64 0, .int .i64 0, .int .i64 0, .int .i64 0, .int .i64 0, .int .i64 0, .int .i64 0, .int .i64 0, .int .i64 0, .int .i64 0, .int .i64 0, .int .i64 0, .int .i64 0, .int .i64 0, .int .i64 0, .int .i64 0, .int .i64 0, .int .i64 0, .int .i64 0, .int .i64 0, .int .i64 0, .int .i64 0, .int .i64 0, .int .i64 0, .int .i64 0, .int .i64 0, .int .i64 0, .int .i64 0, .int .i64 0, .int .i64 0, .int .i64 0, .int .i64 0, .int .i64 0, .int .i64 0, .int .i64 0, .int .i64 0, .int .i64 0, .int .i64 0, .int .i64 0, .int .i64 0, .int .i64 0, .int .i64 0, .int .i64 0, .int .i64 0, .int .i64 0, .int .i64 0, .int .i64 0, .int .i64 0, .int .i64 0, .int .i64 0, .int .i64 0, .int .i64 0, .int .i64 0, .int .i64 0, .int .i64 0, .int .i64 0, .int .i64 0, .int .i64 0, .int .i64 0, .int .i64 0, .int .i64 0, .int .i64 0].append ([.int .i64 0, .int .i64 0, .int .i64 0, .int .i64 0, .int .i64 0, .int .i64 0, .int .i64 0, .int .i64 0, .int .i64 0, .int .i64 0, .int .i64 0, .int .i64 0, .int .i64 0, .int .i64 0, .int .i64 0, .int .i64 0, .int .i64 0, .int .i64 0, .int .i64 0, .int .i64 0, .int .i64 0, .int .i64 0, .int .i64 0, .int .i64 0, .int .i64 0, .int .i64 0, .int .i64 0, .int .i64 0, .int .i64 0, .int .i64 0, .int .i64 0, .int .i64 0].append [.int .i64 0, .int .i64 0, .int .i64 0, .int .i64 0, .int .i64 0, .int .i64 0, .int .i64 0, .int .i64 0, .int .i64 0, .int .i64 0, .int .i64 0, .int .i64 0, .int .i64 0, .int .i64 0, .int .i64 0, .int .i64 0, .int .i64 0, .int .i64 0, .int .i64 0, .int .i64 0, .int .i64 0, .int .i64 0, .int .i64 0, .int .i64 0, .int .i64 0, .int .i64 0, .int .i64 0, .int .i64 0, .int .i64 0, .int .i64 0, .int .i64 0, .int .i64 0, .int .i64 0]))).toArray)).toList [(0, 1), (1, 1), (2, 1), (3, 1), (4, 1), (5, 1), (6, 1), (7, 1), (8, 1), (9, 1), (10, 1), (11, 1), (12, 1), (13, 1), (14, 1), (15, 1), (16, 1), (17, 1), (18, 1), (19, 1), (20, 1), (21, 1), (22, 1), (23, 1), (24, 1), (25, 1), (26, 1), (27, 1), (28, 1), (29, 1), (30, 1), (31, 1), (32, 1), (33, 1), (34, 1), (35, 1), (36, 1), (37, 1), (38, 1), (39, 1), (40, 1), (41, 1), (42, 1), (43, 1), (44, 1), (45, 1), (46, 1), (47, 1), (48, 1), (49, 1), (50, 1), (51, 1), (52, 1), (53, 1), (54, 1), (55, 1), (56, 1), (57, 1), (58, 1), (59, 1), (60, 1), (61, 1), (62, 1), (63, 1), (64, 1), (65, 1), (66, 1), (67, 1), (68, 1), (69, 1), (70, 1), (71, 1), (72, 1), (73, 1), (74, 1), (75, 1), (76, 1), (77, 1), (78, 1), (79, 1), (80, 1), (81, 1), (82, 1), (83, 1), (84, 1), (85, 1), (86, 1), (87, 1), (88, 1), (89, 1), (90, 1), (91, 1), (92, 1), (93, 1), (94, 1), (95, 1), (96, 1), (97, 1), (98, 1), (99, 1), (100, 1), (101, 1), (102, 1), (103, 1), (104, 1), (105, 1), (106, 1), (107, 1), (108, 1), (109, 1), (110, 1), (111, 1), (112, 1), (113, 1), (114, 1), (115, 1), (116, 1), (117, 1), (118, 1), (119, 1), (120, 1), (121, 1), (122, 1), (123, 1), (124, 1), (125, 1), (126, 1), (127, 1), (128, 1), (129, 1), (130, 1), (131, 1), (132, 1), (133, 1), (134, 1), (135, 1), (136, 1), (137, 1), (138, 1), (139, 1), (140, 1), (141, 1), (142, 1), (143, 1), (144, 1), (145, 1), (146, 1), (147, 1), (148, 1), (149, 1), (150, 1), (151, 1), (152, 1), (153, 1), (154, 1), (155, 1), (156, 1), (157, 1), (158, 1), (159, 1), (160, 1), (161, 1), (162, 1), (163, 1), (164, 1), (165, 1), (166, 1), (167, 1), (168, 1), (169, 1), (170, 1), (171, 1), (172, 1), (173, 1), (174, 1), (175, 1), (176, 1), (177, 1), (178, 1), (179, 1), (180, 1), (181, 1), (182, 1), (183, 1), (184, 1), (185, 1), (186, 1), (187, 1), (188, 1), (189, 1), (190, 1), (191, 1), (192, 1), (193, 1), (194, 1), (195, 1), (196, 1), (197, 1), (198, 1), (199, 1), (200, 1), (201, 1), (202, 1), (203, 1), (204, 1), (205, 1), (206, 1), (207, 1), (208, 1), (209, 1), (210, 1), (211, 1), (212, 1), (213, 1), (214, 1), (215, 1), (216, 1), (217, 1), (218, 1), (219, 1), (220, 1), (221, 1), (222, 1), (223, 1), (224, 1), (225, 1), (226, 1), (227, 1), (228, 1), (229, 1), (230, 1), (231, 1), (232, 1), (233, 1), (234, 1), (235, 1), (236, 1), (237, 1), (238, 1), (239, 1), (240, 1), (241, 1), (242, 1), (243, 1), (244, 1), (245, 1), (246, 1), (247, 1), (248, 1), (249, 1), (250, 1), (251, 1), (252, 1), (253, 1), (254, 1), (255, 1), (256, 1)] := ⟨by kernel_rfl, by kernel_rfl, by kernel_rfl⟩
@[go_sem] theorem ce169 : Tryd.prog.cellsOf 169 = 31 := by kernel_rfl
theorem zv169 : (Tryd.prog.info? 169).bind (fun i => i.zero.map fun z => z.cells.toList) = some (Value.cells (Value.agg #[.int .i64 0, .int .i64 0, .int .i64 0, .int .i64 0, .int .i64 0, .int .i64 0, .int .i64 0, .int .i64 0, .int .i64 0, .int .i64 0, .int .i64 0, .int .i64 0, .int .i64 0, .int .i64 0, .int .i64 0, .int .i64 0, .int .i64 0, .int .i64 0, .int .i64 0, .int .i64 0, .int .i64 0, .int .i64 0, .int .i64 0, .int .i64 0, .int .i64 0, .int .i64 0, .int .i64 0, .int .i64 0, .int .i64 0, .int .i64 0, .int .i64 0])).toList := by kernel_rfl
theorem eo169 : EO Tryd.prog 169 31 248 (Value.agg #[.int .i64 0, .int .i64 0, .int .i64 0, .int .i64 0, .int .i64 0, .int .i64 0, .int .i64 0, .int .i64 0, .int .i64 0, .int .i64 0, .int .i64 0, .int .i64 0, .int .i64 0, .int .i64 0, .int .i64 0, .int .i64 0, .int .i64 0, .int .i64 0, .int .i64 0, .int .i64 0, .int .i64 0, .int .i64 0, .int .i64 0, .int .i64 0, .int .i64 0, .int .i64 0, .int .i64 0, .int .i64 0, .int .i64 0, .int .i64 0, .int .i64 0]) := ⟨by kernel_rfl, rfl, by decide⟩
theorem bd169 : BD Tryd.prog 169 (Value.cells (Value.agg #[.int .i64 0, .int .i64 0, .int .i64 0, .int .i64 0, .int .i64 0, .int .i64 0, .int .i64 0, .int .i64 0, .int .i64 0, .int .i64 0, .int .i64 0, .int .i64 0, .int .i64 0, .int .i64 0, .int .i64 0, .int .i64 0, .int .i64 0, .int .i64 0, .int .i64 0, .int .i64 0, .int .i64 0, .int .i64 0, .int .i64 0, .int .i64 0, .int .i64 0, .int .i64 0, .int .i64 0, .int .i64 0, .int .i64 0, .int .i64 0, .int .i64 0])).toList [(0, 1), (1, 1), (2, 1), (3, 1), (4, 1), (5, 1), (6, 1), (7, 1), (8, 1), (9, 1), (10, 1), (11, 1), (12, 1), (13, 1), (14, 1), (15, 1), (16, 1), (17, 1), (18, 1), (19, 1), (20, 1), (21, 1), (22, 1), (23, 1), (24, 1), (25, 1), (26, 1), (27, 1), (28, 1), (29, 1), (30, 1)] := ⟨by kernel_rfl, by kernel_rfl, by kernel_rfl⟩
@[go_sem] theorem ce170 : Tryd.prog.cellsOf 170 = 352 := by kernel_rfl
set_option maxRecDepth 20000 in
set_option maxRecDepth 20000 in
set_option maxRecDepth 20000 in
@[go_sem] theorem ce171 : Tryd.prog.cellsOf 171 = 352 := by kernel_rfl
set_option maxRecDepth 20000 in
theorem zv171 : (Tryd.prog.info? 171).bind (fun i => i.zero.map fun z => z.cells.toList) = some (Value.cells (Value.agg ((([.bool false, .int .i64 0, .int .i64 0, .int .i64 0, .int .i64 0, .int .i64 0, .int .i64 0, .int .i64 0, .int .i64 0, .int .i64 0, .int .i64 0, .int .i64 0, .int .i64 0, .int .i64 0, .int .i64 0, .int .i64 0, .int .i64 0, .int .i64 0, .int .i64 0, .int .i64 0, .int .i64 0, .int .i64 0, .int .i64 0, .int .i64 0, .int .i64 0, .int .i64 0, .int .i64 0, .int .i64 0, .int .i64 0, .int .i64 0, .int .i64 0, .int .i64 0, .int .i64 0, .int .i64 0, .int .i64 0, .int .i64 0, .int .i64 0, .int .i64 0, .int .i64 0, .int .i64 0, .int .i64 0, .int .i64 0, .int .i64 0, .int .i64 0].append [.int .i64 0, .int .i64 0, .int .i64 0, .int .i64 0, .int .i64 0, .int .i64 0, .int .i64 0, .int .i64 0, .int .i64 0, .int .i64 0, .int .i64 0, .int .i64 0, .int .i64 0, .int .i64 0, .int .i64 0, .int .i64 0, .int .i64 0, .int .i64 0, .int .i64 0, .int .i64 0, .int .i64 0, .int .i64 0, .int .i64 0, .int .i64 0, .int .i64 0, .int .i64 0, .int .i64 0, .int .i64 0, .int .i64 0, .int .i64 0, .int .i64 0, .int .i64 0, .int .i64 0, .int .i64 0, .int .i64 0, .int .i64 0, .int .i64 0, .int .i64 0, .int .i64 0, .int .i64 0, .int .i64 0, .int .i64 0, .int .i64 0, .int .i64 0]).append ([.int .i64 0, .int .i64 0, .int .i64 0, .int .i64 0, .int .i64 0, .int .i64 0, .int .i64 0, .int .i64 0, .int .i64 0, .int .i64 0, .int .i64 0, .int .i64 0, .int .i64 0, .int .i64 0, .int .i64 0, .int .i64 0, .int .i64 0, .int .i64 0, .int .i64 0, .int .i64 0, .int .i64 0, .int .i64 0, .int .i64 0, .int .i64 0, .int .i64 0, .int .i64 0, .int .i64 0, .int .i64 0, .int .i64 0, .int .i64 0, .int .i64 0, .int .i64 0, .int .i64 0, .int .i64 0, .int .i64 0, .int .i64 0, .int .i64 0, .int .i64 0, .int .i64 0, .int .i64 0, .int .i64 0, .int .i64 0, .int .i64 0, .int .i64 0].append [.int .i64 0, .int .i64 0, .int .i64 0, .int .i64 0, .int .i64 0, .int .i64 0, .int .i64 0, .int .i64 0, .int .i64 0, .int .i64 0, .int .i64 0, .int .i64 0, .int .i64 0, .int .i64 0, .int .i64 0, .int .i64 0, .int .i64 0, .int .i64 0, .int .i64 0, .int .i64 0, .int .i64 0, .int .i64 0, .int .i64 0, .int .i64 0, .int .i64 0, .int .i64 0, .int .i64 0, .int .i64 0, .int .i64 0, .int .i64 0, .int .i64 0, .int .i64 0, .int .i64 0, .int .i64 0, .int .i64 0, .int .i64 0, .int .i64 0, .int .i64 0, .int .i64 0, .int .i64 0, .int .i64 0, .int .i64 0, .int .i64 0, .int .i64 0])).append (([.int .i64 0, .int .i64 0, .int .i64 0, .int .i64 0, .int .i64 0, .int .i64 0, .int .i64 0, .int .i64 0, .int .i64 0, .int .i64 0, .int .i64 0, .int .i64 0, .int .i64 0, .int .i64 0, .int .i64 0, .int .i64 0, .int .i64 0, .int .i64 0, .int .i64 0, .int .i64 0, .int .i64 0, .int .i64 0, .int .i64 0, .int .i64 0, .int .i64 0, .int .i64 0, .int .i64 0, .int .i64 0, .int .i64 0, .int .i64 0, .int .i64 0, .int .i64 0, .int .i64 0, .int .i64 0, .int .i64 0, .int .i64 0, .int .i64 0, .int .i64 0, .int .i64 0, .int .i64 0, .int .i64 0, .int .i64 0, .int .i64 0, .int .i64 0].append [.int .i64 0, .int .i64 0, .int .i64 0, .int .i64 0, .int .i64 0, .int .i64 0, .int .i64 0, .int .i64 0, .int .i64 0, .int .i64 0, .int .i64 0, .int .i64 0, .int .i64 0, .int .i64 0, .int .i64 0, .int .i64 0, .int .i64 0, .int .i64 0, .int .i64 0, .int .i64 0, .int .i64 0, .int .i64 0, .int .i64 0, .int .i64 0, .int .i64 0, .int .i64 0, .int .i64 0, .int .i64 0, .int .i64 0, .int .i64 0, .int .i64 0, .int .i64 0, .int .i64 0, .int .i64 0, .int .i64 0, .int .i64 0, .int .i64 0, .int .i64 0, Value.slice none 0 0, .int .i64 0, .int .i64 0, .int .i64 0, .int .i64 0, .int .i64 0]).append ([.int .i64 0, .int .i64 0, .int .i64 0, .int .i64 0, .int .i64 0, .int .i64 0, .int .i64 0, .int .i64 0, .int .i64 0, .int .i64 0, .int .i64 0, .int .i64 0, .int .i64 0, .int .i64 0, .int .i64 0, .int .i64 0, .int .i64 0, .int .i64 0, .int .i64 0, .int .i64 0, .int .i64 0, .int .i64 0, .int .i64 0, .int .i64 0, .int .i64 0, .int .i64 0, .int .i64 0, .int .i64 0, .int .i64 0, .int .i64 0, .int .i64 0, .int .i64 0, .int .i64 0, .int .i64 0, .int .i64 0, .int .i64 0, .int .i64 0, .int .i64 0, .int .i64 0, .int .i64 0, .int .i64 0, .int .i64 0, .int .i64 0, .int .i64 0].append [.int .i64 0, .int .i64 0, .int .i64 0, .int .i64 0, .int .i64 0, .int .i64 0, .int .i64 0, .int .i64 0, .int .i64 0, .int .i64 0, .int .i64 0, .int .i64 0, .int .i64 0, .int .i64 0, .int .i64 0, .int .i64 0, .int .i64 0, .int .i64 0, .int .i64 0, .int .i64 0, .int .i64 0, .int .i64 0, .int .i64 0, .int .i64 0, .int .i64 0, .int .i64 0, .int .i64 0, .int .i64 0, .int .i64 0, .int .i64 0, .int .i64 0, .int .i64 0, .int .i64 0, .int .i64 0, .int .i64 0, .int .i64 0, .int .i64 0, .int .i64 0, .int .i64 0, .int .i64 0, .int .i64 0, .int .i64 0, .int .i64 0, .int .i64 0]))).toArray)).toList := by kernel_rfl
set_option maxRecDepth 20000 in
theorem eo171 : EO Tryd.prog 171 352 2832 (Value.agg ((([.bool false, .int .i64 0, .int .i64 0, .int .i64 0, .int .i64 0, .int .i64 0, .int .i64 0, .int .i64 0, .int .i64 0, .int .i64 0, .int .i64 0, .int .i64 0, .int .i64 0, .int .i64 0, .int .i64 0, .int .i64 0, .int .i64 0, .int .i64 0, .int .i64 0, .int .i64 0, .int .i64 0, .int .i64 0, .int .i64 0, .int .i64 0, .int .i64 0, .int .i64 0, .int .i64 0, .int .i64 0, .int .i64 0, .int .i64 0, .int .i64 0, .int .i64 0, .int .i64 0, .int .i64 0, .int .i64 0, .int .i64 0, .int .i64 0, .int .i64 0, .int .i64 0, .int .i64 0, .int .i64 0, .int .i64 0, .int .i64 0, .int .i64 0].append [.int .i64 0, .int .i64 0, .int .i64 0, .int .i64 0, .int .i64 0, .int .i64 0, .int .i64 0, .int .i64 0, .int .i64 0, .int .i64 0, .int .i64 0, .int .i64 0, .int .i64 0, .int .i64 0, .int .i64 0, .int .i64 0, .int .i64 0, .int .i64 0, .int .i64 0, .int .i64 0, .int .i64 0, .int .i64 0, .int .i64 0, .int .i64 0, .int .i64 0, .int .i64 0, .int .i64 0, .int .i64 0, .int .i64 0, .int .i64 0, .int .i64 0, .int .i64 0, .int .i64 0, .int .i64 0, .int .i64 0, .int .i64 0, .int .i64 0, .int .i64 0, .int .i64 0, .int .i64 0, .int .i64 0, .int .i64 0, .int .i64 0, .int .i64 0]).append ([.int .i64 0, .int .i64 0, .int .i64 0, .int .i64 0, .int .i64 0, .int .i64 0, .int .i64 0, .int .i64 0, .int .i64 0, .int .i64 0, .int .i64 0, .int .i64 0, .int .i64 0, .int .i64 0, .int .i64 0, .int .i64 0, .int .i64 0, .int .i64 0, .int .i64 0, .int .i64 0, .int .i64 0, .int .i64 0, .int .i64 0, .int .i64 0, .int .i64 0, .int .i64 0, .int .i64 0, .int .i64 0, .int .i64 0, .int .i64 0, .int .i64 0, .int .i64 0, .int .i64 0, .int .i64 0, .int .i64 0, .int .i64 0, .int .i64 0, .int .i64 0, .int .i64 0, .int .i64 0, .int .i64 0, .int .i64 0, .int .i64 0, .int .i64 0].append [.int .i64 0, .int .i64 0, .int .i64 0, .int .i64 0, .int .i64 0, .int .i64 0, .int .i64 0, .int .i64 0, .int .i64 0, .int .i64 0, .int .i64 0, .int .i64 0, .int .i64 0, .int .i64 0, .int .i64 0, .int .i64 0, .int .i64 0, .int .i64 0, .int .i64 0, .int .i64 0, .int .i64 0, .int .i64 0, .int .i64 0, .int .i64 0, .int .i64 0, .int .i64 0, .int .i64 0, .int .i64 0, .int .i64 0, .int .i64 0, .int .i64 0, .int .i64 0, .int .i64 0, .int .i64 0, .int .i64 0, .int .i64 0, .int .i64 0, .int .i64 0, .int .i64 0, .int .i64 0, .int .i64 0, .int .i64 0, .int .i64 0, .int .i64 0])).append (([.int .i64 0, .int .i64 0, .int .i64 0, .int .i64 0, .int .i64 0, .int .i64 0, .int .i64 0, .int .i64 0, .int .i64 0, .int .i64 0, .int .i64 0, .int .i64 0, .int .i64 0, .int .i64 0, .int .i64 0, .int .i64 0, .int .i64 0, .int .i64 0, .int .i64 0, .int .i64 0, .int .i64 0, .int .i64 0, .int .i64 0, .int .i64 0, .int .i64 0, .int .i64 0, .int .i64 0, .int .i64 0, .int .i64 0, .int .i64 0, .int .i64 0, .int .i64 0, .int .i64 0, .int .i64 0, .int .i64 0, .int .i64 0, .int .i64 0, .int .i64 0, .int .i64 0, .int .i64 0, .int .i64 0, .int .i64 0, .int .i64 0, .int .i64 0].append [.int .i64 0, .int .i64 0, .int .i64 0, .int .i64 0, .int .i64 0, .int .i64 0, .int .i64 0, .int .i64 0, .int .i64 0, .int .i64 0, .int .i64 0, .int .i64 0, .int .i64 0, .int .i64 0, .int .i64 0, .int .i64 0, .int .i64 0, .int .i64 0, .int .i64 0, .int .i64 0, .int .i64 0, .int .i64 0, .int .i64 0, .int .i64 0, .int .i64 0, .int .i64 0, .int .i64 0, .int .i64 0, .int .i64 0, .int .i64 0, .int .i64 0, .int .i64 0, .int .i64 0, .int .i64 0, .int .i64 0, .int .i64 0, .int .i64 0, .int .i64 0, Value.slice none 0 0, .int .i64 0, .int .i64 0, .int .i64 0, .int .i64 0, .int .i64 0]).append ([.int .i64 0, .int .i64 0, .int .i64 0, .int .i64 0, .int .i64 0, .int .i64 0, .int .i64 0, .int .i64 0, .int .i64 0, .int .i64 0, .int .i64 0, .int .i64 0, .int .i64 0, .int .i64 0, .int .i64 0, .int .i64 0, .int .i64 0, .int .i64 0, .int .i64 0, .int .i64 0, .int .i64 0, .int .i64 0, .int .i64 0, .int .i64 0, .int .i64 0, .int .i64 0, .int .i64 0, .int .i64 0, .int .i64 0, .int .i64 0, .int .i64 0, .int .i64 0, .int .i64 0, .int .i64 0, .int .i64 0, .int .i64 0, .int .i64 0, .int .i64 0, .int .i64 0, .int .i64 0, .int .i64 0, .int .i64 0, .int .i64 0, .int .i64 0].append [.int .i64 0, .int .i64 0, .int .i64 0, .int .i64 0, .int .i64 0, .int .i64 0, .int .i64 0, .int .i64 0, .int .i64 0, .int .i64 0, .int .i64 0, .int .i64 0, .int .i64 0, .int .i64 0, .int .i64 0, .int .i64 0, .int .i64 0, .int .i64 0, .int .i64 0, .int .i64 0, .int .i64 0, .int .i64 0, .int .i64 0, .int .i64 0, .int .i64 0, .int .i64 0, .int .i64 0, .int .i64 0, .int .i64 0, .int .i64 0, .int .i64 0, .int .i64 0, .int .i64 0, .int .i64 0, .int .i64 0, .int .i64 0, .int .i64 0, .int .i64 0, .int .i64 0, .int .i64 0, .int .i64 0, .int .i64 0, .int .i64 0, .int .i64 0]))).toArray) := ⟨by kernel_rfl, rfl, by decide⟩
set_option maxRecDepth 20000 in
theorem bd171 : BD Tryd.prog 171 (Value.cells (Value.agg ((([.bool false, .int .i64 0, .int .i64 0, .int .i64 0, .int .i64 0, .int .i64 0, .int .i64 0, .int .i64 0, .int .i64 0, .int .i64 0, .int .i64 0, .int .i64 0, .int .i64 0, .int .i64 0, .int .i64 0, .int .i64 0, .int .i64 0, .int .i64 0, .int .i64 0, .int .i64 0, .int .i64 0, .int .i64 0, .int .i64 0, .int .i64 0, .int .i64 0, .int .i64 0, .int .i64 0, .int .i64 0, .int .i64 0, .int .i64 0, .int .i64 0, .int .i64 0, .int .i64 0, .int .i64 0, .int .i64 0, .int .i64 0, .int .i64 0, .int .i64 0, .int .i64 0, .int .i64 0, .int .i64 0, .int .i64 0, .int .i64 0, .int .i64 0].append [.int .i64 0, .int .i64 0, .int .i64 0, .int .i64 0, .int .i64 0, .int .i64 0, .int .i64 0, .int .i64 0, .int .i64 0, .int .i64 0, .int .i64 0, .int .i64 0, .int .i64 0, .int .i64 0, .int .i64 0, .int .i64 0, .int .i64 0, .int .i64 0, .int .i64 0, .int .i64 0, .int .i64 0, .int .i64 0, .int .i64 0, .int .i64 0, .int .i64 0, .int .i64 0, .int .i64 0, .int .i64 0, .int .i64 0, .int .i64 0, .int .i64 0, .int .i64 0, .int .i64 0, .int .i64 0, .int .i64 0, .int .i64 0, .int .i64 0, .int .i64 0, .int .i64 0, .int .i64 0, .int .i64 0, .int .i64 0, .int .i64 0, .int .i64 0]).append ([.int .i64 0, .int .i64 0, .int .i64 0, .int .i64 0, .int .i64 0, .int .i64 0, .int .i64 0, .int .i64 0, .int .i64 0, .int .i64 0, .int .i64 0, .int .i64 0, .int .i64 0, .int .i64 0, .int .i64 0, .int .i64 0, .int .i64 0, .int .i64 0, .int .i64 0, .int .i64 0, .int .i64 0, .int .i64 0, .int .i64 0, .int .i64 0, .int .i64 0, .int .i64 0, .int .i64 0, .int .i64 0, .int .i64 0, .int .i64 0, .int .i64 0, .int .i64 0, .int .i64 0, .int .i64 0, .int .i64 0, .int .i64 0, .int .i64 0, .int .i64 0, .int .i64 0, .int .i64 0, .int .i64 0, .int .i64 0, .int .i64 0, .int .i64 0].append [.int .i64 0, .int .i64 0, .int .i64 0, .int .i64 0, .int .i64 0, .int .i64 0, .int .i64 0, .int .i64 0, .int .i64 0, .int .i64 0, .int .i64 0, .int .i64 0, .int .i64 0, .int .i64 0, .int .i64 0, .int .i64 0, .int .i64 0, .int .i64 0, .int .i64 0, .int .i64 0, .int .i64 0, .int .i64 0, .int .i64 0, .int .i64 0, .int .i64 0, .int .i64 0, .int .i64 0, .int .i64 0, .int .i64 0, .int .i64 0, .int .i64 0, .int .i64 0, .int .i64 0, .int .i64 0, .int .i64 0, .int .i64 0, .int .i64 0, .int .i64 0, .int .i64 0, .int .i64 0, .int .i64 0, .int .i64 0, .int .i64 0, .int .i64 0])).append (([.int .i64 0, .int .i64 0, .int .i64 0, .int .i64 0, .int .i64 0, .int .i64 0, .int .i64 0, .int .i64 0, .int .i64 0, .int .i64 0, .int .i64 0, .int .i64 0, .int .i64 0, .int .i64 0, .int .i64 0, .int .i64 0, .int .i64 0, .int .i64 0, .int .i64 0, .int .i64 0, .int .i64 0, .int .i64 0, .int .i64 0, .int .i64 0, .int .i64 0, .int .i64 0, .int .i64 0, .int .i64 0, .int .i64 0, .int .i64 0, .int .i64 0, .int .i64 0, .int .i64 0, .int .i64 0, .int .i64 0, .int .i64 0, .int .i64 0, .int .i64 0, .int .i64 0, .int .i64 0, .int .i64 0, .int .i64 0, .int .i64 0, .int .i64 0].append [.int .i64 0, .int .i64 0, .int .i64 0, .int .i64 0, .int .i64 0, .int .i64 0, .int .i64 0, .int .i64 0, .int .i64 0, .int .i64 0, .int .i64 0, .int .i64 0, .int .i64 0, .int .i64 0, .int .i64 0, .int .i64 0, .int .i64 0, .int .i64 0, .int .i64 0, .int .i64 0, .int .i64 0, .int .i64 0, .int .i64 0, .int .i64 0, .int .i64 0, .int .i64 0, .int .i64 0, .int .i64 0, .int .i64 0, .int .i64 0, .int .i64 0, .int .i64 0, .int .i64 0, .int .i64 0, .int .i64 0, .int .i64 0, .int .i64 0, .int .i64 0, Value.slice none 0 0, .int .i64 0, .int .i64 0, .int .i64 0, .int .i64 0, .int .i64 0]).append ([.int .i64 0, .int .i64 0, .int .i64 0, .int .i64 0, .int .i64 0, .int .i64 0, .int .i64 0, .int .i64 0, .int .i64 0, .int .i64 0, .int .i64 0, .int .i64 0, .int .i64 0, .int .i64 0, .int .i64 0, .int .i64 0, .int .i64 0, .int .i64 0, .int .i64 0, .int .i64 0, .int .i64 0, .int .i64 0, .int .i64 0, .int .i64 0, .int .i64 0, .int .i64 0, .int .i64 0, .int .i64 0, .int .i64 0, .int .i64 0, .int .i64 0, .int .i64 0, .int .i64 0, .int .i64 0, .int .i64 0, .int .i64 0, .int .i64 0, .int .i64 0, .int .i64 0, .int .i64 0, .int .i64 0, .int .i64 0, .int .i64 0, .int .i64 0].append [.int .i64 0, .int .i64 0, .int .i64 0, .int .i64 0, .int .i64 0, .int .i64 0, .int .i64 0, .int .i64 0, .int .i64 0, .int .i64 0, .int .i64 0, .int .i64 0, .int .i64 0, .int .i64 0, .int .i64 0, .int .i64 0, .int .i64 0, .int .i64 0, .int .i64 0, .int .i64 0, .int .i64 0, .int .i64 0, .int .i64 0, .int .i64 0, .int .i64 0, .int .i64 0, .int .i64 0, .int .i64 0, .int .i64 0, .int .i64 0, .int .i64 0, .int .i64 0, .int .i64 0, .int .i64 0, .int .i64 0, .int .i64 0, .int .i64 0, .int .i64 0, .int .i64 0, .int .i64 0, .int .i64 0, .int .i64 0, .int .i64 0, .int .i64 0]))).toArray)).toList [(0, 1), (1, 257), (258, 1), (259, 31), (290, 31), (321, 31)] := ⟨by kernel_rfl, by kernel_rfl, by kernel_rfl⟩
@[go_sem] theorem sh171 : Tryd.prog.stoodInHeld 171 = false := by kernel_rfl
@[go_sem] theorem ce172 : Tryd.prog.cellsOf 172 = 2 := by kernel_rfl
@[go_sem] theorem ce173 : Tryd.prog.cellsOf 173 = 2 := by kernel_rfl
theorem eo173 : EO Tryd.prog 173 2 32 (Value.agg #[Value.slice none 0 0, .int .i64 0]) := ⟨by kernel_rfl, rfl, by decide⟩
theorem bd173 : BD Tryd.prog 173 (Value.cells (Value.agg #[Value.slice none 0 0, .int .i64 0])).toList [(0, 1), (1, 1)] := ⟨by kernel_rfl, by kernel_rfl, by kernel_rfl⟩
@[go_sem] theorem sh173 : Tryd.prog.stoodInHeld 173 = false := by kernel_rfl
@[go_sem] theorem ce174 : Tryd.prog.cellsOf 174 = 1 := by kernel_rfl
@[go_sem] theorem ce175 : Tryd.prog.cellsOf 175 = 1 := by kernel_rfl
theorem eo175 : EO Tryd.prog 175 1 8 (.pointer none) := ⟨by kernel_rfl, rfl, by decide⟩
@[go_sem] theorem ce176 : Tryd.prog.cellsOf 176 = 2 := by kernel_rfl
theorem zv176 : (Tryd.prog.info? 176).bind (fun i => i.zero.map fun z => z.cells.toList) = some (Value.cells (Value.agg #[.string ⟨#[]⟩, .string ⟨#[]⟩])).toList := by kernel_rfl
theorem bd176 : BD Tryd.prog 176 (Value.cells (Value.agg #[.string ⟨#[]⟩, .string ⟨#[]⟩])).toList [(0, 1), (1, 1)] := ⟨by kernel_rfl, by kernel_rfl, by kernel_rfl⟩
@[go_sem] theorem ce177 : Tryd.prog.cellsOf 177 = 28 := by kernel_rfl
theorem zv177 : (Tryd.prog.info? 177).bind (fun i => i.zero.map fun z => z.cells.toList) = some (Value.cells (Value.agg #[.string ⟨#[]⟩, .string ⟨#[]⟩, .string ⟨#[]⟩, .string ⟨#[]⟩, .string ⟨#[]⟩, .string ⟨#[]⟩, .string ⟨#[]⟩, .string ⟨#[]⟩, .string ⟨#[]⟩, .string ⟨#[]⟩, .string ⟨#[]⟩, .string ⟨#[]⟩, .string ⟨#[]⟩, .string ⟨#[]⟩, .string ⟨#[]⟩, .string ⟨#[]⟩, .string ⟨#[]⟩, .string ⟨#[]⟩, .string ⟨#[]⟩, .string ⟨#[]⟩, .string ⟨#[]⟩, .string ⟨#[]⟩, .string ⟨#[]⟩, .string ⟨#[]⟩, .string ⟨#[]⟩, .string ⟨#[]⟩, .string ⟨#[]⟩, .string ⟨#[]⟩])).toList := by kernel_rfl
theorem bd177 : BD Tryd.prog 177 (Value.cells (Value.agg #[.string ⟨#[]⟩, .string ⟨#[]⟩, .string ⟨#[]⟩, .string ⟨#[]⟩, .string ⟨#[]⟩, .string ⟨#[]⟩, .string ⟨#[]⟩, .string ⟨#[]⟩, .string ⟨#[]⟩, .string ⟨#[]⟩, .string ⟨#[]⟩, .string ⟨#[]⟩, .string ⟨#[]⟩, .string ⟨#[]⟩, .string ⟨#[]⟩, .string ⟨#[]⟩, .string ⟨#[]⟩, .string ⟨#[]⟩, .string ⟨#[]⟩, .string ⟨#[]⟩, .string ⟨#[]⟩, .string ⟨#[]⟩, .string ⟨#[]⟩, .string ⟨#[]⟩, .string ⟨#[]⟩, .string ⟨#[]⟩, .string ⟨#[]⟩, .string ⟨#[]⟩])).toList [(0, 2), (2, 2), (4, 2), (6, 2), (8, 2), (10, 2), (12, 2), (14, 2), (16, 2), (18, 2), (20, 2), (22, 2), (24, 2), (26, 2)] := ⟨by kernel_rfl, by kernel_rfl, by kernel_rfl⟩
@[go_sem] theorem ce178 : Tryd.prog.cellsOf 178 = 1 := by kernel_rfl
@[go_sem] theorem ce179 : Tryd.prog.cellsOf 179 = 47 := by kernel_rfl
theorem zv179 : (Tryd.prog.info? 179).bind (fun i => i.zero.map fun z => z.cells.toList) = some (Value.cells (Value.agg #[.string ⟨#[]⟩, .string ⟨#[]⟩, .string ⟨#[]⟩, .string ⟨#[]⟩, .string ⟨#[]⟩, .string ⟨#[]⟩, .string ⟨#[]⟩, .string ⟨#[]⟩, .string ⟨#[]⟩, .string ⟨#[]⟩, .string ⟨#[]⟩, .string ⟨#[]⟩, .string ⟨#[]⟩, .string ⟨#[]⟩, .string ⟨#[]⟩, .string ⟨#[]⟩, .string ⟨#[]⟩, .string ⟨#[]⟩, .string ⟨#[]⟩, .string ⟨#[]⟩, .string ⟨#[]⟩, .string ⟨#[]⟩, .string ⟨#[]⟩, .string ⟨#[]⟩, .string ⟨#[]⟩, .string ⟨#[]⟩, .string ⟨#[]⟩, .string ⟨#[]⟩, .string ⟨#[]⟩, .string ⟨#[]⟩, .string ⟨#[]⟩, .string ⟨#[]⟩, .string ⟨#[]⟩, .string ⟨#[]⟩, .string ⟨#[]⟩, .string ⟨#[]⟩, .string ⟨#[]⟩, .string ⟨#[]⟩, .string ⟨#[]⟩, .string ⟨#[]⟩, .string ⟨#[]⟩, .string ⟨#[]⟩, .string ⟨#[]⟩, .string ⟨#[]⟩, .string ⟨#[]⟩, .string ⟨#[]⟩, .string ⟨#[]⟩])).toList := by kernel_rfl
theorem bd179 : BD Tryd.prog 179 (Value.cells (Value.agg #[.string ⟨#[]⟩, .string ⟨#[]⟩, .string ⟨#[]⟩, .string ⟨#[]⟩, .string ⟨#[]⟩, .string ⟨#[]⟩, .string ⟨#[]⟩, .string ⟨#[]⟩, .string ⟨#[]⟩, .string ⟨#[]⟩, .string ⟨#[]⟩, .string ⟨#[]⟩, .string ⟨#[]⟩, .string ⟨#[]⟩, .string ⟨#[]⟩, .string ⟨#[]⟩, .string ⟨#[]⟩, .string ⟨#[]⟩, .string ⟨#[]⟩, .string ⟨#[]⟩, .string ⟨#[]⟩, .string ⟨#[]⟩, .string ⟨#[]⟩, .string ⟨#[]⟩, .string ⟨#[]⟩, .string ⟨#[]⟩, .string ⟨#[]⟩, .string ⟨#[]⟩, .string ⟨#[]⟩, .string ⟨#[]⟩, .string ⟨#[]⟩, .string ⟨#[]⟩, .string ⟨#[]⟩, .string ⟨#[]⟩, .string ⟨#[]⟩, .string ⟨#[]⟩, .string ⟨#[]⟩, .string ⟨#[]⟩, .string ⟨#[]⟩, .string ⟨#[]⟩, .string ⟨#[]⟩, .string ⟨#[]⟩, .string ⟨#[]⟩, .string ⟨#[]⟩, .string ⟨#[]⟩, .string ⟨#[]⟩, .string ⟨#[]⟩])).toList [(0, 1), (1, 1), (2, 1), (3, 1), (4, 1), (5, 1), (6, 1), (7, 1), (8, 1), (9, 1), (10, 1), (11, 1), (12, 1), (13, 1), (14, 1), (15, 1), (16, 1), (17, 1), (18, 1), (19, 1), (20, 1), (21, 1), (22, 1), (23, 1), (24, 1), (25, 1), (26, 1), (27, 1), (28, 1), (29, 1), (30, 1), (31, 1), (32, 1), (33, 1), (34, 1), (35, 1), (36, 1), (37, 1), (38, 1), (39, 1), (40, 1), (41, 1), (42, 1), (43, 1), (44, 1), (45, 1), (46, 1)] := ⟨by kernel_rfl, by kernel_rfl, by kernel_rfl⟩
@[go_sem] theorem ce180 : Tryd.prog.cellsOf 180 = 1 := by kernel_rfl
@[go_sem] theorem ce181 : Tryd.prog.cellsOf 181 = 1 := by kernel_rfl
@[go_sem] theorem ce182 : Tryd.prog.cellsOf 182 = 4 := by kernel_rfl
@[go_sem] theorem ce183 : Tryd.prog.cellsOf 183 = 4 := by kernel_rfl
@[go_sem] theorem ce184 : Tryd.prog.cellsOf 184 = 0 := by kernel_rfl
@[go_sem] theorem ce185 : Tryd.prog.cellsOf 185 = 0 := by kernel_rfl
@[go_sem] theorem ce186 : Tryd.prog.cellsOf 186 = 0 := by kernel_rfl
@[go_sem] theorem ce187 : Tryd.prog.cellsOf 187 = 1 := by kernel_rfl
@[go_sem] theorem ce188 : Tryd.prog.cellsOf 188 = 1 := by kernel_rfl
@[go_sem] theorem ce189 : Tryd.prog.cellsOf 189 = 1 := by kernel_rfl
@[go_sem] theorem ce190 : Tryd.prog.cellsOf 190 = 1 := by kernel_rfl
@[go_sem] theorem ce191 : Tryd.prog.cellsOf 191 = 1 := by kernel_rfl
@[go_sem] theorem ce192 : Tryd.prog.cellsOf 192 = 1 := by kernel_rfl
@[go_sem] theorem ce193 : Tryd.prog.cellsOf 193 = 1 := by kernel_rfl
@[go_sem] theorem ce194 : Tryd.prog.cellsOf 194 = 11 := by kernel_rfl
@[go_sem] theorem ce195 : Tryd.prog.cellsOf 195 = 11 := by kernel_rfl
@[go_sem] theorem ce196 : Tryd.prog.cellsOf 196 = 1 := by kernel_rfl
attribute [go_sem] Tryd.underlying0
attribute [go_sem] Tryd.underlying1
attribute [go_sem] Tryd.underlying2
attribute [go_sem] Tryd.underlying3
attribute [go_sem] Tryd.underlying4
attribute [go_sem] Tryd.underlying5
attribute [go_sem] Tryd.underlying6
attribute [go_sem] Tryd.underlying7
attribute [go_sem] Tryd.underlying8
attribute [go_sem] Tryd.underlying9
attribute [go_sem] Tryd.underlying10
attribute [go_sem] Tryd.underlying11
attribute [go_sem] Tryd.underlying12
attribute [go_sem] Tryd.underlying13
attribute [go_sem] Tryd.underlying14
attribute [go_sem] Tryd.underlying15
attribute [go_sem] Tryd.underlying16
attribute [go_sem] Tryd.underlying17
attribute [go_sem] Tryd.underlying18
attribute [go_sem] Tryd.underlying19
attribute [go_sem] Tryd.underlying20
attribute [go_sem] Tryd.underlying21
attribute [go_sem] Tryd.underlying22
attribute [go_sem] Tryd.underlying23
attribute [go_sem] Tryd.underlying24
attribute [go_sem] Tryd.underlying25
attribute [go_sem] Tryd.underlying26
attribute [go_sem] Tryd.underlying27
attribute [go_sem] Tryd.underlying28
attribute [go_sem] Tryd.underlying29
attribute [go_sem] Tryd.underlying30
attribute [go_sem] Tryd.underlying31
attribute [go_sem] Tryd.underlying32
attribute [go_sem] Tryd.underlying33
attribute [go_sem] Tryd.underlying34
attribute [go_sem] Tryd.underlying35
attribute [go_sem] Tryd.underlying36
attribute [go_sem] Tryd.underlying37
attribute [go_sem] Tryd.underlying38
attribute [go_sem] Tryd.underlying39
attribute [go_sem] Tryd.underlying40
attribute [go_sem] Tryd.underlying41
attribute [go_sem] Tryd.underlying42
attribute [go_sem] Tryd.underlying43
attribute [go_sem] Tryd.underlying44
attribute [go_sem] Tryd.underlying45
attribute [go_sem] Tryd.underlying46
attribute [go_sem] Tryd.underlying47
attribute [go_sem] Tryd.underlying48
attribute [go_sem] Tryd.underlying49
attribute [go_sem] Tryd.underlying50
attribute [go_sem] Tryd.underlying51
attribute [go_sem] Tryd.underlying52
attribute [go_sem] Tryd.underlying53
attribute [go_sem] Tryd.underlying54
attribute [go_sem] Tryd.underlying55
attribute [go_sem] Tryd.underlying56
attribute [go_sem] Tryd.underlying57
attribute [go_sem] Tryd.underlying58
attribute [go_sem] Tryd.underlying59
attribute [go_sem] Tryd.underlying60
attribute [go_sem] Tryd.underlying61
attribute [go_sem] Tryd.underlying62
attribute [go_sem] Tryd.underlying63
attribute [go_sem] Tryd.underlying64
attribute [go_sem] Tryd.underlying65
attribute [go_sem] Tryd.underlying66
attribute [go_sem] Tryd.underlying67
attribute [go_sem] Tryd.underlying68
attribute [go_sem] Tryd.underlying69
attribute [go_sem] Tryd.underlying70
attribute [go_sem] Tryd.underlying71
attribute [go_sem] Tryd.underlying72
attribute [go_sem] Tryd.underlying73
attribute [go_sem] Tryd.underlying74
attribute [go_sem] Tryd.underlying75
attribute [go_sem] Tryd.underlying76
attribute [go_sem] Tryd.underlying77
attribute [go_sem] Tryd.underlying78
attribute [go_sem] Tryd.underlying79
attribute [go_sem] Tryd.underlying80
attribute [go_sem] Tryd.underlying81
attribute [go_sem] Tryd.underlying82
attribute [go_sem] Tryd.underlying83
attribute [go_sem] Tryd.underlying84
attribute [go_sem] Tryd.underlying85
attribute [go_sem] Tryd.underlying86
attribute [go_sem] Tryd.underlying87
attribute [go_sem] Tryd.underlying88
attribute [go_sem] Tryd.underlying89
attribute [go_sem] Tryd.underlying90
attribute [go_sem] Tryd.underlying91
attribute [go_sem] Tryd.underlying92
attribute [go_sem] Tryd.underlying93
attribute [go_sem] Tryd.underlying94
attribute [go_sem] Tryd.underlying95
attribute [go_sem] Tryd.underlying96
attribute [go_sem] Tryd.underlying97
attribute [go_sem] Tryd.underlying98
attribute [go_sem] Tryd.underlying99
attribute [go_sem] Tryd.underlying100
attribute [go_sem] Tryd.underlying101
attribute [go_sem] Tryd.underlying102
attribute [go_sem] Tryd.underlying103
attribute [go_sem] Tryd.underlying104
attribute [go_sem] Tryd.underlying105
attribute [go_sem] Tryd.underlying106
attribute [go_sem] Tryd.underlying107
attribute [go_sem] Tryd.underlying108
attribute [go_sem] Tryd.underlying109
attribute [go_sem] Tryd.underlying110
attribute [go_sem] Tryd.underlying111
attribute [go_sem] Tryd.underlying112
attribute [go_sem] Tryd.underlying113
attribute [go_sem] Tryd.underlying114
attribute [go_sem] Tryd.underlying115
attribute [go_sem] Tryd.underlying116
attribute [go_sem] Tryd.underlying117
attribute [go_sem] Tryd.underlying118
attribute [go_sem] Tryd.underlying119
attribute [go_sem] Tryd.underlying120
attribute [go_sem] Tryd.underlying121
attribute [go_sem] Tryd.underlying122
attribute [go_sem] Tryd.underlying123
attribute [go_sem] Tryd.underlying124
attribute [go_sem] Tryd.underlying125
attribute [go_sem] Tryd.underlying126
attribute [go_sem] Tryd.underlying127
attribute [go_sem] Tryd.underlying128
attribute [go_sem] Tryd.underlying129
attribute [go_sem] Tryd.underlying130
attribute [go_sem] Tryd.underlying131
attribute [go_sem] Tryd.underlying132
attribute [go_sem] Tryd.underlying133
attribute [go_sem] Tryd.underlying134
attribute [go_sem] Tryd.underlying135
attribute [go_sem] Tryd.underlying136
attribute [go_sem] Tryd.underlying137
attribute [go_sem] Tryd.underlying138
attribute [go_sem] Tryd.underlying139
attribute [go_sem] Tryd.underlying140
attribute [go_sem] Tryd.underlying141
attribute [go_sem] Tryd.underlying142
attribute [go_sem] Tryd.underlying143
attribute [go_sem] Tryd.underlying144
attribute [go_sem] Tryd.underlying145
attribute [go_sem] Tryd.underlying146
attribute [go_sem] Tryd.underlying147
attribute [go_sem] Tryd.underlying148
attribute [go_sem] Tryd.underlying149
attribute [go_sem] Tryd.underlying150
attribute [go_sem] Tryd.underlying151
attribute [go_sem] Tryd.underlying152
attribute [go_sem] Tryd.underlying153
attribute [go_sem] Tryd.underlying154
attribute [go_sem] Tryd.underlying155
attribute [go_sem] Tryd.underlying156
attribute [go_sem] Tryd.underlying157
attribute [go_sem] Tryd.underlying158
attribute [go_sem] Tryd.underlying159
attribute [go_sem] Tryd.underlying160
attribute [go_sem] Tryd.underlying161
attribute [go_sem] Tryd.underlying162
attribute [go_sem] Tryd.underlying163
attribute [go_sem] Tryd.underlying164
attribute [go_sem] Tryd.underlying165
attribute [go_sem] Tryd.underlying166
attribute [go_sem] Tryd.underlying167
attribute [go_sem] Tryd.underlying168
attribute [go_sem] Tryd.underlying169
attribute [go_sem] Tryd.underlying170
attribute [go_sem] Tryd.underlying171
attribute [go_sem] Tryd.underlying172
attribute [go_sem] Tryd.underlying173
attribute [go_sem] Tryd.underlying174
attribute [go_sem] Tryd.underlying175
attribute [go_sem] Tryd.underlying176
attribute [go_sem] Tryd.underlying177
attribute [go_sem] Tryd.underlying178
attribute [go_sem] Tryd.underlying179
attribute [go_sem] Tryd.underlying180
attribute [go_sem] Tryd.underlying181
attribute [go_sem] Tryd.underlying182
attribute [go_sem] Tryd.underlying183
attribute [go_sem] Tryd.underlying184
attribute [go_sem] Tryd.underlying185
attribute [go_sem] Tryd.underlying186
attribute [go_sem] Tryd.underlying187
attribute [go_sem] Tryd.underlying188
attribute [go_sem] Tryd.underlying189
attribute [go_sem] Tryd.underlying190
attribute [go_sem] Tryd.underlying191
attribute [go_sem] Tryd.underlying192
attribute [go_sem] Tryd.underlying193
attribute [go_sem] Tryd.underlying194
attribute [go_sem] Tryd.underlying195
attribute [go_sem] Tryd.underlying196
@[go_sem] theorem gval_0 : gval 0 = .ip false [.lit (.int .i64 0), .lit (.int .i64 0), .lit (.int .i64 128), .lit (.int .i64 7), .lit (.int .i64 64), .lit (.int .i64 6), .lit (.int .i64 0), .lit (.int .i64 4), .lit (.int .i64 16), .lit (.int .i64 4), .lit (.int .i64 32), .lit (.int .i64 5)] := rfl
end Go.Proofs.YtohbfcmmpaikhaaDoor
