import Derived.Test.YtpkangodlfhjgaaLf
import Derived.Test.YtpkangodlfhjgaaChecked
import Derived.KernelRfl
set_option linter.unusedVariables false
namespace Go.Proofs.Ytpkangodlfhjgaa
open Go Go.Lf Go.Proofs
theorem mixed : Try.prog.follows .mixedOrders = true := Try.checked.mixed
@[go_sem] theorem ce1 : Try.prog.cellsOf 1 = 1 := by kernel_rfl
@[go_sem] theorem ce2 : Try.prog.cellsOf 2 = 1 := by kernel_rfl
@[go_sem] theorem ce3 : Try.prog.cellsOf 3 = 1 := by kernel_rfl
theorem zv3 : (Try.prog.info? 3).bind (fun i => i.zero.map fun z => z.cells.toList) = some (Value.cells (Value.int IntKind.i64 0)).toList := by kernel_rfl
theorem eo3 : EO Try.prog 3 1 8 (Value.int IntKind.i64 0) := ⟨by kernel_rfl, rfl, by decide⟩
@[go_sem] theorem ce4 : Try.prog.cellsOf 4 = 1 := by kernel_rfl
theorem zv4 : (Try.prog.info? 4).bind (fun i => i.zero.map fun z => z.cells.toList) = some (Value.cells (Value.bool false)).toList := by kernel_rfl
theorem eo4 : EO Try.prog 4 1 1 (Value.bool false) := ⟨by kernel_rfl, rfl, by decide⟩
@[go_sem] theorem ce5 : Try.prog.cellsOf 5 = 1 := by kernel_rfl
theorem zv5 : (Try.prog.info? 5).bind (fun i => i.zero.map fun z => z.cells.toList) = some (Value.cells (Value.int IntKind.u8 0)).toList := by kernel_rfl
theorem eo5 : EO Try.prog 5 1 1 (Value.int IntKind.u8 0) := ⟨by kernel_rfl, rfl, by decide⟩
@[go_sem] theorem ce6 : Try.prog.cellsOf 6 = 1 := by kernel_rfl
@[go_sem] theorem ce7 : Try.prog.cellsOf 7 = 4 := by kernel_rfl
@[go_sem] theorem ce8 : Try.prog.cellsOf 8 = 4 := by kernel_rfl
@[go_sem] theorem ce9 : Try.prog.cellsOf 9 = 1 := by kernel_rfl
@[go_sem] theorem ce10 : Try.prog.cellsOf 10 = 1 := by kernel_rfl
@[go_sem] theorem ce11 : Try.prog.cellsOf 11 = 1 := by kernel_rfl
@[go_sem] theorem ce12 : Try.prog.cellsOf 12 = 1 := by kernel_rfl
@[go_sem] theorem ce13 : Try.prog.cellsOf 13 = 2 := by kernel_rfl
@[go_sem] theorem ce14 : Try.prog.cellsOf 14 = 2 := by kernel_rfl
@[go_sem] theorem ce15 : Try.prog.cellsOf 15 = 1 := by kernel_rfl
@[go_sem] theorem ce16 : Try.prog.cellsOf 16 = 1 := by kernel_rfl
@[go_sem] theorem ce17 : Try.prog.cellsOf 17 = 1 := by kernel_rfl
@[go_sem] theorem ce18 : Try.prog.cellsOf 18 = 1 := by kernel_rfl
@[go_sem] theorem ce19 : Try.prog.cellsOf 19 = 1 := by kernel_rfl
@[go_sem] theorem ce20 : Try.prog.cellsOf 20 = 1 := by kernel_rfl
@[go_sem] theorem ce21 : Try.prog.cellsOf 21 = 1 := by kernel_rfl
@[go_sem] theorem ce22 : Try.prog.cellsOf 22 = 1 := by kernel_rfl
theorem zv22 : (Try.prog.info? 22).bind (fun i => i.zero.map fun z => z.cells.toList) = some (Value.cells (Value.slice none 0 0)).toList := by kernel_rfl
theorem eo22 : EO Try.prog 22 1 24 (Value.slice none 0 0) := ⟨by kernel_rfl, rfl, by decide⟩
@[go_sem] theorem ce23 : Try.prog.cellsOf 23 = 6 := by kernel_rfl
@[go_sem] theorem ce24 : Try.prog.cellsOf 24 = 6 := by kernel_rfl
theorem zv24 : (Try.prog.info? 24).bind (fun i => i.zero.map fun z => z.cells.toList) = some (Value.cells (Value.agg #[Value.int IntKind.i64 0, Value.int IntKind.i64 0, Value.int IntKind.i64 0, Value.int IntKind.i64 0, Value.bool false, Value.slice none 0 0])).toList := by kernel_rfl
theorem eo24 : EO Try.prog 24 6 64 (Value.agg #[Value.int IntKind.i64 0, Value.int IntKind.i64 0, Value.int IntKind.i64 0, Value.int IntKind.i64 0, Value.bool false, Value.slice none 0 0]) := ⟨by kernel_rfl, rfl, by decide⟩
theorem bd24 : BD Try.prog 24 (Value.cells (Value.agg #[Value.int IntKind.i64 0, Value.int IntKind.i64 0, Value.int IntKind.i64 0, Value.int IntKind.i64 0, Value.bool false, Value.slice none 0 0])).toList [(0, 1), (1, 1), (2, 1), (3, 1), (4, 1), (5, 1)] := ⟨by kernel_rfl, by kernel_rfl, by kernel_rfl⟩
@[go_sem] theorem sh24 : Try.prog.stoodInHeld 24 = false := by kernel_rfl
theorem eg24 : Try.prog.eqGuardType Try.prog.depth 24 = false := by kernel_rfl
@[go_sem] theorem ce25 : Try.prog.cellsOf 25 = 1 := by kernel_rfl
@[go_sem] theorem ce26 : Try.prog.cellsOf 26 = 1 := by kernel_rfl
theorem zv26 : (Try.prog.info? 26).bind (fun i => i.zero.map fun z => z.cells.toList) = some (Value.cells (Value.slice none 0 0)).toList := by kernel_rfl
theorem eo26 : EO Try.prog 26 1 24 (Value.slice none 0 0) := ⟨by kernel_rfl, rfl, by decide⟩
@[go_sem] theorem ce27 : Try.prog.cellsOf 27 = 13 := by kernel_rfl
@[go_sem] theorem ce28 : Try.prog.cellsOf 28 = 13 := by kernel_rfl
theorem zv28 : (Try.prog.info? 28).bind (fun i => i.zero.map fun z => z.cells.toList) = some (Value.cells (Value.agg #[Value.int IntKind.i64 0, Value.int IntKind.i64 0, Value.int IntKind.i64 0, Value.int IntKind.i64 0, Value.slice none 0 0, Value.slice none 0 0, Value.int IntKind.i64 0, Value.int IntKind.i64 0, Value.bool false, Value.int IntKind.i64 0, Value.int IntKind.i64 0, Value.int IntKind.i64 0, Value.int IntKind.i64 0])).toList := by kernel_rfl
theorem eo28 : EO Try.prog 28 13 136 (Value.agg #[Value.int IntKind.i64 0, Value.int IntKind.i64 0, Value.int IntKind.i64 0, Value.int IntKind.i64 0, Value.slice none 0 0, Value.slice none 0 0, Value.int IntKind.i64 0, Value.int IntKind.i64 0, Value.bool false, Value.int IntKind.i64 0, Value.int IntKind.i64 0, Value.int IntKind.i64 0, Value.int IntKind.i64 0]) := ⟨by kernel_rfl, rfl, by decide⟩
theorem bd28 : BD Try.prog 28 (Value.cells (Value.agg #[Value.int IntKind.i64 0, Value.int IntKind.i64 0, Value.int IntKind.i64 0, Value.int IntKind.i64 0, Value.slice none 0 0, Value.slice none 0 0, Value.int IntKind.i64 0, Value.int IntKind.i64 0, Value.bool false, Value.int IntKind.i64 0, Value.int IntKind.i64 0, Value.int IntKind.i64 0, Value.int IntKind.i64 0])).toList [(0, 1), (1, 1), (2, 1), (3, 1), (4, 1), (5, 1), (6, 1), (7, 1), (8, 1), (9, 1), (10, 1), (11, 1), (12, 1)] := ⟨by kernel_rfl, by kernel_rfl, by kernel_rfl⟩
@[go_sem] theorem sh28 : Try.prog.stoodInHeld 28 = false := by kernel_rfl
theorem eg28 : Try.prog.eqGuardType Try.prog.depth 28 = false := by kernel_rfl
@[go_sem] theorem ce29 : Try.prog.cellsOf 29 = 2 := by kernel_rfl
@[go_sem] theorem ce30 : Try.prog.cellsOf 30 = 2 := by kernel_rfl
theorem zv30 : (Try.prog.info? 30).bind (fun i => i.zero.map fun z => z.cells.toList) = some (Value.cells (Value.agg #[Value.int IntKind.i64 0, Value.int IntKind.i64 0])).toList := by kernel_rfl
theorem eo30 : EO Try.prog 30 2 16 (Value.agg #[Value.int IntKind.i64 0, Value.int IntKind.i64 0]) := ⟨by kernel_rfl, rfl, by decide⟩
theorem bd30 : BD Try.prog 30 (Value.cells (Value.agg #[Value.int IntKind.i64 0, Value.int IntKind.i64 0])).toList [(0, 1), (1, 1)] := ⟨by kernel_rfl, by kernel_rfl, by kernel_rfl⟩
@[go_sem] theorem sh30 : Try.prog.stoodInHeld 30 = false := by kernel_rfl
theorem eg30 : Try.prog.eqGuardType Try.prog.depth 30 = false := by kernel_rfl
@[go_sem] theorem ce31 : Try.prog.cellsOf 31 = 1 := by kernel_rfl
theorem zv31 : (Try.prog.info? 31).bind (fun i => i.zero.map fun z => z.cells.toList) = some (Value.cells (Value.int IntKind.i64 0)).toList := by kernel_rfl
theorem eo31 : EO Try.prog 31 1 8 (Value.int IntKind.i64 0) := ⟨by kernel_rfl, rfl, by decide⟩
@[go_sem] theorem ce33 : Try.prog.cellsOf 33 = 1 := by kernel_rfl
@[go_sem] theorem ce34 : Try.prog.cellsOf 34 = 1 := by kernel_rfl
@[go_sem] theorem ce35 : Try.prog.cellsOf 35 = 1 := by kernel_rfl
@[go_sem] theorem ce37 : Try.prog.cellsOf 37 = 1 := by kernel_rfl
@[go_sem] theorem ce38 : Try.prog.cellsOf 38 = 1 := by kernel_rfl
@[go_sem] theorem ce39 : Try.prog.cellsOf 39 = 1 := by kernel_rfl
@[go_sem] theorem ce40 : Try.prog.cellsOf 40 = 1 := by kernel_rfl
theorem zv40 : (Try.prog.info? 40).bind (fun i => i.zero.map fun z => z.cells.toList) = some (Value.cells (Value.slice none 0 0)).toList := by kernel_rfl
theorem eo40 : EO Try.prog 40 1 24 (Value.slice none 0 0) := ⟨by kernel_rfl, rfl, by decide⟩
@[go_sem] theorem ce42 : Try.prog.cellsOf 42 = 1 := by kernel_rfl
@[go_sem] theorem ce43 : Try.prog.cellsOf 43 = 1 := by kernel_rfl
@[go_sem] theorem ce44 : Try.prog.cellsOf 44 = 1 := by kernel_rfl
@[go_sem] theorem ce45 : Try.prog.cellsOf 45 = 3 := by kernel_rfl
@[go_sem] theorem ce46 : Try.prog.cellsOf 46 = 3 := by kernel_rfl
@[go_sem] theorem sh46 : Try.prog.stoodInHeld 46 = false := by kernel_rfl
@[go_sem] theorem ce47 : Try.prog.cellsOf 47 = 1 := by kernel_rfl
@[go_sem] theorem ce48 : Try.prog.cellsOf 48 = 1 := by kernel_rfl
@[go_sem] theorem ce49 : Try.prog.cellsOf 49 = 1 := by kernel_rfl
@[go_sem] theorem ce50 : Try.prog.cellsOf 50 = 1 := by kernel_rfl
@[go_sem] theorem ce51 : Try.prog.cellsOf 51 = 1 := by kernel_rfl
@[go_sem] theorem ce53 : Try.prog.cellsOf 53 = 1 := by kernel_rfl
@[go_sem] theorem ce54 : Try.prog.cellsOf 54 = 1 := by kernel_rfl
@[go_sem] theorem ce55 : Try.prog.cellsOf 55 = 1 := by kernel_rfl
@[go_sem] theorem ce56 : Try.prog.cellsOf 56 = 1 := by kernel_rfl
@[go_sem] theorem ce57 : Try.prog.cellsOf 57 = 1 := by kernel_rfl
@[go_sem] theorem ce59 : Try.prog.cellsOf 59 = 1 := by kernel_rfl
@[go_sem] theorem ce60 : Try.prog.cellsOf 60 = 1 := by kernel_rfl
@[go_sem] theorem ce61 : Try.prog.cellsOf 61 = 1 := by kernel_rfl
@[go_sem] theorem ce62 : Try.prog.cellsOf 62 = 1 := by kernel_rfl
theorem zv62 : (Try.prog.info? 62).bind (fun i => i.zero.map fun z => z.cells.toList) = some (Value.cells (Value.slice none 0 0)).toList := by kernel_rfl
theorem eo62 : EO Try.prog 62 1 24 (Value.slice none 0 0) := ⟨by kernel_rfl, rfl, by decide⟩
@[go_sem] theorem ce64 : Try.prog.cellsOf 64 = 1 := by kernel_rfl
@[go_sem] theorem ce66 : Try.prog.cellsOf 66 = 1 := by kernel_rfl
@[go_sem] theorem ce67 : Try.prog.cellsOf 67 = 1 := by kernel_rfl
@[go_sem] theorem ce68 : Try.prog.cellsOf 68 = 1 := by kernel_rfl
@[go_sem] theorem ce69 : Try.prog.cellsOf 69 = 1 := by kernel_rfl
@[go_sem] theorem ce70 : Try.prog.cellsOf 70 = 1 := by kernel_rfl
@[go_sem] theorem ce71 : Try.prog.cellsOf 71 = 1 := by kernel_rfl
@[go_sem] theorem ce72 : Try.prog.cellsOf 72 = 1 := by kernel_rfl
@[go_sem] theorem ce73 : Try.prog.cellsOf 73 = 5 := by kernel_rfl
@[go_sem] theorem ce74 : Try.prog.cellsOf 74 = 5 := by kernel_rfl
theorem zv74 : (Try.prog.info? 74).bind (fun i => i.zero.map fun z => z.cells.toList) = some (Value.cells (Value.agg #[Value.int IntKind.i64 0, Value.int IntKind.i64 0, Value.int IntKind.i64 0, Value.int IntKind.i64 0, Value.bool false])).toList := by kernel_rfl
theorem eo74 : EO Try.prog 74 5 40 (Value.agg #[Value.int IntKind.i64 0, Value.int IntKind.i64 0, Value.int IntKind.i64 0, Value.int IntKind.i64 0, Value.bool false]) := ⟨by kernel_rfl, rfl, by decide⟩
theorem bd74 : BD Try.prog 74 (Value.cells (Value.agg #[Value.int IntKind.i64 0, Value.int IntKind.i64 0, Value.int IntKind.i64 0, Value.int IntKind.i64 0, Value.bool false])).toList [(0, 1), (1, 1), (2, 1), (3, 1), (4, 1)] := ⟨by kernel_rfl, by kernel_rfl, by kernel_rfl⟩
@[go_sem] theorem sh74 : Try.prog.stoodInHeld 74 = false := by kernel_rfl
@[go_sem] theorem ce75 : Try.prog.cellsOf 75 = 1 := by kernel_rfl
@[go_sem] theorem ce76 : Try.prog.cellsOf 76 = 1 := by kernel_rfl
@[go_sem] theorem ce77 : Try.prog.cellsOf 77 = 1 := by kernel_rfl
@[go_sem] theorem ce78 : Try.prog.cellsOf 78 = 1 := by kernel_rfl
@[go_sem] theorem ce79 : Try.prog.cellsOf 79 = 1 := by kernel_rfl
@[go_sem] theorem ce81 : Try.prog.cellsOf 81 = 1 := by kernel_rfl
@[go_sem] theorem ce82 : Try.prog.cellsOf 82 = 1 := by kernel_rfl
@[go_sem] theorem ce84 : Try.prog.cellsOf 84 = 1 := by kernel_rfl
@[go_sem] theorem ce85 : Try.prog.cellsOf 85 = 2 := by kernel_rfl
@[go_sem] theorem ce86 : Try.prog.cellsOf 86 = 2 := by kernel_rfl
theorem zv86 : (Try.prog.info? 86).bind (fun i => i.zero.map fun z => z.cells.toList) = some (Value.cells (Value.agg #[Value.int IntKind.i64 0, Value.int IntKind.i64 0])).toList := by kernel_rfl
theorem eo86 : EO Try.prog 86 2 16 (Value.agg #[Value.int IntKind.i64 0, Value.int IntKind.i64 0]) := ⟨by kernel_rfl, rfl, by decide⟩
theorem bd86 : BD Try.prog 86 (Value.cells (Value.agg #[Value.int IntKind.i64 0, Value.int IntKind.i64 0])).toList [(0, 1), (1, 1)] := ⟨by kernel_rfl, by kernel_rfl, by kernel_rfl⟩
@[go_sem] theorem sh86 : Try.prog.stoodInHeld 86 = false := by kernel_rfl
theorem eg86 : Try.prog.eqGuardType Try.prog.depth 86 = false := by kernel_rfl
@[go_sem] theorem ce87 : Try.prog.cellsOf 87 = 10 := by kernel_rfl
theorem zv87 : (Try.prog.info? 87).bind (fun i => i.zero.map fun z => z.cells.toList) = some (Value.cells (Value.agg #[Value.int IntKind.i64 0, Value.int IntKind.i64 0, Value.int IntKind.i64 0, Value.int IntKind.i64 0, Value.int IntKind.i64 0, Value.int IntKind.i64 0, Value.int IntKind.i64 0, Value.int IntKind.i64 0, Value.int IntKind.i64 0, Value.int IntKind.i64 0])).toList := by kernel_rfl
theorem bd87 : BD Try.prog 87 (Value.cells (Value.agg #[Value.int IntKind.i64 0, Value.int IntKind.i64 0, Value.int IntKind.i64 0, Value.int IntKind.i64 0, Value.int IntKind.i64 0, Value.int IntKind.i64 0, Value.int IntKind.i64 0, Value.int IntKind.i64 0, Value.int IntKind.i64 0, Value.int IntKind.i64 0])).toList [(0, 1), (1, 1), (2, 1), (3, 1), (4, 1), (5, 1), (6, 1), (7, 1), (8, 1), (9, 1)] := ⟨by kernel_rfl, by kernel_rfl, by kernel_rfl⟩
theorem eg87 : Try.prog.eqGuardType Try.prog.depth 87 = false := by kernel_rfl
@[go_sem] theorem ce88 : Try.prog.cellsOf 88 = 1 := by kernel_rfl
@[go_sem] theorem ce89 : Try.prog.cellsOf 89 = 1 := by kernel_rfl
@[go_sem] theorem ce90 : Try.prog.cellsOf 90 = 1 := by kernel_rfl
@[go_sem] theorem ce91 : Try.prog.cellsOf 91 = 1 := by kernel_rfl
@[go_sem] theorem ce92 : Try.prog.cellsOf 92 = 1 := by kernel_rfl
@[go_sem] theorem ce93 : Try.prog.cellsOf 93 = 1 := by kernel_rfl
@[go_sem] theorem ce94 : Try.prog.cellsOf 94 = 1 := by kernel_rfl
@[go_sem] theorem ce95 : Try.prog.cellsOf 95 = 1 := by kernel_rfl
theorem zv95 : (Try.prog.info? 95).bind (fun i => i.zero.map fun z => z.cells.toList) = some (Value.cells (Value.pointer none)).toList := by kernel_rfl
@[go_sem] theorem ce96 : Try.prog.cellsOf 96 = 1 := by kernel_rfl
theorem zv96 : (Try.prog.info? 96).bind (fun i => i.zero.map fun z => z.cells.toList) = some (Value.cells (Value.pointer none)).toList := by kernel_rfl
theorem eo96 : EO Try.prog 96 1 8 (Value.pointer none) := ⟨by kernel_rfl, rfl, by decide⟩
@[go_sem] theorem ce97 : Try.prog.cellsOf 97 = 1 := by kernel_rfl
@[go_sem] theorem ce98 : Try.prog.cellsOf 98 = 2 := by kernel_rfl
@[go_sem] theorem ce99 : Try.prog.cellsOf 99 = 2 := by kernel_rfl
theorem zv99 : (Try.prog.info? 99).bind (fun i => i.zero.map fun z => z.cells.toList) = some (Value.cells (Value.agg #[Value.pointer none, Value.bool false])).toList := by kernel_rfl
theorem bd99 : BD Try.prog 99 (Value.cells (Value.agg #[Value.pointer none, Value.bool false])).toList [(0, 1), (1, 1)] := ⟨by kernel_rfl, by kernel_rfl, by kernel_rfl⟩
@[go_sem] theorem sh99 : Try.prog.stoodInHeld 99 = false := by kernel_rfl
@[go_sem] theorem ce100 : Try.prog.cellsOf 100 = 1 := by kernel_rfl
@[go_sem] theorem ce101 : Try.prog.cellsOf 101 = 1 := by kernel_rfl
theorem zv101 : (Try.prog.info? 101).bind (fun i => i.zero.map fun z => z.cells.toList) = some (Value.cells (Value.pointer none)).toList := by kernel_rfl
@[go_sem] theorem ce102 : Try.prog.cellsOf 102 = 1 := by kernel_rfl
@[go_sem] theorem ce104 : Try.prog.cellsOf 104 = 1 := by kernel_rfl
@[go_sem] theorem ce105 : Try.prog.cellsOf 105 = 1 := by kernel_rfl
@[go_sem] theorem ce106 : Try.prog.cellsOf 106 = 1 := by kernel_rfl
@[go_sem] theorem ce108 : Try.prog.cellsOf 108 = 1 := by kernel_rfl
@[go_sem] theorem ce109 : Try.prog.cellsOf 109 = 1 := by kernel_rfl
@[go_sem] theorem ce110 : Try.prog.cellsOf 110 = 2 := by kernel_rfl
@[go_sem] theorem ce111 : Try.prog.cellsOf 111 = 2 := by kernel_rfl
theorem zv111 : (Try.prog.info? 111).bind (fun i => i.zero.map fun z => z.cells.toList) = some (Value.cells (Value.agg #[Value.slice none 0 0, Value.bool false])).toList := by kernel_rfl
theorem eo111 : EO Try.prog 111 2 32 (Value.agg #[Value.slice none 0 0, Value.bool false]) := ⟨by kernel_rfl, rfl, by decide⟩
theorem bd111 : BD Try.prog 111 (Value.cells (Value.agg #[Value.slice none 0 0, Value.bool false])).toList [(0, 1), (1, 1)] := ⟨by kernel_rfl, by kernel_rfl, by kernel_rfl⟩
@[go_sem] theorem sh111 : Try.prog.stoodInHeld 111 = false := by kernel_rfl
@[go_sem] theorem ce112 : Try.prog.cellsOf 112 = 1 := by kernel_rfl
@[go_sem] theorem ce113 : Try.prog.cellsOf 113 = 1 := by kernel_rfl
@[go_sem] theorem ce114 : Try.prog.cellsOf 114 = 1 := by kernel_rfl
@[go_sem] theorem ce115 : Try.prog.cellsOf 115 = 1 := by kernel_rfl
@[go_sem] theorem ce116 : Try.prog.cellsOf 116 = 1 := by kernel_rfl
@[go_sem] theorem ce117 : Try.prog.cellsOf 117 = 5 := by kernel_rfl
theorem zv117 : (Try.prog.info? 117).bind (fun i => i.zero.map fun z => z.cells.toList) = some (Value.cells (Value.agg #[Value.int IntKind.i64 0, Value.int IntKind.i64 0, Value.int IntKind.i64 0, Value.int IntKind.i64 0, Value.bool false])).toList := by kernel_rfl
theorem eo117 : EO Try.prog 117 5 40 (Value.agg #[Value.int IntKind.i64 0, Value.int IntKind.i64 0, Value.int IntKind.i64 0, Value.int IntKind.i64 0, Value.bool false]) := ⟨by kernel_rfl, rfl, by decide⟩
theorem bd117 : BD Try.prog 117 (Value.cells (Value.agg #[Value.int IntKind.i64 0, Value.int IntKind.i64 0, Value.int IntKind.i64 0, Value.int IntKind.i64 0, Value.bool false])).toList [(0, 1), (1, 1), (2, 1), (3, 1), (4, 1)] := ⟨by kernel_rfl, by kernel_rfl, by kernel_rfl⟩
@[go_sem] theorem sh117 : Try.prog.stoodInHeld 117 = false := by kernel_rfl
@[go_sem] theorem ce118 : Try.prog.cellsOf 118 = 1 := by kernel_rfl
@[go_sem] theorem ce119 : Try.prog.cellsOf 119 = 1 := by kernel_rfl
@[go_sem] theorem ce120 : Try.prog.cellsOf 120 = 1 := by kernel_rfl
@[go_sem] theorem ce121 : Try.prog.cellsOf 121 = 1 := by kernel_rfl
@[go_sem] theorem ce122 : Try.prog.cellsOf 122 = 2 := by kernel_rfl
@[go_sem] theorem ce123 : Try.prog.cellsOf 123 = 2 := by kernel_rfl
theorem zv123 : (Try.prog.info? 123).bind (fun i => i.zero.map fun z => z.cells.toList) = some (Value.cells (Value.agg #[Value.slice none 0 0, Value.int IntKind.i64 0])).toList := by kernel_rfl
theorem eo123 : EO Try.prog 123 2 32 (Value.agg #[Value.slice none 0 0, Value.int IntKind.i64 0]) := ⟨by kernel_rfl, rfl, by decide⟩
theorem bd123 : BD Try.prog 123 (Value.cells (Value.agg #[Value.slice none 0 0, Value.int IntKind.i64 0])).toList [(0, 1), (1, 1)] := ⟨by kernel_rfl, by kernel_rfl, by kernel_rfl⟩
@[go_sem] theorem sh123 : Try.prog.stoodInHeld 123 = false := by kernel_rfl
@[go_sem] theorem ce124 : Try.prog.cellsOf 124 = 1 := by kernel_rfl
@[go_sem] theorem ce125 : Try.prog.cellsOf 125 = 1 := by kernel_rfl
@[go_sem] theorem ce126 : Try.prog.cellsOf 126 = 1 := by kernel_rfl
@[go_sem] theorem ce127 : Try.prog.cellsOf 127 = 1 := by kernel_rfl
@[go_sem] theorem ce128 : Try.prog.cellsOf 128 = 1 := by kernel_rfl
@[go_sem] theorem ce129 : Try.prog.cellsOf 129 = 1 := by kernel_rfl
theorem eo129 : EO Try.prog 129 1 8 (Value.pointer none) := ⟨by kernel_rfl, rfl, by decide⟩
@[go_sem] theorem ce130 : Try.prog.cellsOf 130 = 1 := by kernel_rfl
@[go_sem] theorem ce131 : Try.prog.cellsOf 131 = 1 := by kernel_rfl
@[go_sem] theorem ce132 : Try.prog.cellsOf 132 = 1 := by kernel_rfl
@[go_sem] theorem ce133 : Try.prog.cellsOf 133 = 1 := by kernel_rfl
theorem eo133 : EO Try.prog 133 1 8 (Value.int IntKind.u64 0) := ⟨by kernel_rfl, rfl, by decide⟩
@[go_sem] theorem ce134 : Try.prog.cellsOf 134 = 1 := by kernel_rfl
@[go_sem] theorem ce135 : Try.prog.cellsOf 135 = 4 := by kernel_rfl
@[go_sem] theorem ce136 : Try.prog.cellsOf 136 = 4 := by kernel_rfl
@[go_sem] theorem ce137 : Try.prog.cellsOf 137 = 0 := by kernel_rfl
@[go_sem] theorem ce138 : Try.prog.cellsOf 138 = 0 := by kernel_rfl
@[go_sem] theorem ce139 : Try.prog.cellsOf 139 = 0 := by kernel_rfl
@[go_sem] theorem ce140 : Try.prog.cellsOf 140 = 1 := by kernel_rfl
@[go_sem] theorem ce141 : Try.prog.cellsOf 141 = 1 := by kernel_rfl
@[go_sem] theorem ce142 : Try.prog.cellsOf 142 = 1 := by kernel_rfl
@[go_sem] theorem ce143 : Try.prog.cellsOf 143 = 1 := by kernel_rfl
@[go_sem] theorem ce144 : Try.prog.cellsOf 144 = 1 := by kernel_rfl
@[go_sem] theorem ce145 : Try.prog.cellsOf 145 = 1 := by kernel_rfl
@[go_sem] theorem ce146 : Try.prog.cellsOf 146 = 1 := by kernel_rfl
@[go_sem] theorem ce147 : Try.prog.cellsOf 147 = 11 := by kernel_rfl
@[go_sem] theorem ce148 : Try.prog.cellsOf 148 = 11 := by kernel_rfl
@[go_sem] theorem ce149 : Try.prog.cellsOf 149 = 1 := by kernel_rfl
attribute [go_sem] Try.underlying0
attribute [go_sem] Try.underlying1
attribute [go_sem] Try.underlying2
attribute [go_sem] Try.underlying3
attribute [go_sem] Try.underlying4
attribute [go_sem] Try.underlying5
attribute [go_sem] Try.underlying6
attribute [go_sem] Try.underlying7
attribute [go_sem] Try.underlying8
attribute [go_sem] Try.underlying9
attribute [go_sem] Try.underlying10
attribute [go_sem] Try.underlying11
attribute [go_sem] Try.underlying12
attribute [go_sem] Try.underlying13
attribute [go_sem] Try.underlying14
attribute [go_sem] Try.underlying15
attribute [go_sem] Try.underlying16
attribute [go_sem] Try.underlying17
attribute [go_sem] Try.underlying18
attribute [go_sem] Try.underlying19
attribute [go_sem] Try.underlying20
attribute [go_sem] Try.underlying21
attribute [go_sem] Try.underlying22
attribute [go_sem] Try.underlying23
attribute [go_sem] Try.underlying24
attribute [go_sem] Try.underlying25
attribute [go_sem] Try.underlying26
attribute [go_sem] Try.underlying27
attribute [go_sem] Try.underlying28
attribute [go_sem] Try.underlying29
attribute [go_sem] Try.underlying30
attribute [go_sem] Try.underlying31
attribute [go_sem] Try.underlying32
attribute [go_sem] Try.underlying33
attribute [go_sem] Try.underlying34
attribute [go_sem] Try.underlying35
attribute [go_sem] Try.underlying36
attribute [go_sem] Try.underlying37
attribute [go_sem] Try.underlying38
attribute [go_sem] Try.underlying39
attribute [go_sem] Try.underlying40
attribute [go_sem] Try.underlying41
attribute [go_sem] Try.underlying42
attribute [go_sem] Try.underlying43
attribute [go_sem] Try.underlying44
attribute [go_sem] Try.underlying45
attribute [go_sem] Try.underlying46
attribute [go_sem] Try.underlying47
attribute [go_sem] Try.underlying48
attribute [go_sem] Try.underlying49
attribute [go_sem] Try.underlying50
attribute [go_sem] Try.underlying51
attribute [go_sem] Try.underlying52
attribute [go_sem] Try.underlying53
attribute [go_sem] Try.underlying54
attribute [go_sem] Try.underlying55
attribute [go_sem] Try.underlying56
attribute [go_sem] Try.underlying57
attribute [go_sem] Try.underlying58
attribute [go_sem] Try.underlying59
attribute [go_sem] Try.underlying60
attribute [go_sem] Try.underlying61
attribute [go_sem] Try.underlying62
attribute [go_sem] Try.underlying63
attribute [go_sem] Try.underlying64
attribute [go_sem] Try.underlying65
attribute [go_sem] Try.underlying66
attribute [go_sem] Try.underlying67
attribute [go_sem] Try.underlying68
attribute [go_sem] Try.underlying69
attribute [go_sem] Try.underlying70
attribute [go_sem] Try.underlying71
attribute [go_sem] Try.underlying72
attribute [go_sem] Try.underlying73
attribute [go_sem] Try.underlying74
attribute [go_sem] Try.underlying75
attribute [go_sem] Try.underlying76
attribute [go_sem] Try.underlying77
attribute [go_sem] Try.underlying78
attribute [go_sem] Try.underlying79
attribute [go_sem] Try.underlying80
attribute [go_sem] Try.underlying81
attribute [go_sem] Try.underlying82
attribute [go_sem] Try.underlying83
attribute [go_sem] Try.underlying84
attribute [go_sem] Try.underlying85
attribute [go_sem] Try.underlying86
attribute [go_sem] Try.underlying87
attribute [go_sem] Try.underlying88
attribute [go_sem] Try.underlying89
attribute [go_sem] Try.underlying90
attribute [go_sem] Try.underlying91
attribute [go_sem] Try.underlying92
attribute [go_sem] Try.underlying93
attribute [go_sem] Try.underlying94
attribute [go_sem] Try.underlying95
attribute [go_sem] Try.underlying96
attribute [go_sem] Try.underlying97
attribute [go_sem] Try.underlying98
attribute [go_sem] Try.underlying99
attribute [go_sem] Try.underlying100
attribute [go_sem] Try.underlying101
attribute [go_sem] Try.underlying102
attribute [go_sem] Try.underlying103
attribute [go_sem] Try.underlying104
attribute [go_sem] Try.underlying105
attribute [go_sem] Try.underlying106
attribute [go_sem] Try.underlying107
attribute [go_sem] Try.underlying108
attribute [go_sem] Try.underlying109
attribute [go_sem] Try.underlying110
attribute [go_sem] Try.underlying111
attribute [go_sem] Try.underlying112
attribute [go_sem] Try.underlying113
attribute [go_sem] Try.underlying114
attribute [go_sem] Try.underlying115
attribute [go_sem] Try.underlying116
attribute [go_sem] Try.underlying117
attribute [go_sem] Try.underlying118
attribute [go_sem] Try.underlying119
attribute [go_sem] Try.underlying120
attribute [go_sem] Try.underlying121
attribute [go_sem] Try.underlying122
attribute [go_sem] Try.underlying123
attribute [go_sem] Try.underlying124
attribute [go_sem] Try.underlying125
attribute [go_sem] Try.underlying126
attribute [go_sem] Try.underlying127
attribute [go_sem] Try.underlying128
attribute [go_sem] Try.underlying129
attribute [go_sem] Try.underlying130
attribute [go_sem] Try.underlying131
attribute [go_sem] Try.underlying132
attribute [go_sem] Try.underlying133
attribute [go_sem] Try.underlying134
attribute [go_sem] Try.underlying135
attribute [go_sem] Try.underlying136
attribute [go_sem] Try.underlying137
attribute [go_sem] Try.underlying138
attribute [go_sem] Try.underlying139
attribute [go_sem] Try.underlying140
attribute [go_sem] Try.underlying141
attribute [go_sem] Try.underlying142
attribute [go_sem] Try.underlying143
attribute [go_sem] Try.underlying144
attribute [go_sem] Try.underlying145
attribute [go_sem] Try.underlying146
attribute [go_sem] Try.underlying147
attribute [go_sem] Try.underlying148
attribute [go_sem] Try.underlying149
end Go.Proofs.Ytpkangodlfhjgaa
