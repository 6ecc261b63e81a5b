import Derived.Test.YtideijigonjohaaLf
import Derived.Test.YtideijigonjohaaChecked
import Derived.KernelRfl
set_option linter.unusedVariables false
namespace Go.Proofs.Ytideijigonjohaa
open Go Go.Lf Go.Proofs
theorem mixed : Try.prog.follows .mixedOrders = true := Try.checked.mixed
@[go_sem] theorem ce1 : Try.prog.cellsOf 1 = 1 := by kernel_rfl
@[go_sem] theorem ce2 : Try.prog.cellsOf 2 = 1 := by kernel_rfl
@[go_sem] theorem ce3 : Try.prog.cellsOf 3 = 1 := by kernel_rfl
theorem zv3 : (Try.prog.info? 3).bind (fun i => i.zero.map fun z => z.cells.toList) = some (Value.cells (Value.int IntKind.i64 0)).toList := by kernel_rfl
theorem eo3 : EO Try.prog 3 1 8 (Value.int IntKind.i64 0) := ⟨by kernel_rfl, rfl, by decide⟩
@[go_sem] theorem ce4 : Try.prog.cellsOf 4 = 1 := by kernel_rfl
theorem zv4 : (Try.prog.info? 4).bind (fun i => i.zero.map fun z => z.cells.toList) = some (Value.cells (Value.bool false)).toList := by kernel_rfl
theorem eo4 : EO Try.prog 4 1 1 (Value.bool false) := ⟨by kernel_rfl, rfl, by decide⟩
@[go_sem] theorem ce5 : Try.prog.cellsOf 5 = 1 := by kernel_rfl
theorem zv5 : (Try.prog.info? 5).bind (fun i => i.zero.map fun z => z.cells.toList) = some (Value.cells (Value.int IntKind.u8 0)).toList := by kernel_rfl
theorem eo5 : EO Try.prog 5 1 1 (Value.int IntKind.u8 0) := ⟨by kernel_rfl, rfl, by decide⟩
@[go_sem] theorem ce6 : Try.prog.cellsOf 6 = 1 := by kernel_rfl
@[go_sem] theorem ce7 : Try.prog.cellsOf 7 = 4 := by kernel_rfl
@[go_sem] theorem ce8 : Try.prog.cellsOf 8 = 4 := by kernel_rfl
@[go_sem] theorem ce9 : Try.prog.cellsOf 9 = 1 := by kernel_rfl
@[go_sem] theorem ce10 : Try.prog.cellsOf 10 = 1 := by kernel_rfl
@[go_sem] theorem ce11 : Try.prog.cellsOf 11 = 1 := by kernel_rfl
@[go_sem] theorem ce12 : Try.prog.cellsOf 12 = 1 := by kernel_rfl
@[go_sem] theorem ce13 : Try.prog.cellsOf 13 = 2 := by kernel_rfl
@[go_sem] theorem ce14 : Try.prog.cellsOf 14 = 2 := by kernel_rfl
@[go_sem] theorem ce15 : Try.prog.cellsOf 15 = 1 := by kernel_rfl
@[go_sem] theorem ce16 : Try.prog.cellsOf 16 = 1 := by kernel_rfl
@[go_sem] theorem ce17 : Try.prog.cellsOf 17 = 1 := by kernel_rfl
@[go_sem] theorem ce18 : Try.prog.cellsOf 18 = 1 := by kernel_rfl
@[go_sem] theorem ce19 : Try.prog.cellsOf 19 = 1 := by kernel_rfl
@[go_sem] theorem ce20 : Try.prog.cellsOf 20 = 1 := by kernel_rfl
@[go_sem] theorem ce21 : Try.prog.cellsOf 21 = 1 := by kernel_rfl
@[go_sem] theorem ce22 : Try.prog.cellsOf 22 = 1 := by kernel_rfl
@[go_sem] theorem ce23 : Try.prog.cellsOf 23 = 1 := by kernel_rfl
@[go_sem] theorem ce24 : Try.prog.cellsOf 24 = 2 := by kernel_rfl
@[go_sem] theorem ce25 : Try.prog.cellsOf 25 = 2 := by kernel_rfl
@[go_sem] theorem sh25 : Try.prog.stoodInHeld 25 = false := by kernel_rfl
@[go_sem] theorem ce27 : Try.prog.cellsOf 27 = 1 := by kernel_rfl
@[go_sem] theorem ce28 : Try.prog.cellsOf 28 = 1 := by kernel_rfl
@[go_sem] theorem ce29 : Try.prog.cellsOf 29 = 6 := by kernel_rfl
@[go_sem] theorem ce30 : Try.prog.cellsOf 30 = 6 := by kernel_rfl
@[go_sem] theorem sh30 : Try.prog.stoodInHeld 30 = false := by kernel_rfl
@[go_sem] theorem ce31 : Try.prog.cellsOf 31 = 1 := by kernel_rfl
@[go_sem] theorem ce32 : Try.prog.cellsOf 32 = 1 := by kernel_rfl
@[go_sem] theorem ce33 : Try.prog.cellsOf 33 = 1 := by kernel_rfl
theorem zv33 : (Try.prog.info? 33).bind (fun i => i.zero.map fun z => z.cells.toList) = some (Value.cells (Value.slice none 0 0)).toList := by kernel_rfl
theorem eo33 : EO Try.prog 33 1 24 (Value.slice none 0 0) := ⟨by kernel_rfl, rfl, by decide⟩
@[go_sem] theorem ce34 : Try.prog.cellsOf 34 = 1 := by kernel_rfl
theorem zv34 : (Try.prog.info? 34).bind (fun i => i.zero.map fun z => z.cells.toList) = some (Value.cells (Value.int IntKind.i64 0)).toList := by kernel_rfl
theorem eo34 : EO Try.prog 34 1 8 (Value.int IntKind.i64 0) := ⟨by kernel_rfl, rfl, by decide⟩
@[go_sem] theorem ce36 : Try.prog.cellsOf 36 = 1 := by kernel_rfl
@[go_sem] theorem ce38 : Try.prog.cellsOf 38 = 1 := by kernel_rfl
@[go_sem] theorem ce39 : Try.prog.cellsOf 39 = 1 := by kernel_rfl
@[go_sem] theorem ce41 : Try.prog.cellsOf 41 = 1 := by kernel_rfl
@[go_sem] theorem ce42 : Try.prog.cellsOf 42 = 1 := by kernel_rfl
@[go_sem] theorem ce43 : Try.prog.cellsOf 43 = 1 := by kernel_rfl
@[go_sem] theorem ce45 : Try.prog.cellsOf 45 = 1 := by kernel_rfl
@[go_sem] theorem ce46 : Try.prog.cellsOf 46 = 1 := by kernel_rfl
@[go_sem] theorem ce47 : Try.prog.cellsOf 47 = 1 := by kernel_rfl
@[go_sem] theorem ce48 : Try.prog.cellsOf 48 = 1 := by kernel_rfl
@[go_sem] theorem ce49 : Try.prog.cellsOf 49 = 1 := by kernel_rfl
@[go_sem] theorem ce51 : Try.prog.cellsOf 51 = 1 := by kernel_rfl
@[go_sem] theorem ce52 : Try.prog.cellsOf 52 = 3 := by kernel_rfl
@[go_sem] theorem ce53 : Try.prog.cellsOf 53 = 3 := by kernel_rfl
@[go_sem] theorem sh53 : Try.prog.stoodInHeld 53 = false := by kernel_rfl
@[go_sem] theorem ce54 : Try.prog.cellsOf 54 = 4 := by kernel_rfl
@[go_sem] theorem ce55 : Try.prog.cellsOf 55 = 4 := by kernel_rfl
@[go_sem] theorem sh55 : Try.prog.stoodInHeld 55 = false := by kernel_rfl
@[go_sem] theorem ce56 : Try.prog.cellsOf 56 = 1 := by kernel_rfl
@[go_sem] theorem ce57 : Try.prog.cellsOf 57 = 1 := by kernel_rfl
@[go_sem] theorem ce59 : Try.prog.cellsOf 59 = 1 := by kernel_rfl
@[go_sem] theorem ce60 : Try.prog.cellsOf 60 = 1 := by kernel_rfl
@[go_sem] theorem ce61 : Try.prog.cellsOf 61 = 1 := by kernel_rfl
@[go_sem] theorem ce62 : Try.prog.cellsOf 62 = 1 := by kernel_rfl
@[go_sem] theorem ce63 : Try.prog.cellsOf 63 = 1 := by kernel_rfl
@[go_sem] theorem ce64 : Try.prog.cellsOf 64 = 1 := by kernel_rfl
@[go_sem] theorem ce65 : Try.prog.cellsOf 65 = 1 := by kernel_rfl
@[go_sem] theorem ce66 : Try.prog.cellsOf 66 = 1 := by kernel_rfl
@[go_sem] theorem ce67 : Try.prog.cellsOf 67 = 1 := by kernel_rfl
@[go_sem] theorem ce68 : Try.prog.cellsOf 68 = 1 := by kernel_rfl
@[go_sem] theorem ce69 : Try.prog.cellsOf 69 = 1 := by kernel_rfl
@[go_sem] theorem ce70 : Try.prog.cellsOf 70 = 1 := by kernel_rfl
theorem zv70 : (Try.prog.info? 70).bind (fun i => i.zero.map fun z => z.cells.toList) = some (Value.cells (Value.slice none 0 0)).toList := by kernel_rfl
theorem eo70 : EO Try.prog 70 1 24 (Value.slice none 0 0) := ⟨by kernel_rfl, rfl, by decide⟩
@[go_sem] theorem ce71 : Try.prog.cellsOf 71 = 3 := by kernel_rfl
@[go_sem] theorem ce72 : Try.prog.cellsOf 72 = 3 := by kernel_rfl
@[go_sem] theorem sh72 : Try.prog.stoodInHeld 72 = false := by kernel_rfl
@[go_sem] theorem ce73 : Try.prog.cellsOf 73 = 1 := by kernel_rfl
@[go_sem] theorem ce74 : Try.prog.cellsOf 74 = 1 := by kernel_rfl
@[go_sem] theorem ce75 : Try.prog.cellsOf 75 = 3 := by kernel_rfl
@[go_sem] theorem ce76 : Try.prog.cellsOf 76 = 3 := by kernel_rfl
@[go_sem] theorem sh76 : Try.prog.stoodInHeld 76 = false := by kernel_rfl
@[go_sem] theorem ce77 : Try.prog.cellsOf 77 = 1 := by kernel_rfl
@[go_sem] theorem ce78 : Try.prog.cellsOf 78 = 1 := by kernel_rfl
@[go_sem] theorem ce80 : Try.prog.cellsOf 80 = 1 := by kernel_rfl
@[go_sem] theorem ce81 : Try.prog.cellsOf 81 = 1 := by kernel_rfl
@[go_sem] theorem ce82 : Try.prog.cellsOf 82 = 1 := by kernel_rfl
@[go_sem] theorem ce83 : Try.prog.cellsOf 83 = 1 := by kernel_rfl
@[go_sem] theorem ce84 : Try.prog.cellsOf 84 = 1 := by kernel_rfl
@[go_sem] theorem ce85 : Try.prog.cellsOf 85 = 1 := by kernel_rfl
@[go_sem] theorem ce86 : Try.prog.cellsOf 86 = 1 := by kernel_rfl
@[go_sem] theorem ce87 : Try.prog.cellsOf 87 = 3 := by kernel_rfl
@[go_sem] theorem ce88 : Try.prog.cellsOf 88 = 3 := by kernel_rfl
@[go_sem] theorem sh88 : Try.prog.stoodInHeld 88 = false := by kernel_rfl
@[go_sem] theorem ce89 : Try.prog.cellsOf 89 = 1 := by kernel_rfl
@[go_sem] theorem ce90 : Try.prog.cellsOf 90 = 1 := by kernel_rfl
@[go_sem] theorem ce91 : Try.prog.cellsOf 91 = 5 := by kernel_rfl
@[go_sem] theorem ce92 : Try.prog.cellsOf 92 = 5 := by kernel_rfl
theorem zv92 : (Try.prog.info? 92).bind (fun i => i.zero.map fun z => z.cells.toList) = some (Value.cells (Value.agg #[Value.int IntKind.i64 0, Value.int IntKind.i64 0, Value.int IntKind.i64 0, Value.int IntKind.i64 0, Value.bool false])).toList := by kernel_rfl
theorem eo92 : EO Try.prog 92 5 40 (Value.agg #[Value.int IntKind.i64 0, Value.int IntKind.i64 0, Value.int IntKind.i64 0, Value.int IntKind.i64 0, Value.bool false]) := ⟨by kernel_rfl, rfl, by decide⟩
theorem bd92 : BD Try.prog 92 (Value.cells (Value.agg #[Value.int IntKind.i64 0, Value.int IntKind.i64 0, Value.int IntKind.i64 0, Value.int IntKind.i64 0, Value.bool false])).toList [(0, 1), (1, 1), (2, 1), (3, 1), (4, 1)] := ⟨by kernel_rfl, by kernel_rfl, by kernel_rfl⟩
@[go_sem] theorem sh92 : Try.prog.stoodInHeld 92 = false := by kernel_rfl
@[go_sem] theorem ce93 : Try.prog.cellsOf 93 = 5 := by kernel_rfl
theorem zv93 : (Try.prog.info? 93).bind (fun i => i.zero.map fun z => z.cells.toList) = some (Value.cells (Value.agg #[Value.int IntKind.i64 0, Value.int IntKind.i64 0, Value.int IntKind.i64 0, Value.int IntKind.i64 0, Value.bool false])).toList := by kernel_rfl
theorem eo93 : EO Try.prog 93 5 40 (Value.agg #[Value.int IntKind.i64 0, Value.int IntKind.i64 0, Value.int IntKind.i64 0, Value.int IntKind.i64 0, Value.bool false]) := ⟨by kernel_rfl, rfl, by decide⟩
theorem bd93 : BD Try.prog 93 (Value.cells (Value.agg #[Value.int IntKind.i64 0, Value.int IntKind.i64 0, Value.int IntKind.i64 0, Value.int IntKind.i64 0, Value.bool false])).toList [(0, 1), (1, 1), (2, 1), (3, 1), (4, 1)] := ⟨by kernel_rfl, by kernel_rfl, by kernel_rfl⟩
@[go_sem] theorem sh93 : Try.prog.stoodInHeld 93 = false := by kernel_rfl
@[go_sem] theorem ce94 : Try.prog.cellsOf 94 = 1 := by kernel_rfl
@[go_sem] theorem ce95 : Try.prog.cellsOf 95 = 1 := by kernel_rfl
@[go_sem] theorem ce96 : Try.prog.cellsOf 96 = 1 := by kernel_rfl
@[go_sem] theorem ce98 : Try.prog.cellsOf 98 = 1 := by kernel_rfl
@[go_sem] theorem ce99 : Try.prog.cellsOf 99 = 1 := by kernel_rfl
@[go_sem] theorem ce101 : Try.prog.cellsOf 101 = 1 := by kernel_rfl
@[go_sem] theorem ce102 : Try.prog.cellsOf 102 = 1 := by kernel_rfl
@[go_sem] theorem ce103 : Try.prog.cellsOf 103 = 1 := by kernel_rfl
@[go_sem] theorem ce104 : Try.prog.cellsOf 104 = 2 := by kernel_rfl
@[go_sem] theorem ce105 : Try.prog.cellsOf 105 = 2 := by kernel_rfl
@[go_sem] theorem sh105 : Try.prog.stoodInHeld 105 = false := by kernel_rfl
@[go_sem] theorem ce106 : Try.prog.cellsOf 106 = 1 := by kernel_rfl
@[go_sem] theorem ce107 : Try.prog.cellsOf 107 = 1 := by kernel_rfl
@[go_sem] theorem ce108 : Try.prog.cellsOf 108 = 1 := by kernel_rfl
@[go_sem] theorem ce109 : Try.prog.cellsOf 109 = 1 := by kernel_rfl
@[go_sem] theorem ce110 : Try.prog.cellsOf 110 = 2 := by kernel_rfl
@[go_sem] theorem ce111 : Try.prog.cellsOf 111 = 2 := by kernel_rfl
@[go_sem] theorem sh111 : Try.prog.stoodInHeld 111 = false := by kernel_rfl
@[go_sem] theorem ce112 : Try.prog.cellsOf 112 = 4 := by kernel_rfl
@[go_sem] theorem ce113 : Try.prog.cellsOf 113 = 4 := by kernel_rfl
@[go_sem] theorem sh113 : Try.prog.stoodInHeld 113 = false := by kernel_rfl
@[go_sem] theorem ce114 : Try.prog.cellsOf 114 = 6 := by kernel_rfl
@[go_sem] theorem ce115 : Try.prog.cellsOf 115 = 6 := by kernel_rfl
@[go_sem] theorem sh115 : Try.prog.stoodInHeld 115 = false := by kernel_rfl
@[go_sem] theorem ce116 : Try.prog.cellsOf 116 = 1 := by kernel_rfl
@[go_sem] theorem ce117 : Try.prog.cellsOf 117 = 1 := by kernel_rfl
@[go_sem] theorem ce118 : Try.prog.cellsOf 118 = 6 := by kernel_rfl
@[go_sem] theorem sh118 : Try.prog.stoodInHeld 118 = false := by kernel_rfl
@[go_sem] theorem ce119 : Try.prog.cellsOf 119 = 1 := by kernel_rfl
@[go_sem] theorem ce120 : Try.prog.cellsOf 120 = 1 := by kernel_rfl
@[go_sem] theorem ce121 : Try.prog.cellsOf 121 = 1 := by kernel_rfl
@[go_sem] theorem ce122 : Try.prog.cellsOf 122 = 1 := by kernel_rfl
@[go_sem] theorem ce123 : Try.prog.cellsOf 123 = 2 := by kernel_rfl
@[go_sem] theorem sh123 : Try.prog.stoodInHeld 123 = false := by kernel_rfl
@[go_sem] theorem ce124 : Try.prog.cellsOf 124 = 4 := by kernel_rfl
@[go_sem] theorem ce125 : Try.prog.cellsOf 125 = 4 := by kernel_rfl
@[go_sem] theorem sh125 : Try.prog.stoodInHeld 125 = false := by kernel_rfl
@[go_sem] theorem ce126 : Try.prog.cellsOf 126 = 1 := by kernel_rfl
@[go_sem] theorem ce127 : Try.prog.cellsOf 127 = 1 := by kernel_rfl
@[go_sem] theorem ce128 : Try.prog.cellsOf 128 = 1 := by kernel_rfl
@[go_sem] theorem ce129 : Try.prog.cellsOf 129 = 3 := by kernel_rfl
@[go_sem] theorem ce130 : Try.prog.cellsOf 130 = 3 := by kernel_rfl
@[go_sem] theorem sh130 : Try.prog.stoodInHeld 130 = false := by kernel_rfl
@[go_sem] theorem ce131 : Try.prog.cellsOf 131 = 1 := by kernel_rfl
@[go_sem] theorem ce132 : Try.prog.cellsOf 132 = 6 := by kernel_rfl
@[go_sem] theorem ce133 : Try.prog.cellsOf 133 = 6 := by kernel_rfl
theorem zv133 : (Try.prog.info? 133).bind (fun i => i.zero.map fun z => z.cells.toList) = some (Value.cells (Value.agg #[Value.int IntKind.i64 0, Value.int IntKind.i64 0, Value.int IntKind.i64 0, Value.int IntKind.i64 0, Value.bool false, Value.slice none 0 0])).toList := by kernel_rfl
theorem eo133 : EO Try.prog 133 6 64 (Value.agg #[Value.int IntKind.i64 0, Value.int IntKind.i64 0, Value.int IntKind.i64 0, Value.int IntKind.i64 0, Value.bool false, Value.slice none 0 0]) := ⟨by kernel_rfl, rfl, by decide⟩
theorem bd133 : BD Try.prog 133 (Value.cells (Value.agg #[Value.int IntKind.i64 0, Value.int IntKind.i64 0, Value.int IntKind.i64 0, Value.int IntKind.i64 0, Value.bool false, Value.slice none 0 0])).toList [(0, 1), (1, 1), (2, 1), (3, 1), (4, 1), (5, 1)] := ⟨by kernel_rfl, by kernel_rfl, by kernel_rfl⟩
@[go_sem] theorem sh133 : Try.prog.stoodInHeld 133 = false := by kernel_rfl
theorem eg133 : Try.prog.eqGuardType Try.prog.depth 133 = false := by kernel_rfl
@[go_sem] theorem ce134 : Try.prog.cellsOf 134 = 1 := by kernel_rfl
@[go_sem] theorem ce135 : Try.prog.cellsOf 135 = 1 := by kernel_rfl
@[go_sem] theorem ce136 : Try.prog.cellsOf 136 = 1 := by kernel_rfl
@[go_sem] theorem ce137 : Try.prog.cellsOf 137 = 1 := by kernel_rfl
@[go_sem] theorem ce138 : Try.prog.cellsOf 138 = 1 := by kernel_rfl
@[go_sem] theorem ce139 : Try.prog.cellsOf 139 = 1 := by kernel_rfl
@[go_sem] theorem ce140 : Try.prog.cellsOf 140 = 1 := by kernel_rfl
@[go_sem] theorem ce141 : Try.prog.cellsOf 141 = 1 := by kernel_rfl
@[go_sem] theorem ce142 : Try.prog.cellsOf 142 = 1 := by kernel_rfl
@[go_sem] theorem ce143 : Try.prog.cellsOf 143 = 1 := by kernel_rfl
theorem zv143 : (Try.prog.info? 143).bind (fun i => i.zero.map fun z => z.cells.toList) = some (Value.cells (Value.slice none 0 0)).toList := by kernel_rfl
theorem eo143 : EO Try.prog 143 1 24 (Value.slice none 0 0) := ⟨by kernel_rfl, rfl, by decide⟩
@[go_sem] theorem ce144 : Try.prog.cellsOf 144 = 1 := by kernel_rfl
@[go_sem] theorem ce145 : Try.prog.cellsOf 145 = 1 := by kernel_rfl
theorem zv145 : (Try.prog.info? 145).bind (fun i => i.zero.map fun z => z.cells.toList) = some (Value.cells (Value.pointer none)).toList := by kernel_rfl
theorem eo145 : EO Try.prog 145 1 8 (Value.pointer none) := ⟨by kernel_rfl, rfl, by decide⟩
@[go_sem] theorem ce146 : Try.prog.cellsOf 146 = 1 := by kernel_rfl
@[go_sem] theorem ce147 : Try.prog.cellsOf 147 = 1 := by kernel_rfl
@[go_sem] theorem ce148 : Try.prog.cellsOf 148 = 2 := by kernel_rfl
theorem zv148 : (Try.prog.info? 148).bind (fun i => i.zero.map fun z => z.cells.toList) = some (Value.cells (Value.agg #[Value.int IntKind.i64 0, Value.int IntKind.i64 0])).toList := by kernel_rfl
theorem eo148 : EO Try.prog 148 2 16 (Value.agg #[Value.int IntKind.i64 0, Value.int IntKind.i64 0]) := ⟨by kernel_rfl, rfl, by decide⟩
theorem bd148 : BD Try.prog 148 (Value.cells (Value.agg #[Value.int IntKind.i64 0, Value.int IntKind.i64 0])).toList [(0, 1), (1, 1)] := ⟨by kernel_rfl, by kernel_rfl, by kernel_rfl⟩
theorem eg148 : Try.prog.eqGuardType Try.prog.depth 148 = false := by kernel_rfl
@[go_sem] theorem ce150 : Try.prog.cellsOf 150 = 1 := by kernel_rfl
@[go_sem] theorem ce151 : Try.prog.cellsOf 151 = 2 := by kernel_rfl
@[go_sem] theorem ce152 : Try.prog.cellsOf 152 = 2 := by kernel_rfl
theorem zv152 : (Try.prog.info? 152).bind (fun i => i.zero.map fun z => z.cells.toList) = some (Value.cells (Value.agg #[Value.int IntKind.i64 0, Value.slice none 0 0])).toList := by kernel_rfl
theorem eo152 : EO Try.prog 152 2 32 (Value.agg #[Value.int IntKind.i64 0, Value.slice none 0 0]) := ⟨by kernel_rfl, rfl, by decide⟩
theorem bd152 : BD Try.prog 152 (Value.cells (Value.agg #[Value.int IntKind.i64 0, Value.slice none 0 0])).toList [(0, 1), (1, 1)] := ⟨by kernel_rfl, by kernel_rfl, by kernel_rfl⟩
@[go_sem] theorem sh152 : Try.prog.stoodInHeld 152 = false := by kernel_rfl
theorem eg152 : Try.prog.eqGuardType Try.prog.depth 152 = false := by kernel_rfl
@[go_sem] theorem ce153 : Try.prog.cellsOf 153 = 1 := by kernel_rfl
theorem zv153 : (Try.prog.info? 153).bind (fun i => i.zero.map fun z => z.cells.toList) = some (Value.cells (Value.slice none 0 0)).toList := by kernel_rfl
theorem eo153 : EO Try.prog 153 1 24 (Value.slice none 0 0) := ⟨by kernel_rfl, rfl, by decide⟩
@[go_sem] theorem ce155 : Try.prog.cellsOf 155 = 1 := by kernel_rfl
@[go_sem] theorem ce156 : Try.prog.cellsOf 156 = 1 := by kernel_rfl
@[go_sem] theorem ce157 : Try.prog.cellsOf 157 = 1 := by kernel_rfl
@[go_sem] theorem ce158 : Try.prog.cellsOf 158 = 1 := by kernel_rfl
@[go_sem] theorem ce160 : Try.prog.cellsOf 160 = 1 := by kernel_rfl
@[go_sem] theorem ce161 : Try.prog.cellsOf 161 = 1 := by kernel_rfl
@[go_sem] theorem ce162 : Try.prog.cellsOf 162 = 1 := by kernel_rfl
@[go_sem] theorem ce163 : Try.prog.cellsOf 163 = 1 := by kernel_rfl
@[go_sem] theorem ce164 : Try.prog.cellsOf 164 = 8 := by kernel_rfl
@[go_sem] theorem ce165 : Try.prog.cellsOf 165 = 8 := by kernel_rfl
theorem zv165 : (Try.prog.info? 165).bind (fun i => i.zero.map fun z => z.cells.toList) = some (Value.cells (Value.agg #[Value.int IntKind.i64 0, Value.int IntKind.i64 0, Value.slice none 0 0, Value.int IntKind.i64 0, Value.int IntKind.i64 0, Value.int IntKind.i64 0, Value.int IntKind.i64 0, Value.bool false])).toList := by kernel_rfl
theorem eo165 : EO Try.prog 165 8 80 (Value.agg #[Value.int IntKind.i64 0, Value.int IntKind.i64 0, Value.slice none 0 0, Value.int IntKind.i64 0, Value.int IntKind.i64 0, Value.int IntKind.i64 0, Value.int IntKind.i64 0, Value.bool false]) := ⟨by kernel_rfl, rfl, by decide⟩
theorem bd165 : BD Try.prog 165 (Value.cells (Value.agg #[Value.int IntKind.i64 0, Value.int IntKind.i64 0, Value.slice none 0 0, Value.int IntKind.i64 0, Value.int IntKind.i64 0, Value.int IntKind.i64 0, Value.int IntKind.i64 0, Value.bool false])).toList [(0, 1), (1, 1), (2, 1), (3, 5)] := ⟨by kernel_rfl, by kernel_rfl, by kernel_rfl⟩
@[go_sem] theorem sh165 : Try.prog.stoodInHeld 165 = false := by kernel_rfl
@[go_sem] theorem ce166 : Try.prog.cellsOf 166 = 16 := by kernel_rfl
theorem zv166 : (Try.prog.info? 166).bind (fun i => i.zero.map fun z => z.cells.toList) = some (Value.cells (Value.agg #[Value.int IntKind.i64 0, Value.int IntKind.i64 0, Value.slice none 0 0, Value.int IntKind.i64 0, Value.int IntKind.i64 0, Value.int IntKind.i64 0, Value.int IntKind.i64 0, Value.bool false, Value.int IntKind.i64 0, Value.int IntKind.i64 0, Value.slice none 0 0, Value.int IntKind.i64 0, Value.int IntKind.i64 0, Value.int IntKind.i64 0, Value.int IntKind.i64 0, Value.bool false])).toList := by kernel_rfl
theorem eo166 : EO Try.prog 166 16 160 (Value.agg #[Value.int IntKind.i64 0, Value.int IntKind.i64 0, Value.slice none 0 0, Value.int IntKind.i64 0, Value.int IntKind.i64 0, Value.int IntKind.i64 0, Value.int IntKind.i64 0, Value.bool false, Value.int IntKind.i64 0, Value.int IntKind.i64 0, Value.slice none 0 0, Value.int IntKind.i64 0, Value.int IntKind.i64 0, Value.int IntKind.i64 0, Value.int IntKind.i64 0, Value.bool false]) := ⟨by kernel_rfl, rfl, by decide⟩
theorem bd166 : BD Try.prog 166 (Value.cells (Value.agg #[Value.int IntKind.i64 0, Value.int IntKind.i64 0, Value.slice none 0 0, Value.int IntKind.i64 0, Value.int IntKind.i64 0, Value.int IntKind.i64 0, Value.int IntKind.i64 0, Value.bool false, Value.int IntKind.i64 0, Value.int IntKind.i64 0, Value.slice none 0 0, Value.int IntKind.i64 0, Value.int IntKind.i64 0, Value.int IntKind.i64 0, Value.int IntKind.i64 0, Value.bool false])).toList [(0, 8), (8, 8)] := ⟨by kernel_rfl, by kernel_rfl, by kernel_rfl⟩
@[go_sem] theorem ce167 : Try.prog.cellsOf 167 = 16 := by kernel_rfl
@[go_sem] theorem ce168 : Try.prog.cellsOf 168 = 16 := by kernel_rfl
theorem zv168 : (Try.prog.info? 168).bind (fun i => i.zero.map fun z => z.cells.toList) = some (Value.cells (Value.agg #[Value.int IntKind.i64 0, Value.int IntKind.i64 0, Value.slice none 0 0, Value.int IntKind.i64 0, Value.int IntKind.i64 0, Value.int IntKind.i64 0, Value.int IntKind.i64 0, Value.bool false, Value.int IntKind.i64 0, Value.int IntKind.i64 0, Value.slice none 0 0, Value.int IntKind.i64 0, Value.int IntKind.i64 0, Value.int IntKind.i64 0, Value.int IntKind.i64 0, Value.bool false])).toList := by kernel_rfl
theorem eo168 : EO Try.prog 168 16 160 (Value.agg #[Value.int IntKind.i64 0, Value.int IntKind.i64 0, Value.slice none 0 0, Value.int IntKind.i64 0, Value.int IntKind.i64 0, Value.int IntKind.i64 0, Value.int IntKind.i64 0, Value.bool false, Value.int IntKind.i64 0, Value.int IntKind.i64 0, Value.slice none 0 0, Value.int IntKind.i64 0, Value.int IntKind.i64 0, Value.int IntKind.i64 0, Value.int IntKind.i64 0, Value.bool false]) := ⟨by kernel_rfl, rfl, by decide⟩
theorem bd168 : BD Try.prog 168 (Value.cells (Value.agg #[Value.int IntKind.i64 0, Value.int IntKind.i64 0, Value.slice none 0 0, Value.int IntKind.i64 0, Value.int IntKind.i64 0, Value.int IntKind.i64 0, Value.int IntKind.i64 0, Value.bool false, Value.int IntKind.i64 0, Value.int IntKind.i64 0, Value.slice none 0 0, Value.int IntKind.i64 0, Value.int IntKind.i64 0, Value.int IntKind.i64 0, Value.int IntKind.i64 0, Value.bool false])).toList [(0, 16)] := ⟨by kernel_rfl, by kernel_rfl, by kernel_rfl⟩
@[go_sem] theorem sh168 : Try.prog.stoodInHeld 168 = false := by kernel_rfl
@[go_sem] theorem ce169 : Try.prog.cellsOf 169 = 1 := by kernel_rfl
@[go_sem] theorem ce170 : Try.prog.cellsOf 170 = 1 := by kernel_rfl
@[go_sem] theorem ce171 : Try.prog.cellsOf 171 = 2 := by kernel_rfl
@[go_sem] theorem ce172 : Try.prog.cellsOf 172 = 2 := by kernel_rfl
@[go_sem] theorem sh172 : Try.prog.stoodInHeld 172 = false := by kernel_rfl
@[go_sem] theorem ce173 : Try.prog.cellsOf 173 = 1 := by kernel_rfl
@[go_sem] theorem ce174 : Try.prog.cellsOf 174 = 1 := by kernel_rfl
@[go_sem] theorem ce175 : Try.prog.cellsOf 175 = 1 := by kernel_rfl
@[go_sem] theorem ce176 : Try.prog.cellsOf 176 = 1 := by kernel_rfl
theorem zv176 : (Try.prog.info? 176).bind (fun i => i.zero.map fun z => z.cells.toList) = some (Value.cells (Value.pointer none)).toList := by kernel_rfl
@[go_sem] theorem ce177 : Try.prog.cellsOf 177 = 1 := by kernel_rfl
@[go_sem] theorem ce179 : Try.prog.cellsOf 179 = 1 := by kernel_rfl
@[go_sem] theorem ce180 : Try.prog.cellsOf 180 = 1 := by kernel_rfl
@[go_sem] theorem ce181 : Try.prog.cellsOf 181 = 1 := by kernel_rfl
@[go_sem] theorem ce182 : Try.prog.cellsOf 182 = 1 := by kernel_rfl
@[go_sem] theorem ce183 : Try.prog.cellsOf 183 = 1 := by kernel_rfl
@[go_sem] theorem ce184 : Try.prog.cellsOf 184 = 1 := by kernel_rfl
@[go_sem] theorem ce185 : Try.prog.cellsOf 185 = 1 := by kernel_rfl
@[go_sem] theorem ce186 : Try.prog.cellsOf 186 = 1 := by kernel_rfl
@[go_sem] theorem ce187 : Try.prog.cellsOf 187 = 1 := by kernel_rfl
@[go_sem] theorem ce188 : Try.prog.cellsOf 188 = 1 := by kernel_rfl
@[go_sem] theorem ce189 : Try.prog.cellsOf 189 = 1 := by kernel_rfl
@[go_sem] theorem ce190 : Try.prog.cellsOf 190 = 1 := by kernel_rfl
@[go_sem] theorem ce191 : Try.prog.cellsOf 191 = 1 := by kernel_rfl
@[go_sem] theorem ce192 : Try.prog.cellsOf 192 = 4 := by kernel_rfl
theorem zv192 : (Try.prog.info? 192).bind (fun i => i.zero.map fun z => z.cells.toList) = some (Value.cells (Value.agg #[Value.int IntKind.i64 0, Value.int IntKind.i64 0, Value.int IntKind.i64 0, Value.int IntKind.i64 0])).toList := by kernel_rfl
theorem bd192 : BD Try.prog 192 (Value.cells (Value.agg #[Value.int IntKind.i64 0, Value.int IntKind.i64 0, Value.int IntKind.i64 0, Value.int IntKind.i64 0])).toList [(0, 1), (1, 1), (2, 1), (3, 1)] := ⟨by kernel_rfl, by kernel_rfl, by kernel_rfl⟩
@[go_sem] theorem ce194 : Try.prog.cellsOf 194 = 1 := by kernel_rfl
@[go_sem] theorem ce195 : Try.prog.cellsOf 195 = 1 := by kernel_rfl
@[go_sem] theorem ce196 : Try.prog.cellsOf 196 = 1 := by kernel_rfl
@[go_sem] theorem ce197 : Try.prog.cellsOf 197 = 1 := by kernel_rfl
@[go_sem] theorem ce198 : Try.prog.cellsOf 198 = 1 := by kernel_rfl
@[go_sem] theorem ce199 : Try.prog.cellsOf 199 = 1 := by kernel_rfl
@[go_sem] theorem ce200 : Try.prog.cellsOf 200 = 1 := by kernel_rfl
@[go_sem] theorem ce201 : Try.prog.cellsOf 201 = 1 := by kernel_rfl
@[go_sem] theorem ce202 : Try.prog.cellsOf 202 = 1 := by kernel_rfl
@[go_sem] theorem ce203 : Try.prog.cellsOf 203 = 1 := by kernel_rfl
@[go_sem] theorem ce204 : Try.prog.cellsOf 204 = 1 := by kernel_rfl
@[go_sem] theorem ce205 : Try.prog.cellsOf 205 = 1 := by kernel_rfl
@[go_sem] theorem ce206 : Try.prog.cellsOf 206 = 1 := by kernel_rfl
@[go_sem] theorem ce207 : Try.prog.cellsOf 207 = 2 := by kernel_rfl
@[go_sem] theorem ce209 : Try.prog.cellsOf 209 = 1 := by kernel_rfl
@[go_sem] theorem ce210 : Try.prog.cellsOf 210 = 1 := by kernel_rfl
@[go_sem] theorem ce211 : Try.prog.cellsOf 211 = 1 := by kernel_rfl
@[go_sem] theorem ce212 : Try.prog.cellsOf 212 = 1 := by kernel_rfl
theorem zv212 : (Try.prog.info? 212).bind (fun i => i.zero.map fun z => z.cells.toList) = some (Value.cells (Value.pointer none)).toList := by kernel_rfl
theorem eo212 : EO Try.prog 212 1 8 (Value.pointer none) := ⟨by kernel_rfl, rfl, by decide⟩
@[go_sem] theorem ce213 : Try.prog.cellsOf 213 = 1 := by kernel_rfl
@[go_sem] theorem ce214 : Try.prog.cellsOf 214 = 1 := by kernel_rfl
@[go_sem] theorem ce215 : Try.prog.cellsOf 215 = 1 := by kernel_rfl
@[go_sem] theorem ce216 : Try.prog.cellsOf 216 = 2 := by kernel_rfl
@[go_sem] theorem ce217 : Try.prog.cellsOf 217 = 2 := by kernel_rfl
theorem zv217 : (Try.prog.info? 217).bind (fun i => i.zero.map fun z => z.cells.toList) = some (Value.cells (Value.agg #[Value.slice none 0 0, Value.int IntKind.i64 0])).toList := by kernel_rfl
theorem bd217 : BD Try.prog 217 (Value.cells (Value.agg #[Value.slice none 0 0, Value.int IntKind.i64 0])).toList [(0, 1), (1, 1)] := ⟨by kernel_rfl, by kernel_rfl, by kernel_rfl⟩
@[go_sem] theorem sh217 : Try.prog.stoodInHeld 217 = false := by kernel_rfl
@[go_sem] theorem ce218 : Try.prog.cellsOf 218 = 1 := by kernel_rfl
@[go_sem] theorem ce219 : Try.prog.cellsOf 219 = 1 := by kernel_rfl
theorem eo219 : EO Try.prog 219 1 8 (Value.int IntKind.u64 0) := ⟨by kernel_rfl, rfl, by decide⟩
@[go_sem] theorem ce220 : Try.prog.cellsOf 220 = 1 := by kernel_rfl
@[go_sem] theorem ce221 : Try.prog.cellsOf 221 = 1 := by kernel_rfl
@[go_sem] theorem ce222 : Try.prog.cellsOf 222 = 1 := by kernel_rfl
@[go_sem] theorem ce223 : Try.prog.cellsOf 223 = 1 := by kernel_rfl
@[go_sem] theorem ce224 : Try.prog.cellsOf 224 = 1 := by kernel_rfl
@[go_sem] theorem ce225 : Try.prog.cellsOf 225 = 1 := by kernel_rfl
@[go_sem] theorem ce226 : Try.prog.cellsOf 226 = 1 := by kernel_rfl
@[go_sem] theorem ce227 : Try.prog.cellsOf 227 = 1 := by kernel_rfl
@[go_sem] theorem ce228 : Try.prog.cellsOf 228 = 1 := by kernel_rfl
@[go_sem] theorem ce229 : Try.prog.cellsOf 229 = 4 := by kernel_rfl
@[go_sem] theorem ce230 : Try.prog.cellsOf 230 = 4 := by kernel_rfl
@[go_sem] theorem ce231 : Try.prog.cellsOf 231 = 0 := by kernel_rfl
@[go_sem] theorem ce232 : Try.prog.cellsOf 232 = 0 := by kernel_rfl
@[go_sem] theorem ce233 : Try.prog.cellsOf 233 = 0 := by kernel_rfl
@[go_sem] theorem ce234 : Try.prog.cellsOf 234 = 1 := by kernel_rfl
@[go_sem] theorem ce235 : Try.prog.cellsOf 235 = 1 := by kernel_rfl
@[go_sem] theorem ce236 : Try.prog.cellsOf 236 = 1 := by kernel_rfl
@[go_sem] theorem ce237 : Try.prog.cellsOf 237 = 1 := by kernel_rfl
@[go_sem] theorem ce238 : Try.prog.cellsOf 238 = 1 := by kernel_rfl
@[go_sem] theorem ce239 : Try.prog.cellsOf 239 = 1 := by kernel_rfl
@[go_sem] theorem ce240 : Try.prog.cellsOf 240 = 1 := by kernel_rfl
@[go_sem] theorem ce241 : Try.prog.cellsOf 241 = 11 := by kernel_rfl
@[go_sem] theorem ce242 : Try.prog.cellsOf 242 = 11 := by kernel_rfl
@[go_sem] theorem ce243 : Try.prog.cellsOf 243 = 1 := by kernel_rfl
attribute [go_sem] Try.underlying0
attribute [go_sem] Try.underlying1
attribute [go_sem] Try.underlying2
attribute [go_sem] Try.underlying3
attribute [go_sem] Try.underlying4
attribute [go_sem] Try.underlying5
attribute [go_sem] Try.underlying6
attribute [go_sem] Try.underlying7
attribute [go_sem] Try.underlying8
attribute [go_sem] Try.underlying9
attribute [go_sem] Try.underlying10
attribute [go_sem] Try.underlying11
attribute [go_sem] Try.underlying12
attribute [go_sem] Try.underlying13
attribute [go_sem] Try.underlying14
attribute [go_sem] Try.underlying15
attribute [go_sem] Try.underlying16
attribute [go_sem] Try.underlying17
attribute [go_sem] Try.underlying18
attribute [go_sem] Try.underlying19
attribute [go_sem] Try.underlying20
attribute [go_sem] Try.underlying21
attribute [go_sem] Try.underlying22
attribute [go_sem] Try.underlying23
attribute [go_sem] Try.underlying24
attribute [go_sem] Try.underlying25
attribute [go_sem] Try.underlying26
attribute [go_sem] Try.underlying27
attribute [go_sem] Try.underlying28
attribute [go_sem] Try.underlying29
attribute [go_sem] Try.underlying30
attribute [go_sem] Try.underlying31
attribute [go_sem] Try.underlying32
attribute [go_sem] Try.underlying33
attribute [go_sem] Try.underlying34
attribute [go_sem] Try.underlying35
attribute [go_sem] Try.underlying36
attribute [go_sem] Try.underlying37
attribute [go_sem] Try.underlying38
attribute [go_sem] Try.underlying39
attribute [go_sem] Try.underlying40
attribute [go_sem] Try.underlying41
attribute [go_sem] Try.underlying42
attribute [go_sem] Try.underlying43
attribute [go_sem] Try.underlying44
attribute [go_sem] Try.underlying45
attribute [go_sem] Try.underlying46
attribute [go_sem] Try.underlying47
attribute [go_sem] Try.underlying48
attribute [go_sem] Try.underlying49
attribute [go_sem] Try.underlying50
attribute [go_sem] Try.underlying51
attribute [go_sem] Try.underlying52
attribute [go_sem] Try.underlying53
attribute [go_sem] Try.underlying54
attribute [go_sem] Try.underlying55
attribute [go_sem] Try.underlying56
attribute [go_sem] Try.underlying57
attribute [go_sem] Try.underlying58
attribute [go_sem] Try.underlying59
attribute [go_sem] Try.underlying60
attribute [go_sem] Try.underlying61
attribute [go_sem] Try.underlying62
attribute [go_sem] Try.underlying63
attribute [go_sem] Try.underlying64
attribute [go_sem] Try.underlying65
attribute [go_sem] Try.underlying66
attribute [go_sem] Try.underlying67
attribute [go_sem] Try.underlying68
attribute [go_sem] Try.underlying69
attribute [go_sem] Try.underlying70
attribute [go_sem] Try.underlying71
attribute [go_sem] Try.underlying72
attribute [go_sem] Try.underlying73
attribute [go_sem] Try.underlying74
attribute [go_sem] Try.underlying75
attribute [go_sem] Try.underlying76
attribute [go_sem] Try.underlying77
attribute [go_sem] Try.underlying78
attribute [go_sem] Try.underlying79
attribute [go_sem] Try.underlying80
attribute [go_sem] Try.underlying81
attribute [go_sem] Try.underlying82
attribute [go_sem] Try.underlying83
attribute [go_sem] Try.underlying84
attribute [go_sem] Try.underlying85
attribute [go_sem] Try.underlying86
attribute [go_sem] Try.underlying87
attribute [go_sem] Try.underlying88
attribute [go_sem] Try.underlying89
attribute [go_sem] Try.underlying90
attribute [go_sem] Try.underlying91
attribute [go_sem] Try.underlying92
attribute [go_sem] Try.underlying93
attribute [go_sem] Try.underlying94
attribute [go_sem] Try.underlying95
attribute [go_sem] Try.underlying96
attribute [go_sem] Try.underlying97
attribute [go_sem] Try.underlying98
attribute [go_sem] Try.underlying99
attribute [go_sem] Try.underlying100
attribute [go_sem] Try.underlying101
attribute [go_sem] Try.underlying102
attribute [go_sem] Try.underlying103
attribute [go_sem] Try.underlying104
attribute [go_sem] Try.underlying105
attribute [go_sem] Try.underlying106
attribute [go_sem] Try.underlying107
attribute [go_sem] Try.underlying108
attribute [go_sem] Try.underlying109
attribute [go_sem] Try.underlying110
attribute [go_sem] Try.underlying111
attribute [go_sem] Try.underlying112
attribute [go_sem] Try.underlying113
attribute [go_sem] Try.underlying114
attribute [go_sem] Try.underlying115
attribute [go_sem] Try.underlying116
attribute [go_sem] Try.underlying117
attribute [go_sem] Try.underlying118
attribute [go_sem] Try.underlying119
attribute [go_sem] Try.underlying120
attribute [go_sem] Try.underlying121
attribute [go_sem] Try.underlying122
attribute [go_sem] Try.underlying123
attribute [go_sem] Try.underlying124
attribute [go_sem] Try.underlying125
attribute [go_sem] Try.underlying126
attribute [go_sem] Try.underlying127
attribute [go_sem] Try.underlying128
attribute [go_sem] Try.underlying129
attribute [go_sem] Try.underlying130
attribute [go_sem] Try.underlying131
attribute [go_sem] Try.underlying132
attribute [go_sem] Try.underlying133
attribute [go_sem] Try.underlying134
attribute [go_sem] Try.underlying135
attribute [go_sem] Try.underlying136
attribute [go_sem] Try.underlying137
attribute [go_sem] Try.underlying138
attribute [go_sem] Try.underlying139
attribute [go_sem] Try.underlying140
attribute [go_sem] Try.underlying141
attribute [go_sem] Try.underlying142
attribute [go_sem] Try.underlying143
attribute [go_sem] Try.underlying144
attribute [go_sem] Try.underlying145
attribute [go_sem] Try.underlying146
attribute [go_sem] Try.underlying147
attribute [go_sem] Try.underlying148
attribute [go_sem] Try.underlying149
attribute [go_sem] Try.underlying150
attribute [go_sem] Try.underlying151
attribute [go_sem] Try.underlying152
attribute [go_sem] Try.underlying153
attribute [go_sem] Try.underlying154
attribute [go_sem] Try.underlying155
attribute [go_sem] Try.underlying156
attribute [go_sem] Try.underlying157
attribute [go_sem] Try.underlying158
attribute [go_sem] Try.underlying159
attribute [go_sem] Try.underlying160
attribute [go_sem] Try.underlying161
attribute [go_sem] Try.underlying162
attribute [go_sem] Try.underlying163
attribute [go_sem] Try.underlying164
attribute [go_sem] Try.underlying165
attribute [go_sem] Try.underlying166
attribute [go_sem] Try.underlying167
attribute [go_sem] Try.underlying168
attribute [go_sem] Try.underlying169
attribute [go_sem] Try.underlying170
attribute [go_sem] Try.underlying171
attribute [go_sem] Try.underlying172
attribute [go_sem] Try.underlying173
attribute [go_sem] Try.underlying174
attribute [go_sem] Try.underlying175
attribute [go_sem] Try.underlying176
attribute [go_sem] Try.underlying177
attribute [go_sem] Try.underlying178
attribute [go_sem] Try.underlying179
attribute [go_sem] Try.underlying180
attribute [go_sem] Try.underlying181
attribute [go_sem] Try.underlying182
attribute [go_sem] Try.underlying183
attribute [go_sem] Try.underlying184
attribute [go_sem] Try.underlying185
attribute [go_sem] Try.underlying186
attribute [go_sem] Try.underlying187
attribute [go_sem] Try.underlying188
attribute [go_sem] Try.underlying189
attribute [go_sem] Try.underlying190
attribute [go_sem] Try.underlying191
attribute [go_sem] Try.underlying192
attribute [go_sem] Try.underlying193
attribute [go_sem] Try.underlying194
attribute [go_sem] Try.underlying195
attribute [go_sem] Try.underlying196
attribute [go_sem] Try.underlying197
attribute [go_sem] Try.underlying198
attribute [go_sem] Try.underlying199
attribute [go_sem] Try.underlying200
attribute [go_sem] Try.underlying201
attribute [go_sem] Try.underlying202
attribute [go_sem] Try.underlying203
attribute [go_sem] Try.underlying204
attribute [go_sem] Try.underlying205
attribute [go_sem] Try.underlying206
attribute [go_sem] Try.underlying207
attribute [go_sem] Try.underlying208
attribute [go_sem] Try.underlying209
attribute [go_sem] Try.underlying210
attribute [go_sem] Try.underlying211
attribute [go_sem] Try.underlying212
attribute [go_sem] Try.underlying213
attribute [go_sem] Try.underlying214
attribute [go_sem] Try.underlying215
attribute [go_sem] Try.underlying216
attribute [go_sem] Try.underlying217
attribute [go_sem] Try.underlying218
attribute [go_sem] Try.underlying219
attribute [go_sem] Try.underlying220
attribute [go_sem] Try.underlying221
attribute [go_sem] Try.underlying222
attribute [go_sem] Try.underlying223
attribute [go_sem] Try.underlying224
attribute [go_sem] Try.underlying225
attribute [go_sem] Try.underlying226
attribute [go_sem] Try.underlying227
attribute [go_sem] Try.underlying228
attribute [go_sem] Try.underlying229
attribute [go_sem] Try.underlying230
attribute [go_sem] Try.underlying231
attribute [go_sem] Try.underlying232
attribute [go_sem] Try.underlying233
attribute [go_sem] Try.underlying234
attribute [go_sem] Try.underlying235
attribute [go_sem] Try.underlying236
attribute [go_sem] Try.underlying237
attribute [go_sem] Try.underlying238
attribute [go_sem] Try.underlying239
attribute [go_sem] Try.underlying240
attribute [go_sem] Try.underlying241
attribute [go_sem] Try.underlying242
attribute [go_sem] Try.underlying243
end Go.Proofs.Ytideijigonjohaa
