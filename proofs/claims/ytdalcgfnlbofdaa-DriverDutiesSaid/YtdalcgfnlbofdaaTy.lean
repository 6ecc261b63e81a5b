import Derived.Test.YtdalcgfnlbofdaaLf
import Derived.Test.YtdalcgfnlbofdaaChecked
import Derived.KernelRfl
set_option linter.unusedVariables false
namespace Go.Proofs.Ytdalcgfnlbofdaa
open Go Go.Lf Go.Proofs
theorem mixed : Try.prog.follows .mixedOrders = true := Try.checked.mixed
@[go_sem] theorem ce1 : Try.prog.cellsOf 1 = 1 := by kernel_rfl
@[go_sem] theorem ce2 : Try.prog.cellsOf 2 = 1 := by kernel_rfl
@[go_sem] theorem ce3 : Try.prog.cellsOf 3 = 1 := by kernel_rfl
theorem zv3 : (Try.prog.info? 3).bind (fun i => i.zero.map fun z => z.cells.toList) = some (Value.cells (.int .i64 0)).toList := by kernel_rfl
theorem eo3 : EO Try.prog 3 1 8 (.int .i64 0) := ⟨by kernel_rfl, rfl, by decide⟩
@[go_sem] theorem ce4 : Try.prog.cellsOf 4 = 1 := by kernel_rfl
theorem zv4 : (Try.prog.info? 4).bind (fun i => i.zero.map fun z => z.cells.toList) = some (Value.cells (.bool false)).toList := by kernel_rfl
theorem eo4 : EO Try.prog 4 1 1 (.bool false) := ⟨by kernel_rfl, rfl, by decide⟩
@[go_sem] theorem ce5 : Try.prog.cellsOf 5 = 1 := by kernel_rfl
theorem zv5 : (Try.prog.info? 5).bind (fun i => i.zero.map fun z => z.cells.toList) = some (Value.cells (.int .u8 0)).toList := by kernel_rfl
theorem eo5 : EO Try.prog 5 1 1 (.int .u8 0) := ⟨by kernel_rfl, rfl, by decide⟩
@[go_sem] theorem ce6 : Try.prog.cellsOf 6 = 1 := by kernel_rfl
@[go_sem] theorem ce7 : Try.prog.cellsOf 7 = 4 := by kernel_rfl
@[go_sem] theorem ce8 : Try.prog.cellsOf 8 = 4 := by kernel_rfl
@[go_sem] theorem ce9 : Try.prog.cellsOf 9 = 1 := by kernel_rfl
@[go_sem] theorem ce10 : Try.prog.cellsOf 10 = 1 := by kernel_rfl
@[go_sem] theorem ce11 : Try.prog.cellsOf 11 = 1 := by kernel_rfl
@[go_sem] theorem ce12 : Try.prog.cellsOf 12 = 1 := by kernel_rfl
@[go_sem] theorem ce13 : Try.prog.cellsOf 13 = 2 := by kernel_rfl
@[go_sem] theorem ce14 : Try.prog.cellsOf 14 = 2 := by kernel_rfl
@[go_sem] theorem ce15 : Try.prog.cellsOf 15 = 1 := by kernel_rfl
@[go_sem] theorem ce16 : Try.prog.cellsOf 16 = 1 := by kernel_rfl
@[go_sem] theorem ce17 : Try.prog.cellsOf 17 = 1 := by kernel_rfl
@[go_sem] theorem ce18 : Try.prog.cellsOf 18 = 1 := by kernel_rfl
@[go_sem] theorem ce19 : Try.prog.cellsOf 19 = 1 := by kernel_rfl
@[go_sem] theorem ce20 : Try.prog.cellsOf 20 = 1 := by kernel_rfl
@[go_sem] theorem ce21 : Try.prog.cellsOf 21 = 1 := by kernel_rfl
@[go_sem] theorem ce22 : Try.prog.cellsOf 22 = 1 := by kernel_rfl
theorem zv22 : (Try.prog.info? 22).bind (fun i => i.zero.map fun z => z.cells.toList) = some (Value.cells (Value.slice none 0 0)).toList := by kernel_rfl
theorem eo22 : EO Try.prog 22 1 24 (Value.slice none 0 0) := ⟨by kernel_rfl, rfl, by decide⟩
@[go_sem] theorem ce23 : Try.prog.cellsOf 23 = 1 := by kernel_rfl
@[go_sem] theorem ce24 : Try.prog.cellsOf 24 = 1 := by kernel_rfl
@[go_sem] theorem ce25 : Try.prog.cellsOf 25 = 1 := by kernel_rfl
@[go_sem] theorem ce26 : Try.prog.cellsOf 26 = 1 := by kernel_rfl
@[go_sem] theorem ce27 : Try.prog.cellsOf 27 = 1 := by kernel_rfl
@[go_sem] theorem ce28 : Try.prog.cellsOf 28 = 1 := by kernel_rfl
theorem zv28 : (Try.prog.info? 28).bind (fun i => i.zero.map fun z => z.cells.toList) = some (Value.cells (Value.slice none 0 0)).toList := by kernel_rfl
theorem eo28 : EO Try.prog 28 1 24 (Value.slice none 0 0) := ⟨by kernel_rfl, rfl, by decide⟩
@[go_sem] theorem ce29 : Try.prog.cellsOf 29 = 6 := by kernel_rfl
@[go_sem] theorem ce30 : Try.prog.cellsOf 30 = 6 := by kernel_rfl
theorem zv30 : (Try.prog.info? 30).bind (fun i => i.zero.map fun z => z.cells.toList) = some (Value.cells (Value.agg #[.int .i64 0, .int .i64 0, .int .i64 0, .int .i64 0, .bool false, Value.slice none 0 0])).toList := by kernel_rfl
theorem eo30 : EO Try.prog 30 6 64 (Value.agg #[.int .i64 0, .int .i64 0, .int .i64 0, .int .i64 0, .bool false, Value.slice none 0 0]) := ⟨by kernel_rfl, rfl, by decide⟩
theorem bd30 : BD Try.prog 30 (Value.cells (Value.agg #[.int .i64 0, .int .i64 0, .int .i64 0, .int .i64 0, .bool false, Value.slice none 0 0])).toList [(0, 1), (1, 1), (2, 1), (3, 1), (4, 1), (5, 1)] := ⟨by kernel_rfl, by kernel_rfl, by kernel_rfl⟩
@[go_sem] theorem sh30 : Try.prog.stoodInHeld 30 = false := by kernel_rfl
theorem eg30 : Try.prog.eqGuardType Try.prog.depth 30 = false := by kernel_rfl
@[go_sem] theorem ce31 : Try.prog.cellsOf 31 = 1 := by kernel_rfl
@[go_sem] theorem ce32 : Try.prog.cellsOf 32 = 1 := by kernel_rfl
@[go_sem] theorem ce33 : Try.prog.cellsOf 33 = 1 := by kernel_rfl
theorem zv33 : (Try.prog.info? 33).bind (fun i => i.zero.map fun z => z.cells.toList) = some (Value.cells (.pointer none)).toList := by kernel_rfl
theorem eo33 : EO Try.prog 33 1 8 (.pointer none) := ⟨by kernel_rfl, rfl, by decide⟩
@[go_sem] theorem ce34 : Try.prog.cellsOf 34 = 1 := by kernel_rfl
theorem zv34 : (Try.prog.info? 34).bind (fun i => i.zero.map fun z => z.cells.toList) = some (Value.cells (Value.slice none 0 0)).toList := by kernel_rfl
theorem eo34 : EO Try.prog 34 1 24 (Value.slice none 0 0) := ⟨by kernel_rfl, rfl, by decide⟩
@[go_sem] theorem ce35 : Try.prog.cellsOf 35 = 3 := by kernel_rfl
@[go_sem] theorem ce36 : Try.prog.cellsOf 36 = 3 := by kernel_rfl
theorem zv36 : (Try.prog.info? 36).bind (fun i => i.zero.map fun z => z.cells.toList) = some (Value.cells (Value.agg #[.int .i64 0, .int .i64 0, Value.slice none 0 0])).toList := by kernel_rfl
theorem eo36 : EO Try.prog 36 3 40 (Value.agg #[.int .i64 0, .int .i64 0, Value.slice none 0 0]) := ⟨by kernel_rfl, rfl, by decide⟩
theorem bd36 : BD Try.prog 36 (Value.cells (Value.agg #[.int .i64 0, .int .i64 0, Value.slice none 0 0])).toList [(0, 1), (1, 1), (2, 1)] := ⟨by kernel_rfl, by kernel_rfl, by kernel_rfl⟩
@[go_sem] theorem sh36 : Try.prog.stoodInHeld 36 = false := by kernel_rfl
theorem eg36 : Try.prog.eqGuardType Try.prog.depth 36 = false := by kernel_rfl
@[go_sem] theorem ce37 : Try.prog.cellsOf 37 = 1 := by kernel_rfl
@[go_sem] theorem ce38 : Try.prog.cellsOf 38 = 1 := by kernel_rfl
@[go_sem] theorem ce39 : Try.prog.cellsOf 39 = 1 := by kernel_rfl
@[go_sem] theorem ce40 : Try.prog.cellsOf 40 = 1 := by kernel_rfl
theorem zv40 : (Try.prog.info? 40).bind (fun i => i.zero.map fun z => z.cells.toList) = some (Value.cells (Value.slice none 0 0)).toList := by kernel_rfl
theorem eo40 : EO Try.prog 40 1 24 (Value.slice none 0 0) := ⟨by kernel_rfl, rfl, by decide⟩
@[go_sem] theorem ce41 : Try.prog.cellsOf 41 = 13 := by kernel_rfl
@[go_sem] theorem ce42 : Try.prog.cellsOf 42 = 13 := by kernel_rfl
theorem zv42 : (Try.prog.info? 42).bind (fun i => i.zero.map fun z => z.cells.toList) = some (Value.cells (Value.agg #[.int .i64 0, .int .i64 0, .int .i64 0, .int .i64 0, Value.slice none 0 0, Value.slice none 0 0, .int .i64 0, .int .i64 0, .bool false, .int .i64 0, .int .i64 0, .int .i64 0, .int .i64 0])).toList := by kernel_rfl
theorem eo42 : EO Try.prog 42 13 136 (Value.agg #[.int .i64 0, .int .i64 0, .int .i64 0, .int .i64 0, Value.slice none 0 0, Value.slice none 0 0, .int .i64 0, .int .i64 0, .bool false, .int .i64 0, .int .i64 0, .int .i64 0, .int .i64 0]) := ⟨by kernel_rfl, rfl, by decide⟩
theorem bd42 : BD Try.prog 42 (Value.cells (Value.agg #[.int .i64 0, .int .i64 0, .int .i64 0, .int .i64 0, Value.slice none 0 0, Value.slice none 0 0, .int .i64 0, .int .i64 0, .bool false, .int .i64 0, .int .i64 0, .int .i64 0, .int .i64 0])).toList [(0, 1), (1, 1), (2, 1), (3, 1), (4, 1), (5, 1), (6, 1), (7, 1), (8, 1), (9, 1), (10, 1), (11, 1), (12, 1)] := ⟨by kernel_rfl, by kernel_rfl, by kernel_rfl⟩
@[go_sem] theorem sh42 : Try.prog.stoodInHeld 42 = false := by kernel_rfl
theorem eg42 : Try.prog.eqGuardType Try.prog.depth 42 = false := by kernel_rfl
@[go_sem] theorem ce43 : Try.prog.cellsOf 43 = 2 := by kernel_rfl
@[go_sem] theorem ce44 : Try.prog.cellsOf 44 = 2 := by kernel_rfl
theorem zv44 : (Try.prog.info? 44).bind (fun i => i.zero.map fun z => z.cells.toList) = some (Value.cells (Value.agg #[.int .i64 0, .int .i64 0])).toList := by kernel_rfl
theorem eo44 : EO Try.prog 44 2 16 (Value.agg #[.int .i64 0, .int .i64 0]) := ⟨by kernel_rfl, rfl, by decide⟩
theorem bd44 : BD Try.prog 44 (Value.cells (Value.agg #[.int .i64 0, .int .i64 0])).toList [(0, 1), (1, 1)] := ⟨by kernel_rfl, by kernel_rfl, by kernel_rfl⟩
@[go_sem] theorem sh44 : Try.prog.stoodInHeld 44 = false := by kernel_rfl
theorem eg44 : Try.prog.eqGuardType Try.prog.depth 44 = false := by kernel_rfl
@[go_sem] theorem ce46 : Try.prog.cellsOf 46 = 1 := by kernel_rfl
@[go_sem] theorem ce47 : Try.prog.cellsOf 47 = 1 := by kernel_rfl
@[go_sem] theorem ce48 : Try.prog.cellsOf 48 = 1 := by kernel_rfl
@[go_sem] theorem ce49 : Try.prog.cellsOf 49 = 1 := by kernel_rfl
@[go_sem] theorem ce50 : Try.prog.cellsOf 50 = 1 := by kernel_rfl
theorem zv50 : (Try.prog.info? 50).bind (fun i => i.zero.map fun z => z.cells.toList) = some (Value.cells (.int .i64 0)).toList := by kernel_rfl
theorem eo50 : EO Try.prog 50 1 8 (.int .i64 0) := ⟨by kernel_rfl, rfl, by decide⟩
@[go_sem] theorem ce52 : Try.prog.cellsOf 52 = 1 := by kernel_rfl
@[go_sem] theorem ce53 : Try.prog.cellsOf 53 = 1 := by kernel_rfl
@[go_sem] theorem ce54 : Try.prog.cellsOf 54 = 1 := by kernel_rfl
@[go_sem] theorem ce55 : Try.prog.cellsOf 55 = 1 := by kernel_rfl
@[go_sem] theorem ce56 : Try.prog.cellsOf 56 = 1 := by kernel_rfl
@[go_sem] theorem ce57 : Try.prog.cellsOf 57 = 1 := by kernel_rfl
@[go_sem] theorem ce59 : Try.prog.cellsOf 59 = 1 := by kernel_rfl
@[go_sem] theorem ce60 : Try.prog.cellsOf 60 = 1 := by kernel_rfl
@[go_sem] theorem ce62 : Try.prog.cellsOf 62 = 1 := by kernel_rfl
@[go_sem] theorem ce63 : Try.prog.cellsOf 63 = 1 := by kernel_rfl
@[go_sem] theorem ce64 : Try.prog.cellsOf 64 = 1 := by kernel_rfl
@[go_sem] theorem ce65 : Try.prog.cellsOf 65 = 5 := by kernel_rfl
@[go_sem] theorem ce66 : Try.prog.cellsOf 66 = 5 := by kernel_rfl
theorem zv66 : (Try.prog.info? 66).bind (fun i => i.zero.map fun z => z.cells.toList) = some (Value.cells (Value.agg #[.int .i64 0, .int .i64 0, .int .i64 0, .int .i64 0, .bool false])).toList := by kernel_rfl
theorem bd66 : BD Try.prog 66 (Value.cells (Value.agg #[.int .i64 0, .int .i64 0, .int .i64 0, .int .i64 0, .bool false])).toList [(0, 1), (1, 1), (2, 1), (3, 1), (4, 1)] := ⟨by kernel_rfl, by kernel_rfl, by kernel_rfl⟩
@[go_sem] theorem sh66 : Try.prog.stoodInHeld 66 = false := by kernel_rfl
@[go_sem] theorem ce67 : Try.prog.cellsOf 67 = 1 := by kernel_rfl
@[go_sem] theorem ce68 : Try.prog.cellsOf 68 = 1 := by kernel_rfl
@[go_sem] theorem ce69 : Try.prog.cellsOf 69 = 1 := by kernel_rfl
@[go_sem] theorem ce70 : Try.prog.cellsOf 70 = 1 := by kernel_rfl
@[go_sem] theorem ce72 : Try.prog.cellsOf 72 = 1 := by kernel_rfl
@[go_sem] theorem ce73 : Try.prog.cellsOf 73 = 1 := by kernel_rfl
@[go_sem] theorem ce74 : Try.prog.cellsOf 74 = 2 := by kernel_rfl
@[go_sem] theorem ce75 : Try.prog.cellsOf 75 = 2 := by kernel_rfl
theorem zv75 : (Try.prog.info? 75).bind (fun i => i.zero.map fun z => z.cells.toList) = some (Value.cells (Value.agg #[.int .i64 0, .int .i64 0])).toList := by kernel_rfl
theorem eo75 : EO Try.prog 75 2 16 (Value.agg #[.int .i64 0, .int .i64 0]) := ⟨by kernel_rfl, rfl, by decide⟩
theorem bd75 : BD Try.prog 75 (Value.cells (Value.agg #[.int .i64 0, .int .i64 0])).toList [(0, 1), (1, 1)] := ⟨by kernel_rfl, by kernel_rfl, by kernel_rfl⟩
@[go_sem] theorem sh75 : Try.prog.stoodInHeld 75 = false := by kernel_rfl
theorem eg75 : Try.prog.eqGuardType Try.prog.depth 75 = false := by kernel_rfl
@[go_sem] theorem ce76 : Try.prog.cellsOf 76 = 1 := by kernel_rfl
theorem zv76 : (Try.prog.info? 76).bind (fun i => i.zero.map fun z => z.cells.toList) = some (Value.cells (.pointer none)).toList := by kernel_rfl
@[go_sem] theorem ce77 : Try.prog.cellsOf 77 = 1 := by kernel_rfl
theorem zv77 : (Try.prog.info? 77).bind (fun i => i.zero.map fun z => z.cells.toList) = some (Value.cells (.pointer none)).toList := by kernel_rfl
theorem eo77 : EO Try.prog 77 1 8 (.pointer none) := ⟨by kernel_rfl, rfl, by decide⟩
@[go_sem] theorem ce78 : Try.prog.cellsOf 78 = 1 := by kernel_rfl
@[go_sem] theorem ce79 : Try.prog.cellsOf 79 = 2 := by kernel_rfl
@[go_sem] theorem ce80 : Try.prog.cellsOf 80 = 2 := by kernel_rfl
theorem zv80 : (Try.prog.info? 80).bind (fun i => i.zero.map fun z => z.cells.toList) = some (Value.cells (Value.agg #[.pointer none, .bool false])).toList := by kernel_rfl
theorem bd80 : BD Try.prog 80 (Value.cells (Value.agg #[.pointer none, .bool false])).toList [(0, 1), (1, 1)] := ⟨by kernel_rfl, by kernel_rfl, by kernel_rfl⟩
@[go_sem] theorem sh80 : Try.prog.stoodInHeld 80 = false := by kernel_rfl
@[go_sem] theorem ce81 : Try.prog.cellsOf 81 = 1 := by kernel_rfl
@[go_sem] theorem ce82 : Try.prog.cellsOf 82 = 1 := by kernel_rfl
theorem zv82 : (Try.prog.info? 82).bind (fun i => i.zero.map fun z => z.cells.toList) = some (Value.cells (.pointer none)).toList := by kernel_rfl
@[go_sem] theorem ce83 : Try.prog.cellsOf 83 = 1 := by kernel_rfl
@[go_sem] theorem ce85 : Try.prog.cellsOf 85 = 1 := by kernel_rfl
@[go_sem] theorem ce87 : Try.prog.cellsOf 87 = 1 := by kernel_rfl
@[go_sem] theorem ce88 : Try.prog.cellsOf 88 = 1 := by kernel_rfl
@[go_sem] theorem ce89 : Try.prog.cellsOf 89 = 2 := by kernel_rfl
@[go_sem] theorem ce90 : Try.prog.cellsOf 90 = 2 := by kernel_rfl
theorem zv90 : (Try.prog.info? 90).bind (fun i => i.zero.map fun z => z.cells.toList) = some (Value.cells (Value.agg #[Value.slice none 0 0, .int .i64 0])).toList := by kernel_rfl
theorem eo90 : EO Try.prog 90 2 32 (Value.agg #[Value.slice none 0 0, .int .i64 0]) := ⟨by kernel_rfl, rfl, by decide⟩
theorem bd90 : BD Try.prog 90 (Value.cells (Value.agg #[Value.slice none 0 0, .int .i64 0])).toList [(0, 1), (1, 1)] := ⟨by kernel_rfl, by kernel_rfl, by kernel_rfl⟩
@[go_sem] theorem sh90 : Try.prog.stoodInHeld 90 = false := by kernel_rfl
@[go_sem] theorem ce91 : Try.prog.cellsOf 91 = 1 := by kernel_rfl
@[go_sem] theorem ce92 : Try.prog.cellsOf 92 = 1 := by kernel_rfl
@[go_sem] theorem ce93 : Try.prog.cellsOf 93 = 1 := by kernel_rfl
@[go_sem] theorem ce94 : Try.prog.cellsOf 94 = 1 := by kernel_rfl
@[go_sem] theorem ce95 : Try.prog.cellsOf 95 = 1 := by kernel_rfl
@[go_sem] theorem ce96 : Try.prog.cellsOf 96 = 4 := by kernel_rfl
@[go_sem] theorem ce97 : Try.prog.cellsOf 97 = 4 := by kernel_rfl
@[go_sem] theorem ce98 : Try.prog.cellsOf 98 = 0 := by kernel_rfl
@[go_sem] theorem ce99 : Try.prog.cellsOf 99 = 0 := by kernel_rfl
@[go_sem] theorem ce100 : Try.prog.cellsOf 100 = 0 := by kernel_rfl
@[go_sem] theorem ce101 : Try.prog.cellsOf 101 = 1 := by kernel_rfl
@[go_sem] theorem ce102 : Try.prog.cellsOf 102 = 1 := by kernel_rfl
@[go_sem] theorem ce103 : Try.prog.cellsOf 103 = 1 := by kernel_rfl
@[go_sem] theorem ce104 : Try.prog.cellsOf 104 = 1 := by kernel_rfl
@[go_sem] theorem ce105 : Try.prog.cellsOf 105 = 1 := by kernel_rfl
@[go_sem] theorem ce106 : Try.prog.cellsOf 106 = 1 := by kernel_rfl
@[go_sem] theorem ce107 : Try.prog.cellsOf 107 = 1 := by kernel_rfl
@[go_sem] theorem ce108 : Try.prog.cellsOf 108 = 11 := by kernel_rfl
@[go_sem] theorem ce109 : Try.prog.cellsOf 109 = 11 := by kernel_rfl
@[go_sem] theorem ce110 : Try.prog.cellsOf 110 = 1 := by kernel_rfl
attribute [go_sem] Try.underlying0
attribute [go_sem] Try.underlying1
attribute [go_sem] Try.underlying2
attribute [go_sem] Try.underlying3
attribute [go_sem] Try.underlying4
attribute [go_sem] Try.underlying5
attribute [go_sem] Try.underlying6
attribute [go_sem] Try.underlying7
attribute [go_sem] Try.underlying8
attribute [go_sem] Try.underlying9
attribute [go_sem] Try.underlying10
attribute [go_sem] Try.underlying11
attribute [go_sem] Try.underlying12
attribute [go_sem] Try.underlying13
attribute [go_sem] Try.underlying14
attribute [go_sem] Try.underlying15
attribute [go_sem] Try.underlying16
attribute [go_sem] Try.underlying17
attribute [go_sem] Try.underlying18
attribute [go_sem] Try.underlying19
attribute [go_sem] Try.underlying20
attribute [go_sem] Try.underlying21
attribute [go_sem] Try.underlying22
attribute [go_sem] Try.underlying23
attribute [go_sem] Try.underlying24
attribute [go_sem] Try.underlying25
attribute [go_sem] Try.underlying26
attribute [go_sem] Try.underlying27
attribute [go_sem] Try.underlying28
attribute [go_sem] Try.underlying29
attribute [go_sem] Try.underlying30
attribute [go_sem] Try.underlying31
attribute [go_sem] Try.underlying32
attribute [go_sem] Try.underlying33
attribute [go_sem] Try.underlying34
attribute [go_sem] Try.underlying35
attribute [go_sem] Try.underlying36
attribute [go_sem] Try.underlying37
attribute [go_sem] Try.underlying38
attribute [go_sem] Try.underlying39
attribute [go_sem] Try.underlying40
attribute [go_sem] Try.underlying41
attribute [go_sem] Try.underlying42
attribute [go_sem] Try.underlying43
attribute [go_sem] Try.underlying44
attribute [go_sem] Try.underlying45
attribute [go_sem] Try.underlying46
attribute [go_sem] Try.underlying47
attribute [go_sem] Try.underlying48
attribute [go_sem] Try.underlying49
attribute [go_sem] Try.underlying50
attribute [go_sem] Try.underlying51
attribute [go_sem] Try.underlying52
attribute [go_sem] Try.underlying53
attribute [go_sem] Try.underlying54
attribute [go_sem] Try.underlying55
attribute [go_sem] Try.underlying56
attribute [go_sem] Try.underlying57
attribute [go_sem] Try.underlying58
attribute [go_sem] Try.underlying59
attribute [go_sem] Try.underlying60
attribute [go_sem] Try.underlying61
attribute [go_sem] Try.underlying62
attribute [go_sem] Try.underlying63
attribute [go_sem] Try.underlying64
attribute [go_sem] Try.underlying65
attribute [go_sem] Try.underlying66
attribute [go_sem] Try.underlying67
attribute [go_sem] Try.underlying68
attribute [go_sem] Try.underlying69
attribute [go_sem] Try.underlying70
attribute [go_sem] Try.underlying71
attribute [go_sem] Try.underlying72
attribute [go_sem] Try.underlying73
attribute [go_sem] Try.underlying74
attribute [go_sem] Try.underlying75
attribute [go_sem] Try.underlying76
attribute [go_sem] Try.underlying77
attribute [go_sem] Try.underlying78
attribute [go_sem] Try.underlying79
attribute [go_sem] Try.underlying80
attribute [go_sem] Try.underlying81
attribute [go_sem] Try.underlying82
attribute [go_sem] Try.underlying83
attribute [go_sem] Try.underlying84
attribute [go_sem] Try.underlying85
attribute [go_sem] Try.underlying86
attribute [go_sem] Try.underlying87
attribute [go_sem] Try.underlying88
attribute [go_sem] Try.underlying89
attribute [go_sem] Try.underlying90
attribute [go_sem] Try.underlying91
attribute [go_sem] Try.underlying92
attribute [go_sem] Try.underlying93
attribute [go_sem] Try.underlying94
attribute [go_sem] Try.underlying95
attribute [go_sem] Try.underlying96
attribute [go_sem] Try.underlying97
attribute [go_sem] Try.underlying98
attribute [go_sem] Try.underlying99
attribute [go_sem] Try.underlying100
attribute [go_sem] Try.underlying101
attribute [go_sem] Try.underlying102
attribute [go_sem] Try.underlying103
attribute [go_sem] Try.underlying104
attribute [go_sem] Try.underlying105
attribute [go_sem] Try.underlying106
attribute [go_sem] Try.underlying107
attribute [go_sem] Try.underlying108
attribute [go_sem] Try.underlying109
attribute [go_sem] Try.underlying110
end Go.Proofs.Ytdalcgfnlbofdaa
