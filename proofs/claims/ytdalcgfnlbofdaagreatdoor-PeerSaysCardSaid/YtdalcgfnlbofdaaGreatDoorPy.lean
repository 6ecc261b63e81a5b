import Derived.Test.YtdalcgfnlbofdaaGreatDoorPf
import Derived.Test.YtdalcgfnlbofdaaGreatDoorChecked
import Derived.KernelRfl
set_option linter.unusedVariables false
set_option linter.unusedSimpArgs false
namespace Go.Proofs.YtdalcgfnlbofdaaGreatDoor
open Go Go.Lf Go.Proofs
theorem mixed : Tryz.prog.follows .mixedOrders = true:=Tryz.checked.mixed
@[go_sem] theorem ce1 : Tryz.prog.cellsOf 1 = 1:=by kernel_rfl
@[go_sem] theorem ce2 : Tryz.prog.cellsOf 2 = 1:=by kernel_rfl
@[go_sem] theorem ce3 : Tryz.prog.cellsOf 3 = 1:=by kernel_rfl
theorem zv3 : (Tryz.prog.info? 3).bind (fun i=>i.zero.map fun z=>z.cells.toList) = some (Value.cells (.int .i64 0)).toList:=by kernel_rfl
theorem eo3 : EO Tryz.prog 3 1 8 (.int .i64 0):=⟨by kernel_rfl,rfl,by decide⟩
@[go_sem] theorem ce4 : Tryz.prog.cellsOf 4 = 1:=by kernel_rfl
theorem zv4 : (Tryz.prog.info? 4).bind (fun i=>i.zero.map fun z=>z.cells.toList) = some (Value.cells (.bool false)).toList:=by kernel_rfl
theorem eo4 : EO Tryz.prog 4 1 1 (.bool false):=⟨by kernel_rfl,rfl,by decide⟩
@[go_sem] theorem ce5 : Tryz.prog.cellsOf 5 = 1:=by kernel_rfl
theorem zv5 : (Tryz.prog.info? 5).bind (fun i=>i.zero.map fun z=>z.cells.toList) = some (Value.cells (.int .u8 0)).toList:=by kernel_rfl
theorem eo5 : EO Tryz.prog 5 1 1 (.int .u8 0):=⟨by kernel_rfl,rfl,by decide⟩
@[go_sem] theorem ce6 : Tryz.prog.cellsOf 6 = 1:=by kernel_rfl
@[go_sem] theorem ce7 : Tryz.prog.cellsOf 7 = 4:=by kernel_rfl
@[go_sem] theorem ce8 : Tryz.prog.cellsOf 8 = 4:=by kernel_rfl
@[go_sem] theorem ce9 : Tryz.prog.cellsOf 9 = 1:=by kernel_rfl
theorem zv9 : (Tryz.prog.info? 9).bind (fun i=>i.zero.map fun z=>z.cells.toList) = some (Value.cells (.string ⟨#[]⟩)).toList:=by kernel_rfl
theorem eo9 : EO Tryz.prog 9 1 16 (.string ⟨#[]⟩):=⟨by kernel_rfl,rfl,by decide⟩
@[go_sem] theorem zzJ : Tryz.prog.cellsOf 10 = 1:=by kernel_rfl
@[go_sem] theorem zzK : Tryz.prog.cellsOf 11 = 1:=by kernel_rfl
@[go_sem] theorem zzL : Tryz.prog.cellsOf 12 = 1:=by kernel_rfl
@[go_sem] theorem zzM : Tryz.prog.cellsOf 13 = 2:=by kernel_rfl
@[go_sem] theorem zzN : Tryz.prog.cellsOf 14 = 2:=by kernel_rfl
@[go_sem] theorem zzO : Tryz.prog.cellsOf 15 = 1:=by kernel_rfl
@[go_sem] theorem zzP : Tryz.prog.cellsOf 16 = 1:=by kernel_rfl
@[go_sem] theorem zzQ : Tryz.prog.cellsOf 17 = 1:=by kernel_rfl
@[go_sem] theorem zzR : Tryz.prog.cellsOf 18 = 1:=by kernel_rfl
@[go_sem] theorem zzS : Tryz.prog.cellsOf 19 = 1:=by kernel_rfl
@[go_sem] theorem zzT : Tryz.prog.cellsOf 20 = 1:=by kernel_rfl
theorem zu1 : EO Tryz.prog 20 1 16 (Value.nilIface):=⟨by kernel_rfl,rfl,by decide⟩
@[go_sem] theorem zzU : Tryz.prog.cellsOf 21 = 1:=by kernel_rfl
@[go_sem] theorem zzV : Tryz.prog.cellsOf 22 = 1:=by kernel_rfl
theorem zmx : (Tryz.prog.info? 22).bind (fun i=>i.zero.map fun z=>z.cells.toList) = some (Value.cells (Value.slice none 0 0)).toList:=by kernel_rfl
theorem zsm : EO Tryz.prog 22 1 24 (Value.slice none 0 0):=⟨by kernel_rfl,rfl,by decide⟩
@[go_sem] theorem zzW : Tryz.prog.cellsOf 23 = 1:=by kernel_rfl
theorem zjt : (Tryz.prog.info? 23).bind (fun i=>i.zero.map fun z=>z.cells.toList) = some (Value.cells (Value.slice none 0 0)).toList:=by kernel_rfl
theorem zcK : EO Tryz.prog 23 1 24 (Value.slice none 0 0):=⟨by kernel_rfl,rfl,by decide⟩
@[go_sem] theorem zzX : Tryz.prog.cellsOf 24 = 6:=by kernel_rfl
@[go_sem] theorem zzY : Tryz.prog.cellsOf 25 = 6:=by kernel_rfl
@[go_sem] theorem zzZ : Tryz.prog.stoodInHeld 25 = false:=by kernel_rfl
@[go_sem] theorem zz0 : Tryz.prog.cellsOf 26 = 1:=by kernel_rfl
@[go_sem] theorem zz1 : Tryz.prog.cellsOf 27 = 1:=by kernel_rfl
@[go_sem] theorem zz2 : Tryz.prog.cellsOf 28 = 2:=by kernel_rfl
@[go_sem] theorem zz3 : Tryz.prog.cellsOf 29 = 2:=by kernel_rfl
@[go_sem] theorem zz4 : Tryz.prog.stoodInHeld 29 = false:=by kernel_rfl
@[go_sem] theorem zz5 : Tryz.prog.cellsOf 30 = 4:=by kernel_rfl
@[go_sem] theorem zz6 : Tryz.prog.cellsOf 31 = 4:=by kernel_rfl
@[go_sem] theorem zz7 : Tryz.prog.stoodInHeld 31 = false:=by kernel_rfl
@[go_sem] theorem zz8 : Tryz.prog.cellsOf 32 = 1:=by kernel_rfl
@[go_sem] theorem zz9 : Tryz.prog.cellsOf 33 = 6:=by kernel_rfl
theorem zus : (Tryz.prog.info? 33).bind (fun i=>i.zero.map fun z=>z.cells.toList) = some (Value.cells (Value.agg #[.int .i64 0,.int .i64 0,.int .i64 0,.bool false,Value.slice none 0 0,Value.slice none 0 0])).toList:=by kernel_rfl
theorem zu2 : EO Tryz.prog 33 6 80 (Value.agg #[.int .i64 0,.int .i64 0,.int .i64 0,.bool false,Value.slice none 0 0,Value.slice none 0 0]):=⟨by kernel_rfl,rfl,by decide⟩
theorem zut : BD Tryz.prog 33 (Value.cells (Value.agg #[.int .i64 0,.int .i64 0,.int .i64 0,.bool false,Value.slice none 0 0,Value.slice none 0 0])).toList [(0,1),(1,1),(2,1),(3,1),(4,1),(5,1)]:=⟨by kernel_rfl,by kernel_rfl,by kernel_rfl⟩
@[go_sem] theorem zAa : Tryz.prog.stoodInHeld 33 = false:=by kernel_rfl
@[go_sem] theorem zAb : Tryz.prog.cellsOf 34 = 1:=by kernel_rfl
@[go_sem] theorem zAc : Tryz.prog.cellsOf 35 = 1:=by kernel_rfl
theorem zuu : (Tryz.prog.info? 35).bind (fun i=>i.zero.map fun z=>z.cells.toList) = some (Value.cells (Value.slice none 0 0)).toList:=by kernel_rfl
theorem zu3 : EO Tryz.prog 35 1 24 (Value.slice none 0 0):=⟨by kernel_rfl,rfl,by decide⟩
@[go_sem] theorem zAd : Tryz.prog.cellsOf 36 = 1:=by kernel_rfl
@[go_sem] theorem zAe : Tryz.prog.cellsOf 37 = 1:=by kernel_rfl
@[go_sem] theorem zAf : Tryz.prog.cellsOf 38 = 1:=by kernel_rfl
@[go_sem] theorem zAg : Tryz.prog.cellsOf 39 = 1:=by kernel_rfl
@[go_sem] theorem zAh : Tryz.prog.cellsOf 40 = 1:=by kernel_rfl
@[go_sem] theorem zAi : Tryz.prog.cellsOf 41 = 1:=by kernel_rfl
@[go_sem] theorem zAj : Tryz.prog.cellsOf 42 = 1:=by kernel_rfl
@[go_sem] theorem zu4 : Tryz.prog.cellsOf 43 = 1:=by kernel_rfl
theorem zg4 : (Tryz.prog.info? 43).bind (fun i=>i.zero.map fun z=>z.cells.toList) = some (Value.cells (Value.slice none 0 0)).toList:=by kernel_rfl
theorem jz : EO Tryz.prog 43 1 24 (Value.slice none 0 0):=⟨by kernel_rfl,rfl,by decide⟩
@[go_sem] theorem zAk : Tryz.prog.cellsOf 44 = 6:=by kernel_rfl
@[go_sem] theorem zu5 : Tryz.prog.cellsOf 45 = 6:=by kernel_rfl
theorem zju : (Tryz.prog.info? 45).bind (fun i=>i.zero.map fun z=>z.cells.toList) = some (Value.cells (Value.agg #[.int .i64 0,.int .i64 0,.int .i64 0,.int .i64 0,.bool false,Value.slice none 0 0])).toList:=by kernel_rfl
theorem zu6 : EO Tryz.prog 45 6 64 (Value.agg #[.int .i64 0,.int .i64 0,.int .i64 0,.int .i64 0,.bool false,Value.slice none 0 0]):=⟨by kernel_rfl,rfl,by decide⟩
theorem zcL : BD Tryz.prog 45 (Value.cells (Value.agg #[.int .i64 0,.int .i64 0,.int .i64 0,.int .i64 0,.bool false,Value.slice none 0 0])).toList [(0,1),(1,1),(2,1),(3,1),(4,1),(5,1)]:=⟨by kernel_rfl,by kernel_rfl,by kernel_rfl⟩
@[go_sem] theorem zAl : Tryz.prog.stoodInHeld 45 = false:=by kernel_rfl
theorem jQ : Tryz.prog.eqGuardType Tryz.prog.depth 45 = false:=by kernel_rfl
@[go_sem] theorem zAm : Tryz.prog.cellsOf 46 = 13:=by kernel_rfl
@[go_sem] theorem zAn : Tryz.prog.cellsOf 47 = 13:=by kernel_rfl
theorem zjv : (Tryz.prog.info? 47).bind (fun i=>i.zero.map fun z=>z.cells.toList) = some (Value.cells (Value.agg #[.int .i64 0,.int .i64 0,.int .i64 0,.int .i64 0,Value.slice none 0 0,Value.slice none 0 0,.int .i64 0,.int .i64 0,.bool false,.int .i64 0,.int .i64 0,.int .i64 0,.int .i64 0])).toList:=by kernel_rfl
theorem zcM : EO Tryz.prog 47 13 136 (Value.agg #[.int .i64 0,.int .i64 0,.int .i64 0,.int .i64 0,Value.slice none 0 0,Value.slice none 0 0,.int .i64 0,.int .i64 0,.bool false,.int .i64 0,.int .i64 0,.int .i64 0,.int .i64 0]):=⟨by kernel_rfl,rfl,by decide⟩
theorem zdb : BD Tryz.prog 47 (Value.cells (Value.agg #[.int .i64 0,.int .i64 0,.int .i64 0,.int .i64 0,Value.slice none 0 0,Value.slice none 0 0,.int .i64 0,.int .i64 0,.bool false,.int .i64 0,.int .i64 0,.int .i64 0,.int .i64 0])).toList [(0,1),(1,1),(2,1),(3,1),(4,1),(5,1),(6,1),(7,1),(8,1),(9,1),(10,1),(11,1),(12,1)]:=⟨by kernel_rfl,by kernel_rfl,by kernel_rfl⟩
@[go_sem] theorem zAo : Tryz.prog.stoodInHeld 47 = false:=by kernel_rfl
theorem jn : Tryz.prog.eqGuardType Tryz.prog.depth 47 = false:=by kernel_rfl
@[go_sem] theorem zAp : Tryz.prog.cellsOf 48 = 2:=by kernel_rfl
@[go_sem] theorem zAq : Tryz.prog.cellsOf 49 = 2:=by kernel_rfl
theorem zjw : (Tryz.prog.info? 49).bind (fun i=>i.zero.map fun z=>z.cells.toList) = some (Value.cells (Value.agg #[.int .i64 0,.int .i64 0])).toList:=by kernel_rfl
theorem zu7 : EO Tryz.prog 49 2 16 (Value.agg #[.int .i64 0,.int .i64 0]):=⟨by kernel_rfl,rfl,by decide⟩
theorem zdB : BD Tryz.prog 49 (Value.cells (Value.agg #[.int .i64 0,.int .i64 0])).toList [(0,1),(1,1)]:=⟨by kernel_rfl,by kernel_rfl,by kernel_rfl⟩
@[go_sem] theorem zAr : Tryz.prog.stoodInHeld 49 = false:=by kernel_rfl
theorem jR : Tryz.prog.eqGuardType Tryz.prog.depth 49 = false:=by kernel_rfl
@[go_sem] theorem zAs : Tryz.prog.cellsOf 50 = 1:=by kernel_rfl
theorem ziQ : (Tryz.prog.info? 50).bind (fun i=>i.zero.map fun z=>z.cells.toList) = some (Value.cells (.int .i64 0)).toList:=by kernel_rfl
theorem jA : EO Tryz.prog 50 1 8 (.int .i64 0):=⟨by kernel_rfl,rfl,by decide⟩
@[go_sem] theorem zAt : Tryz.prog.cellsOf 52 = 1:=by kernel_rfl
@[go_sem] theorem zAu : Tryz.prog.cellsOf 53 = 1:=by kernel_rfl
@[go_sem] theorem zAv : Tryz.prog.cellsOf 54 = 1:=by kernel_rfl
@[go_sem] theorem zAw : Tryz.prog.cellsOf 56 = 1:=by kernel_rfl
@[go_sem] theorem zAx : Tryz.prog.cellsOf 57 = 1:=by kernel_rfl
@[go_sem] theorem zAy : Tryz.prog.cellsOf 59 = 1:=by kernel_rfl
@[go_sem] theorem zAz : Tryz.prog.cellsOf 60 = 1:=by kernel_rfl
@[go_sem] theorem zAA : Tryz.prog.cellsOf 61 = 1:=by kernel_rfl
@[go_sem] theorem zAB : Tryz.prog.cellsOf 62 = 1:=by kernel_rfl
@[go_sem] theorem zAC : Tryz.prog.cellsOf 63 = 1:=by kernel_rfl
@[go_sem] theorem zAD : Tryz.prog.cellsOf 65 = 1:=by kernel_rfl
@[go_sem] theorem zAE : Tryz.prog.cellsOf 66 = 1:=by kernel_rfl
@[go_sem] theorem zAF : Tryz.prog.cellsOf 67 = 1:=by kernel_rfl
@[go_sem] theorem zAG : Tryz.prog.cellsOf 68 = 1:=by kernel_rfl
@[go_sem] theorem zAH : Tryz.prog.cellsOf 69 = 16:=by kernel_rfl
@[go_sem] theorem zAI : Tryz.prog.cellsOf 70 = 16:=by kernel_rfl
@[go_sem] theorem zAJ : Tryz.prog.stoodInHeld 70 = false:=by kernel_rfl
@[go_sem] theorem zAK : Tryz.prog.cellsOf 71 = 1:=by kernel_rfl
@[go_sem] theorem zAL : Tryz.prog.cellsOf 72 = 1:=by kernel_rfl
@[go_sem] theorem zAM : Tryz.prog.cellsOf 73 = 16:=by kernel_rfl
@[go_sem] theorem zAN : Tryz.prog.stoodInHeld 73 = false:=by kernel_rfl
@[go_sem] theorem zAO : Tryz.prog.cellsOf 74 = 1:=by kernel_rfl
@[go_sem] theorem zAP : Tryz.prog.cellsOf 75 = 1:=by kernel_rfl
@[go_sem] theorem zAQ : Tryz.prog.cellsOf 76 = 1:=by kernel_rfl
@[go_sem] theorem zAR : Tryz.prog.cellsOf 77 = 1:=by kernel_rfl
@[go_sem] theorem zAS : Tryz.prog.cellsOf 78 = 1:=by kernel_rfl
@[go_sem] theorem zAT : Tryz.prog.cellsOf 79 = 1:=by kernel_rfl
@[go_sem] theorem zAU : Tryz.prog.cellsOf 80 = 1:=by kernel_rfl
@[go_sem] theorem zAV : Tryz.prog.cellsOf 82 = 1:=by kernel_rfl
@[go_sem] theorem zAW : Tryz.prog.cellsOf 83 = 1:=by kernel_rfl
@[go_sem] theorem zAX : Tryz.prog.cellsOf 85 = 1:=by kernel_rfl
@[go_sem] theorem zAY : Tryz.prog.cellsOf 86 = 1:=by kernel_rfl
@[go_sem] theorem zAZ : Tryz.prog.cellsOf 87 = 1:=by kernel_rfl
@[go_sem] theorem zA0 : Tryz.prog.cellsOf 88 = 1:=by kernel_rfl
@[go_sem] theorem zA1 : Tryz.prog.cellsOf 89 = 1:=by kernel_rfl
@[go_sem] theorem zA2 : Tryz.prog.cellsOf 90 = 1:=by kernel_rfl
@[go_sem] theorem zA3 : Tryz.prog.cellsOf 91 = 2:=by kernel_rfl
@[go_sem] theorem zA4 : Tryz.prog.cellsOf 92 = 2:=by kernel_rfl
theorem zjx : (Tryz.prog.info? 92).bind (fun i=>i.zero.map fun z=>z.cells.toList) = some (Value.cells (Value.agg #[.int .i64 0,.int .i64 0])).toList:=by kernel_rfl
theorem zcN : EO Tryz.prog 92 2 16 (Value.agg #[.int .i64 0,.int .i64 0]):=⟨by kernel_rfl,rfl,by decide⟩
theorem zdc : BD Tryz.prog 92 (Value.cells (Value.agg #[.int .i64 0,.int .i64 0])).toList [(0,1),(1,1)]:=⟨by kernel_rfl,by kernel_rfl,by kernel_rfl⟩
@[go_sem] theorem zA5 : Tryz.prog.stoodInHeld 92 = false:=by kernel_rfl
theorem kR : Tryz.prog.eqGuardType Tryz.prog.depth 92 = false:=by kernel_rfl
@[go_sem] theorem zA6 : Tryz.prog.cellsOf 93 = 1:=by kernel_rfl
@[go_sem] theorem zA7 : Tryz.prog.cellsOf 94 = 1:=by kernel_rfl
@[go_sem] theorem zA8 : Tryz.prog.cellsOf 95 = 5:=by kernel_rfl
@[go_sem] theorem zA9 : Tryz.prog.cellsOf 96 = 5:=by kernel_rfl
theorem zuv : (Tryz.prog.info? 96).bind (fun i=>i.zero.map fun z=>z.cells.toList) = some (Value.cells (Value.agg #[.int .i64 0,.int .i64 0,.int .i64 0,.int .i64 0,.bool false])).toList:=by kernel_rfl
theorem zuw : BD Tryz.prog 96 (Value.cells (Value.agg #[.int .i64 0,.int .i64 0,.int .i64 0,.int .i64 0,.bool false])).toList [(0,1),(1,1),(2,1),(3,1),(4,1)]:=⟨by kernel_rfl,by kernel_rfl,by kernel_rfl⟩
@[go_sem] theorem zBa : Tryz.prog.stoodInHeld 96 = false:=by kernel_rfl
@[go_sem] theorem zBb : Tryz.prog.cellsOf 97 = 1:=by kernel_rfl
@[go_sem] theorem zBc : Tryz.prog.cellsOf 98 = 1:=by kernel_rfl
@[go_sem] theorem zBd : Tryz.prog.cellsOf 99 = 1:=by kernel_rfl
@[go_sem] theorem zu8 : Tryz.prog.cellsOf 101 = 1:=by kernel_rfl
@[go_sem] theorem zu9 : Tryz.prog.cellsOf 102 = 3:=by kernel_rfl
@[go_sem] theorem zva : Tryz.prog.cellsOf 103 = 3:=by kernel_rfl
theorem zdd : (Tryz.prog.info? 103).bind (fun i=>i.zero.map fun z=>z.cells.toList) = some (Value.cells (Value.agg #[.string ⟨#[]⟩,.string ⟨#[]⟩,.bool false])).toList:=by kernel_rfl
theorem zjy : EO Tryz.prog 103 3 40 (Value.agg #[.string ⟨#[]⟩,.string ⟨#[]⟩,.bool false]):=⟨by kernel_rfl,rfl,by decide⟩
theorem zb9 : BD Tryz.prog 103 (Value.cells (Value.agg #[.string ⟨#[]⟩,.string ⟨#[]⟩,.bool false])).toList [(0,1),(1,1),(2,1)]:=⟨by kernel_rfl,by kernel_rfl,by kernel_rfl⟩
@[go_sem] theorem zvb : Tryz.prog.stoodInHeld 103 = false:=by kernel_rfl
@[go_sem] theorem zvc : Tryz.prog.cellsOf 104 = 1:=by kernel_rfl
theorem zjz : (Tryz.prog.info? 104).bind (fun i=>i.zero.map fun z=>z.cells.toList) = some (Value.cells (Value.slice none 0 0)).toList:=by kernel_rfl
theorem zjA : EO Tryz.prog 104 1 24 (Value.slice none 0 0):=⟨by kernel_rfl,rfl,by decide⟩
@[go_sem] theorem zvd : Tryz.prog.cellsOf 105 = 1:=by kernel_rfl
theorem zjB : (Tryz.prog.info? 105).bind (fun i=>i.zero.map fun z=>z.cells.toList) = some (Value.cells (Value.slice none 0 0)).toList:=by kernel_rfl
theorem zjC : EO Tryz.prog 105 1 24 (Value.slice none 0 0):=⟨by kernel_rfl,rfl,by decide⟩
@[go_sem] theorem zve : Tryz.prog.cellsOf 106 = 4:=by kernel_rfl
@[go_sem] theorem zvf : Tryz.prog.cellsOf 107 = 4:=by kernel_rfl
@[go_sem] theorem zvg : Tryz.prog.stoodInHeld 107 = false:=by kernel_rfl
@[go_sem] theorem zvh : Tryz.prog.cellsOf 108 = 1:=by kernel_rfl
@[go_sem] theorem zvi : Tryz.prog.cellsOf 109 = 1:=by kernel_rfl
@[go_sem] theorem zvj : Tryz.prog.cellsOf 110 = 2:=by kernel_rfl
@[go_sem] theorem zvk : Tryz.prog.cellsOf 111 = 1:=by kernel_rfl
@[go_sem] theorem zvl : Tryz.prog.cellsOf 112 = 2:=by kernel_rfl
@[go_sem] theorem zvm : Tryz.prog.cellsOf 113 = 5:=by kernel_rfl
@[go_sem] theorem zvn : Tryz.prog.cellsOf 114 = 5:=by kernel_rfl
@[go_sem] theorem zvo : Tryz.prog.stoodInHeld 114 = false:=by kernel_rfl
@[go_sem] theorem zvp : Tryz.prog.cellsOf 115 = 1:=by kernel_rfl
@[go_sem] theorem zvq : Tryz.prog.cellsOf 117 = 1:=by kernel_rfl
@[go_sem] theorem zvr : Tryz.prog.cellsOf 119 = 1:=by kernel_rfl
@[go_sem] theorem zvs : Tryz.prog.cellsOf 120 = 2:=by kernel_rfl
@[go_sem] theorem zvt : Tryz.prog.cellsOf 121 = 2:=by kernel_rfl
@[go_sem] theorem zvu : Tryz.prog.stoodInHeld 121 = false:=by kernel_rfl
@[go_sem] theorem zvv : Tryz.prog.cellsOf 122 = 4:=by kernel_rfl
@[go_sem] theorem zvw : Tryz.prog.cellsOf 123 = 1:=by kernel_rfl
@[go_sem] theorem zvx : Tryz.prog.cellsOf 124 = 2:=by kernel_rfl
@[go_sem] theorem zvy : Tryz.prog.cellsOf 126 = 1:=by kernel_rfl
@[go_sem] theorem zvz : Tryz.prog.cellsOf 127 = 1:=by kernel_rfl
@[go_sem] theorem zvA : Tryz.prog.cellsOf 129 = 1:=by kernel_rfl
@[go_sem] theorem zvB : Tryz.prog.cellsOf 130 = 1:=by kernel_rfl
@[go_sem] theorem zvC : Tryz.prog.cellsOf 131 = 1:=by kernel_rfl
@[go_sem] theorem zvD : Tryz.prog.cellsOf 132 = 4:=by kernel_rfl
@[go_sem] theorem zvE : Tryz.prog.cellsOf 133 = 4:=by kernel_rfl
@[go_sem] theorem zvF : Tryz.prog.stoodInHeld 133 = false:=by kernel_rfl
@[go_sem] theorem zvG : Tryz.prog.cellsOf 134 = 1:=by kernel_rfl
@[go_sem] theorem zvH : Tryz.prog.cellsOf 135 = 1:=by kernel_rfl
theorem zjD : (Tryz.prog.info? 135).bind (fun i=>i.zero.map fun z=>z.cells.toList) = some (Value.cells (.pointer none)).toList:=by kernel_rfl
theorem zjE : EO Tryz.prog 135 1 8 (.pointer none):=⟨by kernel_rfl,rfl,by decide⟩
@[go_sem] theorem zvI : Tryz.prog.cellsOf 136 = 2:=by kernel_rfl
@[go_sem] theorem zvJ : Tryz.prog.cellsOf 137 = 3:=by kernel_rfl
@[go_sem] theorem zvK : Tryz.prog.cellsOf 138 = 3:=by kernel_rfl
@[go_sem] theorem zvL : Tryz.prog.stoodInHeld 138 = false:=by kernel_rfl
@[go_sem] theorem zvM : Tryz.prog.cellsOf 140 = 1:=by kernel_rfl
@[go_sem] theorem zvN : Tryz.prog.cellsOf 141 = 1:=by kernel_rfl
@[go_sem] theorem zvO : Tryz.prog.cellsOf 142 = 4:=by kernel_rfl
@[go_sem] theorem zvP : Tryz.prog.cellsOf 143 = 4:=by kernel_rfl
@[go_sem] theorem zvQ : Tryz.prog.stoodInHeld 143 = false:=by kernel_rfl
@[go_sem] theorem zvR : Tryz.prog.cellsOf 144 = 4:=by kernel_rfl
theorem zdY : (Tryz.prog.info? 144).bind (fun i=>i.zero.map fun z=>z.cells.toList) = some (Value.cells (Value.agg #[.int .i64 0,.bool false,.bool false,.bool false])).toList:=by kernel_rfl
theorem zjF : EO Tryz.prog 144 4 16 (Value.agg #[.int .i64 0,.bool false,.bool false,.bool false]):=⟨by kernel_rfl,rfl,by decide⟩
theorem zfP : BD Tryz.prog 144 (Value.cells (Value.agg #[.int .i64 0,.bool false,.bool false,.bool false])).toList [(0,1),(1,1),(2,1),(3,1)]:=⟨by kernel_rfl,by kernel_rfl,by kernel_rfl⟩
@[go_sem] theorem zvS : Tryz.prog.stoodInHeld 144 = false:=by kernel_rfl
@[go_sem] theorem zvT : Tryz.prog.cellsOf 145 = 1:=by kernel_rfl
@[go_sem] theorem zvU : Tryz.prog.cellsOf 146 = 1:=by kernel_rfl
@[go_sem] theorem zvV : Tryz.prog.cellsOf 147 = 1:=by kernel_rfl
theorem zpU : (Tryz.prog.info? 147).bind (fun i=>i.zero.map fun z=>z.cells.toList) = some (Value.cells (.pointer none)).toList:=by kernel_rfl
theorem zs5 : EO Tryz.prog 147 1 8 (.pointer none):=⟨by kernel_rfl,rfl,by decide⟩
@[go_sem] theorem zvW : Tryz.prog.cellsOf 148 = 1:=by kernel_rfl
theorem zpV : (Tryz.prog.info? 148).bind (fun i=>i.zero.map fun z=>z.cells.toList) = some (Value.cells (Value.slice none 0 0)).toList:=by kernel_rfl
theorem zs6 : EO Tryz.prog 148 1 24 (Value.slice none 0 0):=⟨by kernel_rfl,rfl,by decide⟩
@[go_sem] theorem zvX : Tryz.prog.cellsOf 149 = 3:=by kernel_rfl
@[go_sem] theorem zvY : Tryz.prog.cellsOf 150 = 3:=by kernel_rfl
theorem zpW : (Tryz.prog.info? 150).bind (fun i=>i.zero.map fun z=>z.cells.toList) = some (Value.cells (Value.agg #[.int .i64 0,.int .i64 0,Value.slice none 0 0])).toList:=by kernel_rfl
theorem zs7 : EO Tryz.prog 150 3 40 (Value.agg #[.int .i64 0,.int .i64 0,Value.slice none 0 0]):=⟨by kernel_rfl,rfl,by decide⟩
theorem zpX : BD Tryz.prog 150 (Value.cells (Value.agg #[.int .i64 0,.int .i64 0,Value.slice none 0 0])).toList [(0,1),(1,1),(2,1)]:=⟨by kernel_rfl,by kernel_rfl,by kernel_rfl⟩
@[go_sem] theorem zvZ : Tryz.prog.stoodInHeld 150 = false:=by kernel_rfl
theorem vY : Tryz.prog.eqGuardType Tryz.prog.depth 150 = false:=by kernel_rfl
@[go_sem] theorem zv0 : Tryz.prog.cellsOf 151 = 1:=by kernel_rfl
@[go_sem] theorem zv1 : Tryz.prog.cellsOf 152 = 1:=by kernel_rfl
@[go_sem] theorem zv2 : Tryz.prog.cellsOf 153 = 1:=by kernel_rfl
@[go_sem] theorem zv6 : Tryz.prog.cellsOf 154 = 1:=by kernel_rfl
@[go_sem] theorem zv7 : Tryz.prog.cellsOf 155 = 1:=by kernel_rfl
@[go_sem] theorem zv8 : Tryz.prog.cellsOf 157 = 1:=by kernel_rfl
@[go_sem] theorem zwa : Tryz.prog.cellsOf 158 = 1:=by kernel_rfl
@[go_sem] theorem zwb : Tryz.prog.cellsOf 160 = 1:=by kernel_rfl
@[go_sem] theorem zwc : Tryz.prog.cellsOf 161 = 1:=by kernel_rfl
@[go_sem] theorem zwd : Tryz.prog.cellsOf 162 = 1:=by kernel_rfl
@[go_sem] theorem zwe : Tryz.prog.cellsOf 163 = 1:=by kernel_rfl
theorem zs8 : EO Tryz.prog 163 1 8 (.int .u64 0):=⟨by kernel_rfl,rfl,by decide⟩
@[go_sem] theorem zwf : Tryz.prog.cellsOf 165 = 1:=by kernel_rfl
@[go_sem] theorem zwg : Tryz.prog.cellsOf 166 = 1:=by kernel_rfl
@[go_sem] theorem zwh : Tryz.prog.cellsOf 167 = 1:=by kernel_rfl
theorem zpY : (Tryz.prog.info? 167).bind (fun i=>i.zero.map fun z=>z.cells.toList) = some (Value.cells (.pointer none)).toList:=by kernel_rfl
@[go_sem] theorem zwi : Tryz.prog.cellsOf 168 = 1:=by kernel_rfl
theorem zpZ : (Tryz.prog.info? 168).bind (fun i=>i.zero.map fun z=>z.cells.toList) = some (Value.cells (.pointer none)).toList:=by kernel_rfl
theorem zs9 : EO Tryz.prog 168 1 8 (.pointer none):=⟨by kernel_rfl,rfl,by decide⟩
@[go_sem] theorem zwj : Tryz.prog.cellsOf 169 = 1:=by kernel_rfl
@[go_sem] theorem zwk : Tryz.prog.cellsOf 170 = 2:=by kernel_rfl
@[go_sem] theorem zwl : Tryz.prog.cellsOf 171 = 2:=by kernel_rfl
theorem zp0 : (Tryz.prog.info? 171).bind (fun i=>i.zero.map fun z=>z.cells.toList) = some (Value.cells (Value.agg #[.pointer none,.bool false])).toList:=by kernel_rfl
theorem zp1 : BD Tryz.prog 171 (Value.cells (Value.agg #[.pointer none,.bool false])).toList [(0,1),(1,1)]:=⟨by kernel_rfl,by kernel_rfl,by kernel_rfl⟩
@[go_sem] theorem zwm : Tryz.prog.stoodInHeld 171 = false:=by kernel_rfl
@[go_sem] theorem zwn : Tryz.prog.cellsOf 172 = 1:=by kernel_rfl
@[go_sem] theorem zwo : Tryz.prog.cellsOf 173 = 1:=by kernel_rfl
theorem zp2 : (Tryz.prog.info? 173).bind (fun i=>i.zero.map fun z=>z.cells.toList) = some (Value.cells (.pointer none)).toList:=by kernel_rfl
@[go_sem] theorem zwp : Tryz.prog.cellsOf 174 = 1:=by kernel_rfl
@[go_sem] theorem zwq : Tryz.prog.cellsOf 176 = 1:=by kernel_rfl
@[go_sem] theorem zwr : Tryz.prog.cellsOf 178 = 1:=by kernel_rfl
@[go_sem] theorem zws : Tryz.prog.cellsOf 179 = 16:=by kernel_rfl
@[go_sem] theorem zwt : Tryz.prog.cellsOf 180 = 16:=by kernel_rfl
@[go_sem] theorem zwu : Tryz.prog.stoodInHeld 180 = false:=by kernel_rfl
@[go_sem] theorem zwv : Tryz.prog.cellsOf 181 = 1:=by kernel_rfl
theorem zdZ : (Tryz.prog.info? 181).bind (fun i=>i.zero.map fun z=>z.cells.toList) = some (Value.cells (.pointer none)).toList:=by kernel_rfl
theorem zjG : EO Tryz.prog 181 1 8 (.pointer none):=⟨by kernel_rfl,rfl,by decide⟩
@[go_sem] theorem zww : Tryz.prog.cellsOf 183 = 1:=by kernel_rfl
@[go_sem] theorem zwx : Tryz.prog.cellsOf 184 = 1:=by kernel_rfl
@[go_sem] theorem zwy : Tryz.prog.cellsOf 185 = 1:=by kernel_rfl
@[go_sem] theorem zwz : Tryz.prog.stoodInHeld 185 = false:=by kernel_rfl
@[go_sem] theorem zwA : Tryz.prog.cellsOf 187 = 1:=by kernel_rfl
@[go_sem] theorem zwB : Tryz.prog.cellsOf 188 = 1:=by kernel_rfl
@[go_sem] theorem zwC : Tryz.prog.cellsOf 189 = 1:=by kernel_rfl
@[go_sem] theorem zwD : Tryz.prog.cellsOf 190 = 1:=by kernel_rfl
@[go_sem] theorem zwE : Tryz.prog.cellsOf 192 = 1:=by kernel_rfl
@[go_sem] theorem zwF : Tryz.prog.cellsOf 193 = 1:=by kernel_rfl
@[go_sem] theorem zwG : Tryz.prog.cellsOf 194 = 1:=by kernel_rfl
@[go_sem] theorem zwH : Tryz.prog.cellsOf 195 = 7:=by kernel_rfl
@[go_sem] theorem zwI : Tryz.prog.cellsOf 196 = 7:=by kernel_rfl
@[go_sem] theorem zwJ : Tryz.prog.stoodInHeld 196 = false:=by kernel_rfl
@[go_sem] theorem zwK : Tryz.prog.cellsOf 198 = 1:=by kernel_rfl
@[go_sem] theorem zwL : Tryz.prog.cellsOf 199 = 1:=by kernel_rfl
@[go_sem] theorem zwM : Tryz.prog.cellsOf 201 = 1:=by kernel_rfl
@[go_sem] theorem zwN : Tryz.prog.cellsOf 202 = 1:=by kernel_rfl
@[go_sem] theorem zwO : Tryz.prog.cellsOf 203 = 1:=by kernel_rfl
@[go_sem] theorem zwP : Tryz.prog.cellsOf 204 = 1:=by kernel_rfl
theorem zjH : (Tryz.prog.info? 204).bind (fun i=>i.zero.map fun z=>z.cells.toList) = some (Value.cells (Value.agg #[.pointer none])).toList:=by kernel_rfl
theorem zjI : EO Tryz.prog 204 1 8 (Value.agg #[.pointer none]):=⟨by kernel_rfl,rfl,by decide⟩
theorem zjJ : BD Tryz.prog 204 (Value.cells (Value.agg #[.pointer none])).toList [(0,1)]:=⟨by kernel_rfl,by kernel_rfl,by kernel_rfl⟩
@[go_sem] theorem zwQ : Tryz.prog.stoodInHeld 204 = false:=by kernel_rfl
@[go_sem] theorem zwR : Tryz.prog.cellsOf 205 = 1:=by kernel_rfl
@[go_sem] theorem zwS : Tryz.prog.cellsOf 206 = 1:=by kernel_rfl
@[go_sem] theorem zwT : Tryz.prog.cellsOf 207 = 1:=by kernel_rfl
@[go_sem] theorem zwU : Tryz.prog.cellsOf 208 = 10:=by kernel_rfl
theorem zp3 : (Tryz.prog.info? 208).bind (fun i=>i.zero.map fun z=>z.cells.toList) = some (Value.cells (Value.agg #[.int .i64 0,.int .i64 0,.int .i64 0,.int .i64 0,.int .i64 0,.int .i64 0,.int .i64 0,.int .i64 0,.int .i64 0,.int .i64 0])).toList:=by kernel_rfl
theorem zp4 : BD Tryz.prog 208 (Value.cells (Value.agg #[.int .i64 0,.int .i64 0,.int .i64 0,.int .i64 0,.int .i64 0,.int .i64 0,.int .i64 0,.int .i64 0,.int .i64 0,.int .i64 0])).toList [(0,1),(1,1),(2,1),(3,1),(4,1),(5,1),(6,1),(7,1),(8,1),(9,1)]:=⟨by kernel_rfl,by kernel_rfl,by kernel_rfl⟩
theorem zp5 : Tryz.prog.eqGuardType Tryz.prog.depth 208 = false:=by kernel_rfl
@[go_sem] theorem zwV : Tryz.prog.cellsOf 209 = 1:=by kernel_rfl
@[go_sem] theorem zwW : Tryz.prog.cellsOf 210 = 1:=by kernel_rfl
@[go_sem] theorem zwX : Tryz.prog.cellsOf 211 = 1:=by kernel_rfl
@[go_sem] theorem zwY : Tryz.prog.cellsOf 212 = 1:=by kernel_rfl
@[go_sem] theorem zwZ : Tryz.prog.cellsOf 213 = 1:=by kernel_rfl
@[go_sem] theorem zw0 : Tryz.prog.cellsOf 214 = 1:=by kernel_rfl
@[go_sem] theorem zw1 : Tryz.prog.cellsOf 215 = 1:=by kernel_rfl
@[go_sem] theorem zw2 : Tryz.prog.cellsOf 216 = 2:=by kernel_rfl
@[go_sem] theorem zw3 : Tryz.prog.cellsOf 217 = 2:=by kernel_rfl
theorem zp6 : (Tryz.prog.info? 217).bind (fun i=>i.zero.map fun z=>z.cells.toList) = some (Value.cells (Value.agg #[Value.slice none 0 0,.bool false])).toList:=by kernel_rfl
theorem zta : EO Tryz.prog 217 2 32 (Value.agg #[Value.slice none 0 0,.bool false]):=⟨by kernel_rfl,rfl,by decide⟩
theorem zp7 : BD Tryz.prog 217 (Value.cells (Value.agg #[Value.slice none 0 0,.bool false])).toList [(0,1),(1,1)]:=⟨by kernel_rfl,by kernel_rfl,by kernel_rfl⟩
@[go_sem] theorem zw4 : Tryz.prog.stoodInHeld 217 = false:=by kernel_rfl
@[go_sem] theorem zw5 : Tryz.prog.cellsOf 218 = 1:=by kernel_rfl
@[go_sem] theorem zw6 : Tryz.prog.cellsOf 219 = 1:=by kernel_rfl
@[go_sem] theorem zw7 : Tryz.prog.cellsOf 220 = 1:=by kernel_rfl
@[go_sem] theorem zw8 : Tryz.prog.cellsOf 221 = 1:=by kernel_rfl
@[go_sem] theorem zw9 : Tryz.prog.cellsOf 222 = 1:=by kernel_rfl
@[go_sem] theorem zxa : Tryz.prog.cellsOf 224 = 1:=by kernel_rfl
@[go_sem] theorem zxb : Tryz.prog.cellsOf 225 = 1:=by kernel_rfl
@[go_sem] theorem zxc : Tryz.prog.cellsOf 226 = 1:=by kernel_rfl
theorem zp8 : (Tryz.prog.info? 226).bind (fun i=>i.zero.map fun z=>z.cells.toList) = some (Value.cells (Value.map none)).toList:=by kernel_rfl
@[go_sem] theorem zxd : Tryz.prog.cellsOf 227 = 1:=by kernel_rfl
@[go_sem] theorem zxe : Tryz.prog.cellsOf 229 = 1:=by kernel_rfl
@[go_sem] theorem zxf : Tryz.prog.cellsOf 230 = 1:=by kernel_rfl
@[go_sem] theorem zxg : Tryz.prog.cellsOf 232 = 1:=by kernel_rfl
@[go_sem] theorem zxh : Tryz.prog.cellsOf 233 = 1:=by kernel_rfl
@[go_sem] theorem zxi : Tryz.prog.cellsOf 234 = 2:=by kernel_rfl
@[go_sem] theorem zxj : Tryz.prog.cellsOf 235 = 2:=by kernel_rfl
theorem zp9 : (Tryz.prog.info? 235).bind (fun i=>i.zero.map fun z=>z.cells.toList) = some (Value.cells (Value.agg #[Value.slice none 0 0,.int .i64 0])).toList:=by kernel_rfl
theorem ztb : EO Tryz.prog 235 2 32 (Value.agg #[Value.slice none 0 0,.int .i64 0]):=⟨by kernel_rfl,rfl,by decide⟩
theorem zqa : BD Tryz.prog 235 (Value.cells (Value.agg #[Value.slice none 0 0,.int .i64 0])).toList [(0,1),(1,1)]:=⟨by kernel_rfl,by kernel_rfl,by kernel_rfl⟩
@[go_sem] theorem zxk : Tryz.prog.stoodInHeld 235 = false:=by kernel_rfl
@[go_sem] theorem zxl : Tryz.prog.cellsOf 237 = 1:=by kernel_rfl
@[go_sem] theorem zxm : Tryz.prog.cellsOf 238 = 1:=by kernel_rfl
@[go_sem] theorem zxn : Tryz.prog.cellsOf 239 = 3:=by kernel_rfl
@[go_sem] theorem zxo : Tryz.prog.cellsOf 240 = 3:=by kernel_rfl
theorem zd0 : (Tryz.prog.info? 240).bind (fun i=>i.zero.map fun z=>z.cells.toList) = some (Value.cells (Value.agg #[Value.slice none 0 0,.int .i64 0,.int .i64 0])).toList:=by kernel_rfl
theorem zjK : EO Tryz.prog 240 3 40 (Value.agg #[Value.slice none 0 0,.int .i64 0,.int .i64 0]):=⟨by kernel_rfl,rfl,by decide⟩
theorem zde : BD Tryz.prog 240 (Value.cells (Value.agg #[Value.slice none 0 0,.int .i64 0,.int .i64 0])).toList [(0,1),(1,1),(2,1)]:=⟨by kernel_rfl,by kernel_rfl,by kernel_rfl⟩
@[go_sem] theorem zxp : Tryz.prog.stoodInHeld 240 = false:=by kernel_rfl
@[go_sem] theorem zxq : Tryz.prog.cellsOf 241 = 1:=by kernel_rfl
@[go_sem] theorem zxr : Tryz.prog.cellsOf 242 = 1:=by kernel_rfl
@[go_sem] theorem zxs : Tryz.prog.cellsOf 243 = 2:=by kernel_rfl
@[go_sem] theorem zxt : Tryz.prog.cellsOf 244 = 2:=by kernel_rfl
@[go_sem] theorem zxu : Tryz.prog.stoodInHeld 244 = false:=by kernel_rfl
@[go_sem] theorem zxv : Tryz.prog.cellsOf 246 = 1:=by kernel_rfl
@[go_sem] theorem zxw : Tryz.prog.cellsOf 247 = 1:=by kernel_rfl
@[go_sem] theorem zxx : Tryz.prog.cellsOf 248 = 1:=by kernel_rfl
@[go_sem] theorem zxy : Tryz.prog.cellsOf 249 = 1:=by kernel_rfl
@[go_sem] theorem zxz : Tryz.prog.cellsOf 250 = 1:=by kernel_rfl
@[go_sem] theorem zxA : Tryz.prog.cellsOf 252 = 1:=by kernel_rfl
@[go_sem] theorem zxB : Tryz.prog.cellsOf 254 = 1:=by kernel_rfl
@[go_sem] theorem zxC : Tryz.prog.cellsOf 256 = 1:=by kernel_rfl
@[go_sem] theorem zxD : Tryz.prog.cellsOf 257 = 1:=by kernel_rfl
@[go_sem] theorem zxE : Tryz.prog.cellsOf 258 = 1:=by kernel_rfl
@[go_sem] theorem zxF : Tryz.prog.cellsOf 259 = 1:=by kernel_rfl
@[go_sem] theorem zxG : Tryz.prog.cellsOf 260 = 1:=by kernel_rfl
@[go_sem] theorem zxH : Tryz.prog.cellsOf 261 = 1:=by kernel_rfl
@[go_sem] theorem zxI : Tryz.prog.cellsOf 262 = 1:=by kernel_rfl
@[go_sem] theorem zxJ : Tryz.prog.cellsOf 263 = 2:=by kernel_rfl
@[go_sem] theorem zxK : Tryz.prog.cellsOf 264 = 2:=by kernel_rfl
theorem zd1 : (Tryz.prog.info? 264).bind (fun i=>i.zero.map fun z=>z.cells.toList) = some (Value.cells (Value.agg #[.string ⟨#[]⟩,.bool false])).toList:=by kernel_rfl
theorem zca : EO Tryz.prog 264 2 24 (Value.agg #[.string ⟨#[]⟩,.bool false]):=⟨by kernel_rfl,rfl,by decide⟩
theorem zjL : BD Tryz.prog 264 (Value.cells (Value.agg #[.string ⟨#[]⟩,.bool false])).toList [(0,1),(1,1)]:=⟨by kernel_rfl,by kernel_rfl,by kernel_rfl⟩
@[go_sem] theorem zxL : Tryz.prog.stoodInHeld 264 = false:=by kernel_rfl
theorem zqb : Tryz.prog.eqGuardType Tryz.prog.depth 264 = false:=by kernel_rfl
@[go_sem] theorem zxM : Tryz.prog.cellsOf 265 = 7:=by kernel_rfl
@[go_sem] theorem zxN : Tryz.prog.cellsOf 266 = 7:=by kernel_rfl
theorem zd2 : (Tryz.prog.info? 266).bind (fun i=>i.zero.map fun z=>z.cells.toList) = some (Value.cells (Value.agg #[.int .i64 0,.int .i64 0,.string ⟨#[]⟩,.bool false,.string ⟨#[]⟩,.bool false,.int .i64 0])).toList:=by kernel_rfl
theorem zcb : EO Tryz.prog 266 7 72 (Value.agg #[.int .i64 0,.int .i64 0,.string ⟨#[]⟩,.bool false,.string ⟨#[]⟩,.bool false,.int .i64 0]):=⟨by kernel_rfl,rfl,by decide⟩
theorem zjM : BD Tryz.prog 266 (Value.cells (Value.agg #[.int .i64 0,.int .i64 0,.string ⟨#[]⟩,.bool false,.string ⟨#[]⟩,.bool false,.int .i64 0])).toList [(0,1),(1,1),(2,2),(4,2),(6,1)]:=⟨by kernel_rfl,by kernel_rfl,by kernel_rfl⟩
@[go_sem] theorem zxO : Tryz.prog.stoodInHeld 266 = false:=by kernel_rfl
theorem zqc : Tryz.prog.eqGuardType Tryz.prog.depth 266 = false:=by kernel_rfl
@[go_sem] theorem zxP : Tryz.prog.cellsOf 267 = 1:=by kernel_rfl
@[go_sem] theorem zxQ : Tryz.prog.cellsOf 268 = 1:=by kernel_rfl
@[go_sem] theorem zxR : Tryz.prog.cellsOf 269 = 1:=by kernel_rfl
theorem ztc : EO Tryz.prog 269 1 8 (.pointer none):=⟨by kernel_rfl,rfl,by decide⟩
@[go_sem] theorem zxS : Tryz.prog.cellsOf 270 = 1:=by kernel_rfl
@[go_sem] theorem zxT : Tryz.prog.cellsOf 271 = 1:=by kernel_rfl
@[go_sem] theorem zxU : Tryz.prog.cellsOf 272 = 1:=by kernel_rfl
@[go_sem] theorem zxV : Tryz.prog.cellsOf 273 = 1:=by kernel_rfl
@[go_sem] theorem zxW : Tryz.prog.cellsOf 274 = 1:=by kernel_rfl
@[go_sem] theorem zxX : Tryz.prog.cellsOf 275 = 1:=by kernel_rfl
@[go_sem] theorem zxY : Tryz.prog.cellsOf 276 = 1:=by kernel_rfl
@[go_sem] theorem zxZ : Tryz.prog.cellsOf 277 = 3:=by kernel_rfl
@[go_sem] theorem zx0 : Tryz.prog.cellsOf 278 = 3:=by kernel_rfl
@[go_sem] theorem zx1 : Tryz.prog.stoodInHeld 278 = false:=by kernel_rfl
@[go_sem] theorem zx2 : Tryz.prog.cellsOf 280 = 1:=by kernel_rfl
@[go_sem] theorem zx3 : Tryz.prog.cellsOf 281 = 1:=by kernel_rfl
@[go_sem] theorem zx4 : Tryz.prog.cellsOf 282 = 1:=by kernel_rfl
@[go_sem] theorem zx5 : Tryz.prog.cellsOf 283 = 1:=by kernel_rfl
@[go_sem] theorem zx6 : Tryz.prog.cellsOf 284 = 1:=by kernel_rfl
@[go_sem] theorem zx7 : Tryz.prog.cellsOf 285 = 1:=by kernel_rfl
@[go_sem] theorem zx8 : Tryz.prog.cellsOf 286 = 2:=by kernel_rfl
@[go_sem] theorem zqd : Tryz.prog.cellsOf 287 = 2:=by kernel_rfl
theorem zfQ : EO Tryz.prog 287 2 16 (Value.agg #[.int .i64 0,.int .i64 0]):=⟨by kernel_rfl,rfl,by decide⟩
@[go_sem] theorem zx9 : Tryz.prog.stoodInHeld 287 = false:=by kernel_rfl
@[go_sem] theorem ztd : Tryz.prog.cellsOf 288 = 12:=by kernel_rfl
theorem zfR : EO Tryz.prog 288 12 96 (Value.agg #[.int .i64 0,.int .i64 0,.int .i64 0,.int .i64 0,.int .i64 0,.int .i64 0,.int .i64 0,.int .i64 0,.int .i64 0,.int .i64 0,.int .i64 0,.int .i64 0]):=⟨by kernel_rfl,rfl,by decide⟩
@[go_sem] theorem zya : Tryz.prog.cellsOf 289 = 1:=by kernel_rfl
@[go_sem] theorem zyb : Tryz.prog.cellsOf 290 = 1:=by kernel_rfl
@[go_sem] theorem zyc : Tryz.prog.cellsOf 291 = 1:=by kernel_rfl
@[go_sem] theorem zyd : Tryz.prog.cellsOf 292 = 1:=by kernel_rfl
@[go_sem] theorem zye : Tryz.prog.cellsOf 293 = 1:=by kernel_rfl
@[go_sem] theorem zyf : Tryz.prog.cellsOf 294 = 1:=by kernel_rfl
@[go_sem] theorem zyg : Tryz.prog.cellsOf 295 = 1:=by kernel_rfl
@[go_sem] theorem zyh : Tryz.prog.cellsOf 296 = 1:=by kernel_rfl
@[go_sem] theorem zyi : Tryz.prog.cellsOf 297 = 1:=by kernel_rfl
@[go_sem] theorem zyj : Tryz.prog.cellsOf 298 = 1:=by kernel_rfl
@[go_sem] theorem zyk : Tryz.prog.cellsOf 299 = 1:=by kernel_rfl
@[go_sem] theorem zyl : Tryz.prog.cellsOf 301 = 1:=by kernel_rfl
@[go_sem] theorem zym : Tryz.prog.cellsOf 303 = 1:=by kernel_rfl
@[go_sem] theorem zyn : Tryz.prog.cellsOf 304 = 1:=by kernel_rfl
@[go_sem] theorem zyo : Tryz.prog.cellsOf 305 = 1:=by kernel_rfl
@[go_sem] theorem zyp : Tryz.prog.cellsOf 306 = 1:=by kernel_rfl
@[go_sem] theorem zyq : Tryz.prog.cellsOf 307 = 1:=by kernel_rfl
@[go_sem] theorem zyr : Tryz.prog.cellsOf 309 = 1:=by kernel_rfl
@[go_sem] theorem zys : Tryz.prog.cellsOf 310 = 1:=by kernel_rfl
@[go_sem] theorem zyt : Tryz.prog.cellsOf 311 = 1:=by kernel_rfl
@[go_sem] theorem zyu : Tryz.prog.cellsOf 312 = 1:=by kernel_rfl
theorem zqe : (Tryz.prog.info? 312).bind (fun i=>i.zero.map fun z=>z.cells.toList) = some (Value.cells (.pointer none)).toList:=by kernel_rfl
theorem zte : EO Tryz.prog 312 1 8 (.pointer none):=⟨by kernel_rfl,rfl,by decide⟩
@[go_sem] theorem zyv : Tryz.prog.cellsOf 313 = 1:=by kernel_rfl
@[go_sem] theorem zyw : Tryz.prog.cellsOf 314 = 2:=by kernel_rfl
@[go_sem] theorem zyx : Tryz.prog.cellsOf 315 = 2:=by kernel_rfl
theorem zqf : (Tryz.prog.info? 315).bind (fun i=>i.zero.map fun z=>z.cells.toList) = some (Value.cells (Value.agg #[Value.slice none 0 0,.int .i64 0])).toList:=by kernel_rfl
theorem ztf : EO Tryz.prog 315 2 32 (Value.agg #[Value.slice none 0 0,.int .i64 0]):=⟨by kernel_rfl,rfl,by decide⟩
@[go_sem] theorem zyy : Tryz.prog.stoodInHeld 315 = false:=by kernel_rfl
@[go_sem] theorem zyz : Tryz.prog.cellsOf 316 = 1:=by kernel_rfl
@[go_sem] theorem zyA : Tryz.prog.cellsOf 317 = 1:=by kernel_rfl
@[go_sem] theorem zyB : Tryz.prog.cellsOf 318 = 1:=by kernel_rfl
@[go_sem] theorem zyC : Tryz.prog.cellsOf 319 = 1:=by kernel_rfl
@[go_sem] theorem zyD : Tryz.prog.cellsOf 320 = 2:=by kernel_rfl
theorem zmy : (Tryz.prog.info? 320).bind (fun i=>i.zero.map fun z=>z.cells.toList) = some (Value.cells (Value.agg #[.string ⟨#[]⟩,.string ⟨#[]⟩])).toList:=by kernel_rfl
theorem zmz : BD Tryz.prog 320 (Value.cells (Value.agg #[.string ⟨#[]⟩,.string ⟨#[]⟩])).toList [(0,1),(1,1)]:=⟨by kernel_rfl,by kernel_rfl,by kernel_rfl⟩
@[go_sem] theorem zyE : Tryz.prog.cellsOf 321 = 28:=by kernel_rfl
theorem zmA : (Tryz.prog.info? 321).bind (fun i=>i.zero.map fun z=>z.cells.toList) = some (Value.cells (Value.agg #[.string ⟨#[]⟩,.string ⟨#[]⟩,.string ⟨#[]⟩,.string ⟨#[]⟩,.string ⟨#[]⟩,.string ⟨#[]⟩,.string ⟨#[]⟩,.string ⟨#[]⟩,.string ⟨#[]⟩,.string ⟨#[]⟩,.string ⟨#[]⟩,.string ⟨#[]⟩,.string ⟨#[]⟩,.string ⟨#[]⟩,.string ⟨#[]⟩,.string ⟨#[]⟩,.string ⟨#[]⟩,.string ⟨#[]⟩,.string ⟨#[]⟩,.string ⟨#[]⟩,.string ⟨#[]⟩,.string ⟨#[]⟩,.string ⟨#[]⟩,.string ⟨#[]⟩,.string ⟨#[]⟩,.string ⟨#[]⟩,.string ⟨#[]⟩,.string ⟨#[]⟩])).toList:=by kernel_rfl
theorem zmB : BD Tryz.prog 321 (Value.cells (Value.agg #[.string ⟨#[]⟩,.string ⟨#[]⟩,.string ⟨#[]⟩,.string ⟨#[]⟩,.string ⟨#[]⟩,.string ⟨#[]⟩,.string ⟨#[]⟩,.string ⟨#[]⟩,.string ⟨#[]⟩,.string ⟨#[]⟩,.string ⟨#[]⟩,.string ⟨#[]⟩,.string ⟨#[]⟩,.string ⟨#[]⟩,.string ⟨#[]⟩,.string ⟨#[]⟩,.string ⟨#[]⟩,.string ⟨#[]⟩,.string ⟨#[]⟩,.string ⟨#[]⟩,.string ⟨#[]⟩,.string ⟨#[]⟩,.string ⟨#[]⟩,.string ⟨#[]⟩,.string ⟨#[]⟩,.string ⟨#[]⟩,.string ⟨#[]⟩,.string ⟨#[]⟩])).toList [(0,2),(2,2),(4,2),(6,2),(8,2),(10,2),(12,2),(14,2),(16,2),(18,2),(20,2),(22,2),(24,2),(26,2)]:=⟨by kernel_rfl,by kernel_rfl,by kernel_rfl⟩
@[go_sem] theorem zyF : Tryz.prog.cellsOf 322 = 1:=by kernel_rfl
@[go_sem] theorem zyG : Tryz.prog.cellsOf 323 = 47:=by kernel_rfl
theorem zmC : (Tryz.prog.info? 323).bind (fun i=>i.zero.map fun z=>z.cells.toList) = some (Value.cells (Value.agg #[.string ⟨#[]⟩,.string ⟨#[]⟩,.string ⟨#[]⟩,.string ⟨#[]⟩,.string ⟨#[]⟩,.string ⟨#[]⟩,.string ⟨#[]⟩,.string ⟨#[]⟩,.string ⟨#[]⟩,.string ⟨#[]⟩,.string ⟨#[]⟩,.string ⟨#[]⟩,.string ⟨#[]⟩,.string ⟨#[]⟩,.string ⟨#[]⟩,.string ⟨#[]⟩,.string ⟨#[]⟩,.string ⟨#[]⟩,.string ⟨#[]⟩,.string ⟨#[]⟩,.string ⟨#[]⟩,.string ⟨#[]⟩,.string ⟨#[]⟩,.string ⟨#[]⟩,.string ⟨#[]⟩,.string ⟨#[]⟩,.string ⟨#[]⟩,.string ⟨#[]⟩,.string ⟨#[]⟩,.string ⟨#[]⟩,.string ⟨#[]⟩,.string ⟨#[]⟩,.string ⟨#[]⟩,.string ⟨#[]⟩,.string ⟨#[]⟩,.string ⟨#[]⟩,.string ⟨#[]⟩,.string ⟨#[]⟩,.string ⟨#[]⟩,.string ⟨#[]⟩,.string ⟨#[]⟩,.string ⟨#[]⟩,.string ⟨#[]⟩,.string ⟨#[]⟩,.string ⟨#[]⟩,.string ⟨#[]⟩,.string ⟨#[]⟩])).toList:=by kernel_rfl
theorem zmD : BD Tryz.prog 323 (Value.cells (Value.agg #[.string ⟨#[]⟩,.string ⟨#[]⟩,.string ⟨#[]⟩,.string ⟨#[]⟩,.string ⟨#[]⟩,.string ⟨#[]⟩,.string ⟨#[]⟩,.string ⟨#[]⟩,.string ⟨#[]⟩,.string ⟨#[]⟩,.string ⟨#[]⟩,.string ⟨#[]⟩,.string ⟨#[]⟩,.string ⟨#[]⟩,.string ⟨#[]⟩,.string ⟨#[]⟩,.string ⟨#[]⟩,.string ⟨#[]⟩,.string ⟨#[]⟩,.string ⟨#[]⟩,.string ⟨#[]⟩,.string ⟨#[]⟩,.string ⟨#[]⟩,.string ⟨#[]⟩,.string ⟨#[]⟩,.string ⟨#[]⟩,.string ⟨#[]⟩,.string ⟨#[]⟩,.string ⟨#[]⟩,.string ⟨#[]⟩,.string ⟨#[]⟩,.string ⟨#[]⟩,.string ⟨#[]⟩,.string ⟨#[]⟩,.string ⟨#[]⟩,.string ⟨#[]⟩,.string ⟨#[]⟩,.string ⟨#[]⟩,.string ⟨#[]⟩,.string ⟨#[]⟩,.string ⟨#[]⟩,.string ⟨#[]⟩,.string ⟨#[]⟩,.string ⟨#[]⟩,.string ⟨#[]⟩,.string ⟨#[]⟩,.string ⟨#[]⟩])).toList [(0,1),(1,1),(2,1),(3,1),(4,1),(5,1),(6,1),(7,1),(8,1),(9,1),(10,1),(11,1),(12,1),(13,1),(14,1),(15,1),(16,1),(17,1),(18,1),(19,1),(20,1),(21,1),(22,1),(23,1),(24,1),(25,1),(26,1),(27,1),(28,1),(29,1),(30,1),(31,1),(32,1),(33,1),(34,1),(35,1),(36,1),(37,1),(38,1),(39,1),(40,1),(41,1),(42,1),(43,1),(44,1),(45,1),(46,1)]:=⟨by kernel_rfl,by kernel_rfl,by kernel_rfl⟩
@[go_sem] theorem zyH : Tryz.prog.cellsOf 324 = 1:=by kernel_rfl
@[go_sem] theorem zyI : Tryz.prog.cellsOf 325 = 257:=by kernel_rfl
set_option maxRecDepth 20000 in
theorem zqg : (Tryz.prog.info? 325).bind (fun i=>i.zero.map fun z=>z.cells.toList) = some (Value.cells (Value.agg (([.int .i64 0,.int .i64 0,.int .i64 0,.int .i64 0,.int .i64 0,.int .i64 0,.int .i64 0,.int .i64 0,.int .i64 0,.int .i64 0,.int .i64 0,.int .i64 0,.int .i64 0,.int .i64 0,.int .i64 0,.int .i64 0,.int .i64 0,.int .i64 0,.int .i64 0,.int .i64 0,.int .i64 0,.int .i64 0,.int .i64 0,.int .i64 0,.int .i64 0,.int .i64 0,.int .i64 0,.int .i64 0,.int .i64 0,.int .i64 0,.int .i64 0,.int .i64 0,.int .i64 0,.int .i64 0,.int .i64 0,.int .i64 0,.int .i64 0,.int .i64 0,.int .i64 0,.int .i64 0,.int .i64 0,.int .i64 0,.int .i64 0,.int .i64 0,.int .i64 0,.int .i64 0,.int .i64 0,.int .i64 0,.int .i64 0,.int .i64 0,.int .i64 0,.int .i64 0,.int .i64 0,.int .i64 0,.int .i64 0,.int .i64 0,.int .i64 0,.int .i64 0,.int .i64 0,.int .i64 0,.int .i64 0,.int .i64 0,.int .i64 0,.int .i64 0].append [.int .i64 0,.int .i64 0,.int .i64 0,.int .i64 0,.int .i64 0,.int .i64 0,.int .i64 0,.int .i64 0,.int .i64 0,.int .i64 0,.int .i64 0,.int .i64 0,.int .i64 0,.int .i64 0,.int .i64 0,.int .i64 0,.int .i64 0,.int .i64 0,.int .i64 0,.int .i64 0,.int .i64 0,.int .i64 0,.int .i64 0,.int .i64 0,.int .i64 0,.int .i64 0,.int .i64 0,.int .i64 0,.int .i64 0,.int .i64 0,.int .i64 0,.int .i64 0,.int .i64 0,.int .i64 0,.int .i64 0,.int .i64 0,.int .i64 0,.int .i64 0,.int .i64 0,.int .i64 0,.int .i64 0,.int .i64 0,.int .i64 0,.int .i64 0,.int .i64 0,.int .i64 0,.int .i64 0,.int .i64 0,.int .i64 0,.int .i64 0,.int .i64 0,.int .i64 0,.int .i64 0,.int .i64 0,.int .i64 0,.int .i64 0,.int .i64 0,.int .i64 0,.int .i64 0,.int .i64 0,.int .i64 0,.int .i64 0,.int .i64 0,.int .i64 0]).append ([.int .i64 0,.int .i64 0,.int .i64 0,.int .i64 0,.int .i64 0,.int .i64 0,.int .i64 0,.int .i64 0,.int .i64 0,.int .i64 0,.int .i64 0,.int .i64 0,.int .i64 0,.int .i64 0,.int .i64 0,.int .i64 0,.int .i64 0,.int .i64 0,.int .i64 0,.int .i64 0,.int .i64 0,.int .i64 0,.int .i64 0,.int .i64 0,.int .i64 0,.int .i64 0,.int .i64 0,.int .i64 0,.int .i64 0,.int .i64 0,.int .i64 0,.int .i64 0,.int .i64 0,.int .i64 0,.int .i64 0,.int .i64 0,.int .i64 0,.int .i64 0,.int .i64 0,.int .i64 0,.int .i64 0,.int .i64 0,.int .i64 0,.int .i64 0,.int .i64 0,.int .i64 0,.int .i64 0,.int .i64 0,.int .i64 0,.int .i64 0,.int .i64 0,.int .i64 0,.int .i64 0,.int .i64 0,.int .i64 0,.int .i64 0,.int .i64 0,.int .i64 0,.int .i64 0,.int .i64 0,.int .i64 0,.int .i64 0,.int .i64 0,.int .i64 0].append ([.int .i64 0,.int .i64 0,.int .i64 0,.int .i64 0,.int .i64 0,.int .i64 0,.int .i64 0,.int .i64 0,.int .i64 0,.int .i64 0,.int .i64 0,.int .i64 0,.int .i64 0,.int .i64 0,.int .i64 0,.int .i64 0,.int .i64 0,.int .i64 0,.int .i64 0,.int .i64 0,.int .i64 0,.int .i64 0,.int .i64 0,.int .i64 0,.int .i64 0,.int .i64 0,.int .i64 0,.int .i64 0,.int .i64 0,.int .i64 0,.int .i64 0,.int .i64 0].append [.int .i64 0,.int .i64 0,.int .i64 0,.int .i64 0,.int .i64 0,.int .i64 0,.int .i64 0,.int .i64 0,.int .i64 0,.int .i64 0,.int .i64 0,.int .i64 0,.int .i64 0,.int .i64 0,.int .i64 0,.int .i64 0,.int .i64 0,.int .i64 0,.int .i64 0,.int .i64 0,.int .i64 0,.int .i64 0,.int .i64 0,.int .i64 0,.int .i64 0,.int .i64 0,.int .i64 0,.int .i64 0,.int .i64 0,.int .i64 0,.int .i64 0,.int .i64 0,.int .i64 0]))).toArray)).toList:=by kernel_rfl
set_option maxRecDepth 20000 in
theorem ztg : EO Tryz.prog 325 257 2056 (Value.agg (([.int .i64 0,.int .i64 0,.int .i64 0,.int .i64 0,.int .i64 0,.int .i64 0,.int .i64 0,.int .i64 0,.int .i64 0,.int .i64 0,.int .i64 0,.int .i64 0,.int .i64 0,.int .i64 0,.int .i64 0,.int .i64 0,.int .i64 0,.int .i64 0,.int .i64 0,.int .i64 0,.int .i64 0,.int .i64 0,.int .i64 0,.int .i64 0,.int .i64 0,.int .i64 0,.int .i64 0,.int .i64 0,.int .i64 0,.int .i64 0,.int .i64 0,.int .i64 0,.int .i64 0,.int .i64 0,.int .i64 0,.int .i64 0,.int .i64 0,.int .i64 0,.int .i64 0,.int .i64 0,.int .i64 0,.int .i64 0,.int .i64 0,.int .i64 0,.int .i64 0,.int .i64 0,.int .i64 0,.int .i64 0,.int .i64 0,.int .i64 0,.int .i64 0,.int .i64 0,.int .i64 0,.int .i64 0,.int .i64 0,.int .i64 0,.int .i64 0,.int .i64 0,.int .i64 0,.int .i64 0,.int .i64 0,.int .i64 0,.int .i64 0,.int .i64 0].append [.int .i64 0,.int .i64 0,.int .i64 0,.int .i64 0,.int .i64 0,.int .i64 0,.int .i64 0,.int .i64 0,.int .i64 0,.int .i64 0,.int .i64 0,.int .i64 0,.int .i64 0,.int .i64 0,.int .i64 0,.int .i64 0,.int .i64 0,.int .i64 0,.int .i64 0,.int .i64 0,.int .i64 0,.int .i64 0,.int .i64 0,.int .i64 0,.int .i64 0,.int .i64 0,.int .i64 0,.int .i64 0,.int .i64 0,.int .i64 0,.int .i64 0,.int .i64 0,.int .i64 0,.int .i64 0,.int .i64 0,.int .i64 0,.int .i64 0,.int .i64 0,.int .i64 0,.int .i64 0,.int .i64 0,.int .i64 0,.int .i64 0,.int .i64 0,.int .i64 0,.int .i64 0,.int .i64 0,.int .i64 0,.int .i64 0,.int .i64 0,.int .i64 0,.int .i64 0,.int .i64 0,.int .i64 0,.int .i64 0,.int .i64 0,.int .i64 0,.int .i64 0,.int .i64 0,.int .i64 0,.int .i64 0,.int .i64 0,.int .i64 0,.int .i64 0]).append ([.int .i64 0,.int .i64 0,.int .i64 0,.int .i64 0,.int .i64 0,.int .i64 0,.int .i64 0,.int .i64 0,.int .i64 0,.int .i64 0,.int .i64 0,.int .i64 0,.int .i64 0,.int .i64 0,.int .i64 0,.int .i64 0,.int .i64 0,.int .i64 0,.int .i64 0,.int .i64 0,.int .i64 0,.int .i64 0,.int .i64 0,.int .i64 0,.int .i64 0,.int .i64 0,.int .i64 0,.int .i64 0,.int .i64 0,.int .i64 0,.int .i64 0,.int .i64 0,.int .i64 0,.int .i64 0,.int .i64 0,.int .i64 0,.int .i64 0,.int .i64 0,.int .i64 0,.int .i64 0,.int .i64 0,.int .i64 0,.int .i64 0,.int .i64 0,.int .i64 0,.int .i64 0,.int .i64 0,.int .i64 0,.int .i64 0,.int .i64 0,.int .i64 0,.int .i64 0,.int .i64 0,.int .i64 0,.int .i64 0,.int .i64 0,.int .i64 0,.int .i64 0,.int .i64 0,.int .i64 0,.int .i64 0,.int .i64 0,.int .i64 0,.int .i64 0].append ([.int .i64 0,.int .i64 0,.int .i64 0,.int .i64 0,.int .i64 0,.int .i64 0,.int .i64 0,.int .i64 0,.int .i64 0,.int .i64 0,.int .i64 0,.int .i64 0,.int .i64 0,.int .i64 0,.int .i64 0,.int .i64 0,.int .i64 0,.int .i64 0,.int .i64 0,.int .i64 0,.int .i64 0,.int .i64 0,.int .i64 0,.int .i64 0,.int .i64 0,.int .i64 0,.int .i64 0,.int .i64 0,.int .i64 0,.int .i64 0,.int .i64 0,.int .i64 0].append [.int .i64 0,.int .i64 0,.int .i64 0,.int .i64 0,.int .i64 0,.int .i64 0,.int .i64 0,.int .i64 0,.int .i64 0,.int .i64 0,.int .i64 0,.int .i64 0,.int .i64 0,.int .i64 0,.int .i64 0,.int .i64 0,.int .i64 0,.int .i64 0,.int .i64 0,.int .i64 0,.int .i64 0,.int .i64 0,.int .i64 0,.int .i64 0,.int .i64 0,.int .i64 0,.int .i64 0,.int .i64 0,.int .i64 0,.int .i64 0,.int .i64 0,.int .i64 0,.int .i64 0]))).toArray):=⟨by kernel_rfl,rfl,by decide⟩
set_option maxRecDepth 20000 in
theorem zqh : BD Tryz.prog 325 (Value.cells (Value.agg (([.int .i64 0,.int .i64 0,.int .i64 0,.int .i64 0,.int .i64 0,.int .i64 0,.int .i64 0,.int .i64 0,.int .i64 0,.int .i64 0,.int .i64 0,.int .i64 0,.int .i64 0,.int .i64 0,.int .i64 0,.int .i64 0,.int .i64 0,.int .i64 0,.int .i64 0,.int .i64 0,.int .i64 0,.int .i64 0,.int .i64 0,.int .i64 0,.int .i64 0,.int .i64 0,.int .i64 0,.int .i64 0,.int .i64 0,.int .i64 0,.int .i64 0,.int .i64 0,.int .i64 0,.int .i64 0,.int .i64 0,.int .i64 0,.int .i64 0,.int .i64 0,.int .i64 0,.int .i64 0,.int .i64 0,.int .i64 0,.int .i64 0,.int .i64 0,.int .i64 0,.int .i64 0,.int .i64 0,.int .i64 0,.int .i64 0,.int .i64 0,.int .i64 0,.int .i64 0,.int .i64 0,.int .i64 0,.int .i64 0,.int .i64 0,.int .i64 0,.int .i64 0,.int .i64 0,.int .i64 0,.int .i64 0,.int .i64 0,.int .i64 0,.int .i64 0].append [.int .i64 0,.int .i64 0,.int .i64 0,.int .i64 0,.int .i64 0,.int .i64 0,.int .i64 0,.int .i64 0,.int .i64 0,.int .i64 0,.int .i64 0,.int .i64 0,.int .i64 0,.int .i64 0,.int .i64 0,.int .i64 0,.int .i64 0,.int .i64 0,.int .i64 0,.int .i64 0,.int .i64 0,.int .i64 0,.int .i64 0,.int .i64 0,.int .i64 0,.int .i64 0,.int .i64 0,.int .i64 0,.int .i64 0,.int .i64 0,.int .i64 0,.int .i64 0,.int .i64 0,.int .i64 0,.int .i64 0,.int .i64 0,.int .i64 0,.int .i64 0,.int .i64 0,.int .i64 0,.int .i64 0,.int .i64 0,.int .i64 0,.int .i64 0,.int .i64 0,.int .i64 0,.int .i64 0,.int .i64 0,.int .i64 0,.int .i64 0,.int .i64 0,.int .i64 0,.int .i64 0,.int .i64 0,.int .i64 0,.int .i64 0,.int .i64 0,.int .i64 0,.int .i64 0,.int .i64 0,.int .i64 0,.int .i64 0,.int .i64 0,.int .i64 0]).append ([.int .i64 0,.int .i64 0,.int .i64 0,.int .i64 0,.int .i64 0,.int .i64 0,.int .i64 0,.int .i64 0,.int .i64 0,.int .i64 0,.int .i64 0,.int .i64 0,.int .i64 0,.int .i64 0,.int .i64 0,.int .i64 0,.int .i64 0,.int .i64 0,.int .i64 0,.int .i64 0,.int .i64 0,.int .i64 0,.int .i64 0,.int .i64 0,.int .i64 0,.int .i64 0,.int .i64 0,.int .i64 0,.int .i64 0,.int .i64 0,.int .i64 0,.int .i64 0,.int .i64 0,.int .i64 0,.int .i64 0,.int .i64 0,.int .i64 0,.int .i64 0,.int .i64 0,.int .i64 0,.int .i64 0,.int .i64 0,.int .i64 0,.int .i64 0,.int .i64 0,.int .i64 0,.int .i64 0,.int .i64 0,.int .i64 0,.int .i64 0,.int .i64 0,.int .i64 0,.int .i64 0,.int .i64 0,.int .i64 0,.int .i64 0,.int .i64 0,.int .i64 0,.int .i64 0,.int .i64 0,.int .i64 0,.int .i64 0,.int .i64 0,.int .i64 0].append ([.int .i64 0,.int .i64 0,.int .i64 0,.int .i64 0,.int .i64 0,.int .i64 0,.int .i64 0,.int .i64 0,.int .i64 0,.int .i64 0,.int .i64 0,.int .i64 0,.int .i64 0,.int .i64 0,.int .i64 0,.int .i64 0,.int .i64 0,.int .i64 0,.int .i64 0,.int .i64 0,.int .i64 0,.int .i64 0,.int .i64 0,.int .i64 0,.int .i64 0,.int .i64 0,.int .i64 0,.int .i64 0,.int .i64 0,.int .i64 0,.int .i64 0,.int .i64 0].append [.int .i64 0,.int .i64 0,.int .i64 0,.int .i64 0,.int .i64 0,.int .i64 0,.int .i64 0,.int .i64 0,.int .i64 0,.int .i64 0,.int .i64 0,.int .i64 0,.int .i64 0,.int .i64 0,.int .i64 0,.int .i64 0,.int .i64 0,.int .i64 0,.int .i64 0,.int .i64 0,.int .i64 0,.int .i64 0,.int .i64 0,.int .i64 0,.int .i64 0,.int .i64 0,.int .i64 0,.int .i64 0,.int .i64 0,.int .i64 0,.int .i64 0,.int .i64 0,.int .i64 0]))).toArray)).toList [(0,1),(1,1),(2,1),(3,1),(4,1),(5,1),(6,1),(7,1),(8,1),(9,1),(10,1),(11,1),(12,1),(13,1),(14,1),(15,1),(16,1),(17,1),(18,1),(19,1),(20,1),(21,1),(22,1),(23,1),(24,1),(25,1),(26,1),(27,1),(28,1),(29,1),(30,1),(31,1),(32,1),(33,1),(34,1),(35,1),(36,1),(37,1),(38,1),(39,1),(40,1),(41,1),(42,1),(43,1),(44,1),(45,1),(46,1),(47,1),(48,1),(49,1),(50,1),(51,1),(52,1),(53,1),(54,1),(55,1),(56,1),(57,1),(58,1),(59,1),(60,1),(61,1),(62,1),(63,1),(64,1),(65,1),(66,1),(67,1),(68,1),(69,1),(70,1),(71,1),(72,1),(73,1),(74,1),(75,1),(76,1),(77,1),(78,1),(79,1),(80,1),(81,1),(82,1),(83,1),(84,1),(85,1),(86,1),(87,1),(88,1),(89,1),(90,1),(91,1),(92,1),(93,1),(94,1),(95,1),(96,1),(97,1),(98,1),(99,1),(100,1),(101,1),(102,1),(103,1),(104,1),(105,1),(106,1),(107,1),(108,1),(109,1),(110,1),(111,1),(112,1),(113,1),(114,1),(115,1),(116,1),(117,1),(118,1),(119,1),(120,1),(121,1),(122,1),(123,1),(124,1),(125,1),(126,1),(127,1),(128,1),(129,1),(130,1),(131,1),(132,1),(133,1),(134,1),(135,1),(136,1),(137,1),(138,1),(139,1),(140,1),(141,1),(142,1),(143,1),(144,1),(145,1),(146,1),(147,1),(148,1),(149,1),(150,1),(151,1),(152,1),(153,1),(154,1),(155,1),(156,1),(157,1),(158,1),(159,1),(160,1),(161,1),(162,1),(163,1),(164,1),(165,1),(166,1),(167,1),(168,1),(169,1),(170,1),(171,1),(172,1),(173,1),(174,1),(175,1),(176,1),(177,1),(178,1),(179,1),(180,1),(181,1),(182,1),(183,1),(184,1),(185,1),(186,1),(187,1),(188,1),(189,1),(190,1),(191,1),(192,1),(193,1),(194,1),(195,1),(196,1),(197,1),(198,1),(199,1),(200,1),(201,1),(202,1),(203,1),(204,1),(205,1),(206,1),(207,1),(208,1),(209,1),(210,1),(211,1),(212,1),(213,1),(214,1),(215,1),(216,1),(217,1),(218,1),(219,1),(220,1),(221,1),(222,1),(223,1),(224,1),(225,1),(226,1),(227,1),(228,1),(229,1),(230,1),(231,1),(232,1),(233,1),(234,1),(235,1),(236,1),(237,1),(238,1),(239,1),(240,1),(241,1),(242,1),(243,1),(244,1),(245,1),(246,1),(247,1),(248,1),(249,1),(250,1),(251,1),(252,1),(253,1),(254,1),(255,1),(256,1)]:=⟨by kernel_rfl,by kernel_rfl,by kernel_rfl⟩
@[go_sem] theorem zyJ : Tryz.prog.cellsOf 326 = 31:=by kernel_rfl
theorem zqi : (Tryz.prog.info? 326).bind (fun i=>i.zero.map fun z=>z.cells.toList) = some (Value.cells (Value.agg #[.int .i64 0,.int .i64 0,.int .i64 0,.int .i64 0,.int .i64 0,.int .i64 0,.int .i64 0,.int .i64 0,.int .i64 0,.int .i64 0,.int .i64 0,.int .i64 0,.int .i64 0,.int .i64 0,.int .i64 0,.int .i64 0,.int .i64 0,.int .i64 0,.int .i64 0,.int .i64 0,.int .i64 0,.int .i64 0,.int .i64 0,.int .i64 0,.int .i64 0,.int .i64 0,.int .i64 0,.int .i64 0,.int .i64 0,.int .i64 0,.int .i64 0])).toList:=by kernel_rfl
theorem zth : EO Tryz.prog 326 31 248 (Value.agg #[.int .i64 0,.int .i64 0,.int .i64 0,.int .i64 0,.int .i64 0,.int .i64 0,.int .i64 0,.int .i64 0,.int .i64 0,.int .i64 0,.int .i64 0,.int .i64 0,.int .i64 0,.int .i64 0,.int .i64 0,.int .i64 0,.int .i64 0,.int .i64 0,.int .i64 0,.int .i64 0,.int .i64 0,.int .i64 0,.int .i64 0,.int .i64 0,.int .i64 0,.int .i64 0,.int .i64 0,.int .i64 0,.int .i64 0,.int .i64 0,.int .i64 0]):=⟨by kernel_rfl,rfl,by decide⟩
theorem zqj : BD Tryz.prog 326 (Value.cells (Value.agg #[.int .i64 0,.int .i64 0,.int .i64 0,.int .i64 0,.int .i64 0,.int .i64 0,.int .i64 0,.int .i64 0,.int .i64 0,.int .i64 0,.int .i64 0,.int .i64 0,.int .i64 0,.int .i64 0,.int .i64 0,.int .i64 0,.int .i64 0,.int .i64 0,.int .i64 0,.int .i64 0,.int .i64 0,.int .i64 0,.int .i64 0,.int .i64 0,.int .i64 0,.int .i64 0,.int .i64 0,.int .i64 0,.int .i64 0,.int .i64 0,.int .i64 0])).toList [(0,1),(1,1),(2,1),(3,1),(4,1),(5,1),(6,1),(7,1),(8,1),(9,1),(10,1),(11,1),(12,1),(13,1),(14,1),(15,1),(16,1),(17,1),(18,1),(19,1),(20,1),(21,1),(22,1),(23,1),(24,1),(25,1),(26,1),(27,1),(28,1),(29,1),(30,1)]:=⟨by kernel_rfl,by kernel_rfl,by kernel_rfl⟩
@[go_sem] theorem zyK : Tryz.prog.cellsOf 327 = 352:=by kernel_rfl
set_option maxRecDepth 20000 in
set_option maxRecDepth 20000 in
set_option maxRecDepth 20000 in
@[go_sem] theorem zyL : Tryz.prog.cellsOf 328 = 352:=by kernel_rfl
set_option maxRecDepth 20000 in
theorem zqk : (Tryz.prog.info? 328).bind (fun i=>i.zero.map fun z=>z.cells.toList) = some (Value.cells (Value.agg ((([.bool false,.int .i64 0,.int .i64 0,.int .i64 0,.int .i64 0,.int .i64 0,.int .i64 0,.int .i64 0,.int .i64 0,.int .i64 0,.int .i64 0,.int .i64 0,.int .i64 0,.int .i64 0,.int .i64 0,.int .i64 0,.int .i64 0,.int .i64 0,.int .i64 0,.int .i64 0,.int .i64 0,.int .i64 0,.int .i64 0,.int .i64 0,.int .i64 0,.int .i64 0,.int .i64 0,.int .i64 0,.int .i64 0,.int .i64 0,.int .i64 0,.int .i64 0,.int .i64 0,.int .i64 0,.int .i64 0,.int .i64 0,.int .i64 0,.int .i64 0,.int .i64 0,.int .i64 0,.int .i64 0,.int .i64 0,.int .i64 0,.int .i64 0].append [.int .i64 0,.int .i64 0,.int .i64 0,.int .i64 0,.int .i64 0,.int .i64 0,.int .i64 0,.int .i64 0,.int .i64 0,.int .i64 0,.int .i64 0,.int .i64 0,.int .i64 0,.int .i64 0,.int .i64 0,.int .i64 0,.int .i64 0,.int .i64 0,.int .i64 0,.int .i64 0,.int .i64 0,.int .i64 0,.int .i64 0,.int .i64 0,.int .i64 0,.int .i64 0,.int .i64 0,.int .i64 0,.int .i64 0,.int .i64 0,.int .i64 0,.int .i64 0,.int .i64 0,.int .i64 0,.int .i64 0,.int .i64 0,.int .i64 0,.int .i64 0,.int .i64 0,.int .i64 0,.int .i64 0,.int .i64 0,.int .i64 0,.int .i64 0]).append ([.int .i64 0,.int .i64 0,.int .i64 0,.int .i64 0,.int .i64 0,.int .i64 0,.int .i64 0,.int .i64 0,.int .i64 0,.int .i64 0,.int .i64 0,.int .i64 0,.int .i64 0,.int .i64 0,.int .i64 0,.int .i64 0,.int .i64 0,.int .i64 0,.int .i64 0,.int .i64 0,.int .i64 0,.int .i64 0,.int .i64 0,.int .i64 0,.int .i64 0,.int .i64 0,.int .i64 0,.int .i64 0,.int .i64 0,.int .i64 0,.int .i64 0,.int .i64 0,.int .i64 0,.int .i64 0,.int .i64 0,.int .i64 0,.int .i64 0,.int .i64 0,.int .i64 0,.int .i64 0,.int .i64 0,.int .i64 0,.int .i64 0,.int .i64 0].append [.int .i64 0,.int .i64 0,.int .i64 0,.int .i64 0,.int .i64 0,.int .i64 0,.int .i64 0,.int .i64 0,.int .i64 0,.int .i64 0,.int .i64 0,.int .i64 0,.int .i64 0,.int .i64 0,.int .i64 0,.int .i64 0,.int .i64 0,.int .i64 0,.int .i64 0,.int .i64 0,.int .i64 0,.int .i64 0,.int .i64 0,.int .i64 0,.int .i64 0,.int .i64 0,.int .i64 0,.int .i64 0,.int .i64 0,.int .i64 0,.int .i64 0,.int .i64 0,.int .i64 0,.int .i64 0,.int .i64 0,.int .i64 0,.int .i64 0,.int .i64 0,.int .i64 0,.int .i64 0,.int .i64 0,.int .i64 0,.int .i64 0,.int .i64 0])).append (([.int .i64 0,.int .i64 0,.int .i64 0,.int .i64 0,.int .i64 0,.int .i64 0,.int .i64 0,.int .i64 0,.int .i64 0,.int .i64 0,.int .i64 0,.int .i64 0,.int .i64 0,.int .i64 0,.int .i64 0,.int .i64 0,.int .i64 0,.int .i64 0,.int .i64 0,.int .i64 0,.int .i64 0,.int .i64 0,.int .i64 0,.int .i64 0,.int .i64 0,.int .i64 0,.int .i64 0,.int .i64 0,.int .i64 0,.int .i64 0,.int .i64 0,.int .i64 0,.int .i64 0,.int .i64 0,.int .i64 0,.int .i64 0,.int .i64 0,.int .i64 0,.int .i64 0,.int .i64 0,.int .i64 0,.int .i64 0,.int .i64 0,.int .i64 0].append [.int .i64 0,.int .i64 0,.int .i64 0,.int .i64 0,.int .i64 0,.int .i64 0,.int .i64 0,.int .i64 0,.int .i64 0,.int .i64 0,.int .i64 0,.int .i64 0,.int .i64 0,.int .i64 0,.int .i64 0,.int .i64 0,.int .i64 0,.int .i64 0,.int .i64 0,.int .i64 0,.int .i64 0,.int .i64 0,.int .i64 0,.int .i64 0,.int .i64 0,.int .i64 0,.int .i64 0,.int .i64 0,.int .i64 0,.int .i64 0,.int .i64 0,.int .i64 0,.int .i64 0,.int .i64 0,.int .i64 0,.int .i64 0,.int .i64 0,.int .i64 0,Value.slice none 0 0,.int .i64 0,.int .i64 0,.int .i64 0,.int .i64 0,.int .i64 0]).append ([.int .i64 0,.int .i64 0,.int .i64 0,.int .i64 0,.int .i64 0,.int .i64 0,.int .i64 0,.int .i64 0,.int .i64 0,.int .i64 0,.int .i64 0,.int .i64 0,.int .i64 0,.int .i64 0,.int .i64 0,.int .i64 0,.int .i64 0,.int .i64 0,.int .i64 0,.int .i64 0,.int .i64 0,.int .i64 0,.int .i64 0,.int .i64 0,.int .i64 0,.int .i64 0,.int .i64 0,.int .i64 0,.int .i64 0,.int .i64 0,.int .i64 0,.int .i64 0,.int .i64 0,.int .i64 0,.int .i64 0,.int .i64 0,.int .i64 0,.int .i64 0,.int .i64 0,.int .i64 0,.int .i64 0,.int .i64 0,.int .i64 0,.int .i64 0].append [.int .i64 0,.int .i64 0,.int .i64 0,.int .i64 0,.int .i64 0,.int .i64 0,.int .i64 0,.int .i64 0,.int .i64 0,.int .i64 0,.int .i64 0,.int .i64 0,.int .i64 0,.int .i64 0,.int .i64 0,.int .i64 0,.int .i64 0,.int .i64 0,.int .i64 0,.int .i64 0,.int .i64 0,.int .i64 0,.int .i64 0,.int .i64 0,.int .i64 0,.int .i64 0,.int .i64 0,.int .i64 0,.int .i64 0,.int .i64 0,.int .i64 0,.int .i64 0,.int .i64 0,.int .i64 0,.int .i64 0,.int .i64 0,.int .i64 0,.int .i64 0,.int .i64 0,.int .i64 0,.int .i64 0,.int .i64 0,.int .i64 0,.int .i64 0]))).toArray)).toList:=by kernel_rfl
set_option maxRecDepth 20000 in
theorem zti : EO Tryz.prog 328 352 2832 (Value.agg ((([.bool false,.int .i64 0,.int .i64 0,.int .i64 0,.int .i64 0,.int .i64 0,.int .i64 0,.int .i64 0,.int .i64 0,.int .i64 0,.int .i64 0,.int .i64 0,.int .i64 0,.int .i64 0,.int .i64 0,.int .i64 0,.int .i64 0,.int .i64 0,.int .i64 0,.int .i64 0,.int .i64 0,.int .i64 0,.int .i64 0,.int .i64 0,.int .i64 0,.int .i64 0,.int .i64 0,.int .i64 0,.int .i64 0,.int .i64 0,.int .i64 0,.int .i64 0,.int .i64 0,.int .i64 0,.int .i64 0,.int .i64 0,.int .i64 0,.int .i64 0,.int .i64 0,.int .i64 0,.int .i64 0,.int .i64 0,.int .i64 0,.int .i64 0].append [.int .i64 0,.int .i64 0,.int .i64 0,.int .i64 0,.int .i64 0,.int .i64 0,.int .i64 0,.int .i64 0,.int .i64 0,.int .i64 0,.int .i64 0,.int .i64 0,.int .i64 0,.int .i64 0,.int .i64 0,.int .i64 0,.int .i64 0,.int .i64 0,.int .i64 0,.int .i64 0,.int .i64 0,.int .i64 0,.int .i64 0,.int .i64 0,.int .i64 0,.int .i64 0,.int .i64 0,.int .i64 0,.int .i64 0,.int .i64 0,.int .i64 0,.int .i64 0,.int .i64 0,.int .i64 0,.int .i64 0,.int .i64 0,.int .i64 0,.int .i64 0,.int .i64 0,.int .i64 0,.int .i64 0,.int .i64 0,.int .i64 0,.int .i64 0]).append ([.int .i64 0,.int .i64 0,.int .i64 0,.int .i64 0,.int .i64 0,.int .i64 0,.int .i64 0,.int .i64 0,.int .i64 0,.int .i64 0,.int .i64 0,.int .i64 0,.int .i64 0,.int .i64 0,.int .i64 0,.int .i64 0,.int .i64 0,.int .i64 0,.int .i64 0,.int .i64 0,.int .i64 0,.int .i64 0,.int .i64 0,.int .i64 0,.int .i64 0,.int .i64 0,.int .i64 0,.int .i64 0,.int .i64 0,.int .i64 0,.int .i64 0,.int .i64 0,.int .i64 0,.int .i64 0,.int .i64 0,.int .i64 0,.int .i64 0,.int .i64 0,.int .i64 0,.int .i64 0,.int .i64 0,.int .i64 0,.int .i64 0,.int .i64 0].append [.int .i64 0,.int .i64 0,.int .i64 0,.int .i64 0,.int .i64 0,.int .i64 0,.int .i64 0,.int .i64 0,.int .i64 0,.int .i64 0,.int .i64 0,.int .i64 0,.int .i64 0,.int .i64 0,.int .i64 0,.int .i64 0,.int .i64 0,.int .i64 0,.int .i64 0,.int .i64 0,.int .i64 0,.int .i64 0,.int .i64 0,.int .i64 0,.int .i64 0,.int .i64 0,.int .i64 0,.int .i64 0,.int .i64 0,.int .i64 0,.int .i64 0,.int .i64 0,.int .i64 0,.int .i64 0,.int .i64 0,.int .i64 0,.int .i64 0,.int .i64 0,.int .i64 0,.int .i64 0,.int .i64 0,.int .i64 0,.int .i64 0,.int .i64 0])).append (([.int .i64 0,.int .i64 0,.int .i64 0,.int .i64 0,.int .i64 0,.int .i64 0,.int .i64 0,.int .i64 0,.int .i64 0,.int .i64 0,.int .i64 0,.int .i64 0,.int .i64 0,.int .i64 0,.int .i64 0,.int .i64 0,.int .i64 0,.int .i64 0,.int .i64 0,.int .i64 0,.int .i64 0,.int .i64 0,.int .i64 0,.int .i64 0,.int .i64 0,.int .i64 0,.int .i64 0,.int .i64 0,.int .i64 0,.int .i64 0,.int .i64 0,.int .i64 0,.int .i64 0,.int .i64 0,.int .i64 0,.int .i64 0,.int .i64 0,.int .i64 0,.int .i64 0,.int .i64 0,.int .i64 0,.int .i64 0,.int .i64 0,.int .i64 0].append [.int .i64 0,.int .i64 0,.int .i64 0,.int .i64 0,.int .i64 0,.int .i64 0,.int .i64 0,.int .i64 0,.int .i64 0,.int .i64 0,.int .i64 0,.int .i64 0,.int .i64 0,.int .i64 0,.int .i64 0,.int .i64 0,.int .i64 0,.int .i64 0,.int .i64 0,.int .i64 0,.int .i64 0,.int .i64 0,.int .i64 0,.int .i64 0,.int .i64 0,.int .i64 0,.int .i64 0,.int .i64 0,.int .i64 0,.int .i64 0,.int .i64 0,.int .i64 0,.int .i64 0,.int .i64 0,.int .i64 0,.int .i64 0,.int .i64 0,.int .i64 0,Value.slice none 0 0,.int .i64 0,.int .i64 0,.int .i64 0,.int .i64 0,.int .i64 0]).append ([.int .i64 0,.int .i64 0,.int .i64 0,.int .i64 0,.int .i64 0,.int .i64 0,.int .i64 0,.int .i64 0,.int .i64 0,.int .i64 0,.int .i64 0,.int .i64 0,.int .i64 0,.int .i64 0,.int .i64 0,.int .i64 0,.int .i64 0,.int .i64 0,.int .i64 0,.int .i64 0,.int .i64 0,.int .i64 0,.int .i64 0,.int .i64 0,.int .i64 0,.int .i64 0,.int .i64 0,.int .i64 0,.int .i64 0,.int .i64 0,.int .i64 0,.int .i64 0,.int .i64 0,.int .i64 0,.int .i64 0,.int .i64 0,.int .i64 0,.int .i64 0,.int .i64 0,.int .i64 0,.int .i64 0,.int .i64 0,.int .i64 0,.int .i64 0].append [.int .i64 0,.int .i64 0,.int .i64 0,.int .i64 0,.int .i64 0,.int .i64 0,.int .i64 0,.int .i64 0,.int .i64 0,.int .i64 0,.int .i64 0,.int .i64 0,.int .i64 0,.int .i64 0,.int .i64 0,.int .i64 0,.int .i64 0,.int .i64 0,.int .i64 0,.int .i64 0,.int .i64 0,.int .i64 0,.int .i64 0,.int .i64 0,.int .i64 0,.int .i64 0,.int .i64 0,.int .i64 0,.int .i64 0,.int .i64 0,.int .i64 0,.int .i64 0,.int .i64 0,.int .i64 0,.int .i64 0,.int .i64 0,.int .i64 0,.int .i64 0,.int .i64 0,.int .i64 0,.int .i64 0,.int .i64 0,.int .i64 0,.int .i64 0]))).toArray):=⟨by kernel_rfl,rfl,by decide⟩
set_option maxRecDepth 20000 in
theorem zql : BD Tryz.prog 328 (Value.cells (Value.agg ((([.bool false,.int .i64 0,.int .i64 0,.int .i64 0,.int .i64 0,.int .i64 0,.int .i64 0,.int .i64 0,.int .i64 0,.int .i64 0,.int .i64 0,.int .i64 0,.int .i64 0,.int .i64 0,.int .i64 0,.int .i64 0,.int .i64 0,.int .i64 0,.int .i64 0,.int .i64 0,.int .i64 0,.int .i64 0,.int .i64 0,.int .i64 0,.int .i64 0,.int .i64 0,.int .i64 0,.int .i64 0,.int .i64 0,.int .i64 0,.int .i64 0,.int .i64 0,.int .i64 0,.int .i64 0,.int .i64 0,.int .i64 0,.int .i64 0,.int .i64 0,.int .i64 0,.int .i64 0,.int .i64 0,.int .i64 0,.int .i64 0,.int .i64 0].append [.int .i64 0,.int .i64 0,.int .i64 0,.int .i64 0,.int .i64 0,.int .i64 0,.int .i64 0,.int .i64 0,.int .i64 0,.int .i64 0,.int .i64 0,.int .i64 0,.int .i64 0,.int .i64 0,.int .i64 0,.int .i64 0,.int .i64 0,.int .i64 0,.int .i64 0,.int .i64 0,.int .i64 0,.int .i64 0,.int .i64 0,.int .i64 0,.int .i64 0,.int .i64 0,.int .i64 0,.int .i64 0,.int .i64 0,.int .i64 0,.int .i64 0,.int .i64 0,.int .i64 0,.int .i64 0,.int .i64 0,.int .i64 0,.int .i64 0,.int .i64 0,.int .i64 0,.int .i64 0,.int .i64 0,.int .i64 0,.int .i64 0,.int .i64 0]).append ([.int .i64 0,.int .i64 0,.int .i64 0,.int .i64 0,.int .i64 0,.int .i64 0,.int .i64 0,.int .i64 0,.int .i64 0,.int .i64 0,.int .i64 0,.int .i64 0,.int .i64 0,.int .i64 0,.int .i64 0,.int .i64 0,.int .i64 0,.int .i64 0,.int .i64 0,.int .i64 0,.int .i64 0,.int .i64 0,.int .i64 0,.int .i64 0,.int .i64 0,.int .i64 0,.int .i64 0,.int .i64 0,.int .i64 0,.int .i64 0,.int .i64 0,.int .i64 0,.int .i64 0,.int .i64 0,.int .i64 0,.int .i64 0,.int .i64 0,.int .i64 0,.int .i64 0,.int .i64 0,.int .i64 0,.int .i64 0,.int .i64 0,.int .i64 0].append [.int .i64 0,.int .i64 0,.int .i64 0,.int .i64 0,.int .i64 0,.int .i64 0,.int .i64 0,.int .i64 0,.int .i64 0,.int .i64 0,.int .i64 0,.int .i64 0,.int .i64 0,.int .i64 0,.int .i64 0,.int .i64 0,.int .i64 0,.int .i64 0,.int .i64 0,.int .i64 0,.int .i64 0,.int .i64 0,.int .i64 0,.int .i64 0,.int .i64 0,.int .i64 0,.int .i64 0,.int .i64 0,.int .i64 0,.int .i64 0,.int .i64 0,.int .i64 0,.int .i64 0,.int .i64 0,.int .i64 0,.int .i64 0,.int .i64 0,.int .i64 0,.int .i64 0,.int .i64 0,.int .i64 0,.int .i64 0,.int .i64 0,.int .i64 0])).append (([.int .i64 0,.int .i64 0,.int .i64 0,.int .i64 0,.int .i64 0,.int .i64 0,.int .i64 0,.int .i64 0,.int .i64 0,.int .i64 0,.int .i64 0,.int .i64 0,.int .i64 0,.int .i64 0,.int .i64 0,.int .i64 0,.int .i64 0,.int .i64 0,.int .i64 0,.int .i64 0,.int .i64 0,.int .i64 0,.int .i64 0,.int .i64 0,.int .i64 0,.int .i64 0,.int .i64 0,.int .i64 0,.int .i64 0,.int .i64 0,.int .i64 0,.int .i64 0,.int .i64 0,.int .i64 0,.int .i64 0,.int .i64 0,.int .i64 0,.int .i64 0,.int .i64 0,.int .i64 0,.int .i64 0,.int .i64 0,.int .i64 0,.int .i64 0].append [.int .i64 0,.int .i64 0,.int .i64 0,.int .i64 0,.int .i64 0,.int .i64 0,.int .i64 0,.int .i64 0,.int .i64 0,.int .i64 0,.int .i64 0,.int .i64 0,.int .i64 0,.int .i64 0,.int .i64 0,.int .i64 0,.int .i64 0,.int .i64 0,.int .i64 0,.int .i64 0,.int .i64 0,.int .i64 0,.int .i64 0,.int .i64 0,.int .i64 0,.int .i64 0,.int .i64 0,.int .i64 0,.int .i64 0,.int .i64 0,.int .i64 0,.int .i64 0,.int .i64 0,.int .i64 0,.int .i64 0,.int .i64 0,.int .i64 0,.int .i64 0,Value.slice none 0 0,.int .i64 0,.int .i64 0,.int .i64 0,.int .i64 0,.int .i64 0]).append ([.int .i64 0,.int .i64 0,.int .i64 0,.int .i64 0,.int .i64 0,.int .i64 0,.int .i64 0,.int .i64 0,.int .i64 0,.int .i64 0,.int .i64 0,.int .i64 0,.int .i64 0,.int .i64 0,.int .i64 0,.int .i64 0,.int .i64 0,.int .i64 0,.int .i64 0,.int .i64 0,.int .i64 0,.int .i64 0,.int .i64 0,.int .i64 0,.int .i64 0,.int .i64 0,.int .i64 0,.int .i64 0,.int .i64 0,.int .i64 0,.int .i64 0,.int .i64 0,.int .i64 0,.int .i64 0,.int .i64 0,.int .i64 0,.int .i64 0,.int .i64 0,.int .i64 0,.int .i64 0,.int .i64 0,.int .i64 0,.int .i64 0,.int .i64 0].append [.int .i64 0,.int .i64 0,.int .i64 0,.int .i64 0,.int .i64 0,.int .i64 0,.int .i64 0,.int .i64 0,.int .i64 0,.int .i64 0,.int .i64 0,.int .i64 0,.int .i64 0,.int .i64 0,.int .i64 0,.int .i64 0,.int .i64 0,.int .i64 0,.int .i64 0,.int .i64 0,.int .i64 0,.int .i64 0,.int .i64 0,.int .i64 0,.int .i64 0,.int .i64 0,.int .i64 0,.int .i64 0,.int .i64 0,.int .i64 0,.int .i64 0,.int .i64 0,.int .i64 0,.int .i64 0,.int .i64 0,.int .i64 0,.int .i64 0,.int .i64 0,.int .i64 0,.int .i64 0,.int .i64 0,.int .i64 0,.int .i64 0,.int .i64 0]))).toArray)).toList [(0,1),(1,257),(258,1),(259,31),(290,31),(321,31)]:=⟨by kernel_rfl,by kernel_rfl,by kernel_rfl⟩
@[go_sem] theorem zyM : Tryz.prog.stoodInHeld 328 = false:=by kernel_rfl
@[go_sem] theorem zyN : Tryz.prog.cellsOf 329 = 1:=by kernel_rfl
theorem ztj : EO Tryz.prog 329 1 8 (.pointer none):=⟨by kernel_rfl,rfl,by decide⟩
@[go_sem] theorem zyO : Tryz.prog.cellsOf 330 = 2:=by kernel_rfl
@[go_sem] theorem zyP : Tryz.prog.cellsOf 331 = 2:=by kernel_rfl
@[go_sem] theorem zyQ : Tryz.prog.stoodInHeld 331 = false:=by kernel_rfl
@[go_sem] theorem zyR : Tryz.prog.cellsOf 332 = 1:=by kernel_rfl
@[go_sem] theorem zyS : Tryz.prog.cellsOf 333 = 4:=by kernel_rfl
@[go_sem] theorem zyT : Tryz.prog.cellsOf 334 = 4:=by kernel_rfl
@[go_sem] theorem zyU : Tryz.prog.cellsOf 335 = 0:=by kernel_rfl
@[go_sem] theorem zyV : Tryz.prog.cellsOf 336 = 0:=by kernel_rfl
@[go_sem] theorem zyW : Tryz.prog.cellsOf 337 = 0:=by kernel_rfl
@[go_sem] theorem zyX : Tryz.prog.cellsOf 338 = 1:=by kernel_rfl
@[go_sem] theorem zyY : Tryz.prog.cellsOf 339 = 1:=by kernel_rfl
@[go_sem] theorem zyZ : Tryz.prog.cellsOf 340 = 1:=by kernel_rfl
@[go_sem] theorem zy0 : Tryz.prog.cellsOf 341 = 1:=by kernel_rfl
@[go_sem] theorem zy1 : Tryz.prog.cellsOf 342 = 1:=by kernel_rfl
@[go_sem] theorem zy2 : Tryz.prog.cellsOf 343 = 1:=by kernel_rfl
@[go_sem] theorem zy3 : Tryz.prog.cellsOf 344 = 11:=by kernel_rfl
@[go_sem] theorem zy4 : Tryz.prog.cellsOf 345 = 11:=by kernel_rfl
@[go_sem] theorem zy5 : Tryz.prog.cellsOf 346 = 1:=by kernel_rfl
attribute [go_sem] Tryz.underlying0
attribute [go_sem] Tryz.underlying1
attribute [go_sem] Tryz.underlying2
attribute [go_sem] Tryz.underlying3
attribute [go_sem] Tryz.underlying4
attribute [go_sem] Tryz.underlying5
attribute [go_sem] Tryz.underlying6
attribute [go_sem] Tryz.underlying7
attribute [go_sem] Tryz.underlying8
attribute [go_sem] Tryz.underlying9
attribute [go_sem] Tryz.underlying10
attribute [go_sem] Tryz.underlying11
attribute [go_sem] Tryz.underlying12
attribute [go_sem] Tryz.underlying13
attribute [go_sem] Tryz.underlying14
attribute [go_sem] Tryz.underlying15
attribute [go_sem] Tryz.underlying16
attribute [go_sem] Tryz.underlying17
attribute [go_sem] Tryz.underlying18
attribute [go_sem] Tryz.underlying19
attribute [go_sem] Tryz.underlying20
attribute [go_sem] Tryz.underlying21
attribute [go_sem] Tryz.underlying22
attribute [go_sem] Tryz.underlying23
attribute [go_sem] Tryz.underlying24
attribute [go_sem] Tryz.underlying25
attribute [go_sem] Tryz.underlying26
attribute [go_sem] Tryz.underlying27
attribute [go_sem] Tryz.underlying28
attribute [go_sem] Tryz.underlying29
attribute [go_sem] Tryz.underlying30
attribute [go_sem] Tryz.underlying31
attribute [go_sem] Tryz.underlying32
attribute [go_sem] Tryz.underlying33
attribute [go_sem] Tryz.underlying34
attribute [go_sem] Tryz.underlying35
attribute [go_sem] Tryz.underlying36
attribute [go_sem] Tryz.underlying37
attribute [go_sem] Tryz.underlying38
attribute [go_sem] Tryz.underlying39
attribute [go_sem] Tryz.underlying40
attribute [go_sem] Tryz.underlying41
attribute [go_sem] Tryz.underlying42
attribute [go_sem] Tryz.underlying43
attribute [go_sem] Tryz.underlying44
attribute [go_sem] Tryz.underlying45
attribute [go_sem] Tryz.underlying46
attribute [go_sem] Tryz.underlying47
attribute [go_sem] Tryz.underlying48
attribute [go_sem] Tryz.underlying49
attribute [go_sem] Tryz.underlying50
attribute [go_sem] Tryz.underlying51
attribute [go_sem] Tryz.underlying52
attribute [go_sem] Tryz.underlying53
attribute [go_sem] Tryz.underlying54
attribute [go_sem] Tryz.underlying55
attribute [go_sem] Tryz.underlying56
attribute [go_sem] Tryz.underlying57
attribute [go_sem] Tryz.underlying58
attribute [go_sem] Tryz.underlying59
attribute [go_sem] Tryz.underlying60
attribute [go_sem] Tryz.underlying61
attribute [go_sem] Tryz.underlying62
attribute [go_sem] Tryz.underlying63
attribute [go_sem] Tryz.underlying64
attribute [go_sem] Tryz.underlying65
attribute [go_sem] Tryz.underlying66
attribute [go_sem] Tryz.underlying67
attribute [go_sem] Tryz.underlying68
attribute [go_sem] Tryz.underlying69
attribute [go_sem] Tryz.underlying70
attribute [go_sem] Tryz.underlying71
attribute [go_sem] Tryz.underlying72
attribute [go_sem] Tryz.underlying73
attribute [go_sem] Tryz.underlying74
attribute [go_sem] Tryz.underlying75
attribute [go_sem] Tryz.underlying76
attribute [go_sem] Tryz.underlying77
attribute [go_sem] Tryz.underlying78
attribute [go_sem] Tryz.underlying79
attribute [go_sem] Tryz.underlying80
attribute [go_sem] Tryz.underlying81
attribute [go_sem] Tryz.underlying82
attribute [go_sem] Tryz.underlying83
attribute [go_sem] Tryz.underlying84
attribute [go_sem] Tryz.underlying85
attribute [go_sem] Tryz.underlying86
attribute [go_sem] Tryz.underlying87
attribute [go_sem] Tryz.underlying88
attribute [go_sem] Tryz.underlying89
attribute [go_sem] Tryz.underlying90
attribute [go_sem] Tryz.underlying91
attribute [go_sem] Tryz.underlying92
attribute [go_sem] Tryz.underlying93
attribute [go_sem] Tryz.underlying94
attribute [go_sem] Tryz.underlying95
attribute [go_sem] Tryz.underlying96
attribute [go_sem] Tryz.underlying97
attribute [go_sem] Tryz.underlying98
attribute [go_sem] Tryz.underlying99
attribute [go_sem] Tryz.underlying100
attribute [go_sem] Tryz.underlying101
attribute [go_sem] Tryz.underlying102
attribute [go_sem] Tryz.underlying103
attribute [go_sem] Tryz.underlying104
attribute [go_sem] Tryz.underlying105
attribute [go_sem] Tryz.underlying106
attribute [go_sem] Tryz.underlying107
attribute [go_sem] Tryz.underlying108
attribute [go_sem] Tryz.underlying109
attribute [go_sem] Tryz.underlying110
attribute [go_sem] Tryz.underlying111
attribute [go_sem] Tryz.underlying112
attribute [go_sem] Tryz.underlying113
attribute [go_sem] Tryz.underlying114
attribute [go_sem] Tryz.underlying115
attribute [go_sem] Tryz.underlying116
attribute [go_sem] Tryz.underlying117
attribute [go_sem] Tryz.underlying118
attribute [go_sem] Tryz.underlying119
attribute [go_sem] Tryz.underlying120
attribute [go_sem] Tryz.underlying121
attribute [go_sem] Tryz.underlying122
attribute [go_sem] Tryz.underlying123
attribute [go_sem] Tryz.underlying124
attribute [go_sem] Tryz.underlying125
attribute [go_sem] Tryz.underlying126
attribute [go_sem] Tryz.underlying127
attribute [go_sem] Tryz.underlying128
attribute [go_sem] Tryz.underlying129
attribute [go_sem] Tryz.underlying130
attribute [go_sem] Tryz.underlying131
attribute [go_sem] Tryz.underlying132
attribute [go_sem] Tryz.underlying133
attribute [go_sem] Tryz.underlying134
attribute [go_sem] Tryz.underlying135
attribute [go_sem] Tryz.underlying136
attribute [go_sem] Tryz.underlying137
attribute [go_sem] Tryz.underlying138
attribute [go_sem] Tryz.underlying139
attribute [go_sem] Tryz.underlying140
attribute [go_sem] Tryz.underlying141
attribute [go_sem] Tryz.underlying142
attribute [go_sem] Tryz.underlying143
attribute [go_sem] Tryz.underlying144
attribute [go_sem] Tryz.underlying145
attribute [go_sem] Tryz.underlying146
attribute [go_sem] Tryz.underlying147
attribute [go_sem] Tryz.underlying148
attribute [go_sem] Tryz.underlying149
attribute [go_sem] Tryz.underlying150
attribute [go_sem] Tryz.underlying151
attribute [go_sem] Tryz.underlying152
attribute [go_sem] Tryz.underlying153
attribute [go_sem] Tryz.underlying154
attribute [go_sem] Tryz.underlying155
attribute [go_sem] Tryz.underlying156
attribute [go_sem] Tryz.underlying157
attribute [go_sem] Tryz.underlying158
attribute [go_sem] Tryz.underlying159
attribute [go_sem] Tryz.underlying160
attribute [go_sem] Tryz.underlying161
attribute [go_sem] Tryz.underlying162
attribute [go_sem] Tryz.underlying163
attribute [go_sem] Tryz.underlying164
attribute [go_sem] Tryz.underlying165
attribute [go_sem] Tryz.underlying166
attribute [go_sem] Tryz.underlying167
attribute [go_sem] Tryz.underlying168
attribute [go_sem] Tryz.underlying169
attribute [go_sem] Tryz.underlying170
attribute [go_sem] Tryz.underlying171
attribute [go_sem] Tryz.underlying172
attribute [go_sem] Tryz.underlying173
attribute [go_sem] Tryz.underlying174
attribute [go_sem] Tryz.underlying175
attribute [go_sem] Tryz.underlying176
attribute [go_sem] Tryz.underlying177
attribute [go_sem] Tryz.underlying178
attribute [go_sem] Tryz.underlying179
attribute [go_sem] Tryz.underlying180
attribute [go_sem] Tryz.underlying181
attribute [go_sem] Tryz.underlying182
attribute [go_sem] Tryz.underlying183
attribute [go_sem] Tryz.underlying184
attribute [go_sem] Tryz.underlying185
attribute [go_sem] Tryz.underlying186
attribute [go_sem] Tryz.underlying187
attribute [go_sem] Tryz.underlying188
attribute [go_sem] Tryz.underlying189
attribute [go_sem] Tryz.underlying190
attribute [go_sem] Tryz.underlying191
attribute [go_sem] Tryz.underlying192
attribute [go_sem] Tryz.underlying193
attribute [go_sem] Tryz.underlying194
attribute [go_sem] Tryz.underlying195
attribute [go_sem] Tryz.underlying196
attribute [go_sem] Tryz.underlying197
attribute [go_sem] Tryz.underlying198
attribute [go_sem] Tryz.underlying199
attribute [go_sem] Tryz.underlying200
attribute [go_sem] Tryz.underlying201
attribute [go_sem] Tryz.underlying202
attribute [go_sem] Tryz.underlying203
attribute [go_sem] Tryz.underlying204
attribute [go_sem] Tryz.underlying205
attribute [go_sem] Tryz.underlying206
attribute [go_sem] Tryz.underlying207
attribute [go_sem] Tryz.underlying208
attribute [go_sem] Tryz.underlying209
attribute [go_sem] Tryz.underlying210
attribute [go_sem] Tryz.underlying211
attribute [go_sem] Tryz.underlying212
attribute [go_sem] Tryz.underlying213
attribute [go_sem] Tryz.underlying214
attribute [go_sem] Tryz.underlying215
attribute [go_sem] Tryz.underlying216
attribute [go_sem] Tryz.underlying217
attribute [go_sem] Tryz.underlying218
attribute [go_sem] Tryz.underlying219
attribute [go_sem] Tryz.underlying220
attribute [go_sem] Tryz.underlying221
attribute [go_sem] Tryz.underlying222
attribute [go_sem] Tryz.underlying223
attribute [go_sem] Tryz.underlying224
attribute [go_sem] Tryz.underlying225
attribute [go_sem] Tryz.underlying226
attribute [go_sem] Tryz.underlying227
attribute [go_sem] Tryz.underlying228
attribute [go_sem] Tryz.underlying229
attribute [go_sem] Tryz.underlying230
attribute [go_sem] Tryz.underlying231
attribute [go_sem] Tryz.underlying232
attribute [go_sem] Tryz.underlying233
attribute [go_sem] Tryz.underlying234
attribute [go_sem] Tryz.underlying235
attribute [go_sem] Tryz.underlying236
attribute [go_sem] Tryz.underlying237
attribute [go_sem] Tryz.underlying238
attribute [go_sem] Tryz.underlying239
attribute [go_sem] Tryz.underlying240
attribute [go_sem] Tryz.underlying241
attribute [go_sem] Tryz.underlying242
attribute [go_sem] Tryz.underlying243
attribute [go_sem] Tryz.underlying244
attribute [go_sem] Tryz.underlying245
attribute [go_sem] Tryz.underlying246
attribute [go_sem] Tryz.underlying247
attribute [go_sem] Tryz.underlying248
attribute [go_sem] Tryz.underlying249
attribute [go_sem] Tryz.underlying250
attribute [go_sem] Tryz.underlying251
attribute [go_sem] Tryz.underlying252
attribute [go_sem] Tryz.underlying253
attribute [go_sem] Tryz.underlying254
attribute [go_sem] Tryz.underlying255
attribute [go_sem] Tryz.underlying256
attribute [go_sem] Tryz.underlying257
attribute [go_sem] Tryz.underlying258
attribute [go_sem] Tryz.underlying259
attribute [go_sem] Tryz.underlying260
attribute [go_sem] Tryz.underlying261
attribute [go_sem] Tryz.underlying262
attribute [go_sem] Tryz.underlying263
attribute [go_sem] Tryz.underlying264
attribute [go_sem] Tryz.underlying265
attribute [go_sem] Tryz.underlying266
attribute [go_sem] Tryz.underlying267
attribute [go_sem] Tryz.underlying268
attribute [go_sem] Tryz.underlying269
attribute [go_sem] Tryz.underlying270
attribute [go_sem] Tryz.underlying271
attribute [go_sem] Tryz.underlying272
attribute [go_sem] Tryz.underlying273
attribute [go_sem] Tryz.underlying274
attribute [go_sem] Tryz.underlying275
attribute [go_sem] Tryz.underlying276
attribute [go_sem] Tryz.underlying277
attribute [go_sem] Tryz.underlying278
attribute [go_sem] Tryz.underlying279
attribute [go_sem] Tryz.underlying280
attribute [go_sem] Tryz.underlying281
attribute [go_sem] Tryz.underlying282
attribute [go_sem] Tryz.underlying283
attribute [go_sem] Tryz.underlying284
attribute [go_sem] Tryz.underlying285
attribute [go_sem] Tryz.underlying286
attribute [go_sem] Tryz.underlying287
attribute [go_sem] Tryz.underlying288
attribute [go_sem] Tryz.underlying289
attribute [go_sem] Tryz.underlying290
attribute [go_sem] Tryz.underlying291
attribute [go_sem] Tryz.underlying292
attribute [go_sem] Tryz.underlying293
attribute [go_sem] Tryz.underlying294
attribute [go_sem] Tryz.underlying295
attribute [go_sem] Tryz.underlying296
attribute [go_sem] Tryz.underlying297
attribute [go_sem] Tryz.underlying298
attribute [go_sem] Tryz.underlying299
attribute [go_sem] Tryz.underlying300
attribute [go_sem] Tryz.underlying301
attribute [go_sem] Tryz.underlying302
attribute [go_sem] Tryz.underlying303
attribute [go_sem] Tryz.underlying304
attribute [go_sem] Tryz.underlying305
attribute [go_sem] Tryz.underlying306
attribute [go_sem] Tryz.underlying307
attribute [go_sem] Tryz.underlying308
attribute [go_sem] Tryz.underlying309
attribute [go_sem] Tryz.underlying310
attribute [go_sem] Tryz.underlying311
attribute [go_sem] Tryz.underlying312
attribute [go_sem] Tryz.underlying313
attribute [go_sem] Tryz.underlying314
attribute [go_sem] Tryz.underlying315
attribute [go_sem] Tryz.underlying316
attribute [go_sem] Tryz.underlying317
attribute [go_sem] Tryz.underlying318
attribute [go_sem] Tryz.underlying319
attribute [go_sem] Tryz.underlying320
attribute [go_sem] Tryz.underlying321
attribute [go_sem] Tryz.underlying322
attribute [go_sem] Tryz.underlying323
attribute [go_sem] Tryz.underlying324
attribute [go_sem] Tryz.underlying325
attribute [go_sem] Tryz.underlying326
attribute [go_sem] Tryz.underlying327
attribute [go_sem] Tryz.underlying328
attribute [go_sem] Tryz.underlying329
attribute [go_sem] Tryz.underlying330
attribute [go_sem] Tryz.underlying331
attribute [go_sem] Tryz.underlying332
attribute [go_sem] Tryz.underlying333
attribute [go_sem] Tryz.underlying334
attribute [go_sem] Tryz.underlying335
attribute [go_sem] Tryz.underlying336
attribute [go_sem] Tryz.underlying337
attribute [go_sem] Tryz.underlying338
attribute [go_sem] Tryz.underlying339
attribute [go_sem] Tryz.underlying340
attribute [go_sem] Tryz.underlying341
attribute [go_sem] Tryz.underlying342
attribute [go_sem] Tryz.underlying343
attribute [go_sem] Tryz.underlying344
attribute [go_sem] Tryz.underlying345
attribute [go_sem] Tryz.underlying346
@[go_sem] theorem zux : zfD 0 = .ip false [.lit (.int .i64 0),.lit (.int .i64 0),.lit (.int .i64 128),.lit (.int .i64 7),.lit (.int .i64 64),.lit (.int .i64 6),.lit (.int .i64 0),.lit (.int .i64 4),.lit (.int .i64 16),.lit (.int .i64 4),.lit (.int .i64 32),.lit (.int .i64 5)]:=rfl
end Go.Proofs.YtdalcgfnlbofdaaGreatDoor
