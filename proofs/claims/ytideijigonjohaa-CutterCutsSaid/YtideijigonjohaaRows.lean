/-
  No cell of these rows narrows 'for every input' (looked for: loops, veiled, ifaces, maps, wideKeys, modest, calm, conditions, laid).
  DERIVED. THE GIVEN ROWS OF THIS SEAT. 20 by the template 'for every input the law returns true; each argument reads behind the call as it read before'; 0 by the template 'total and deterministic' (their statements: YtideijigonjohaaTotals.lean).
  GIVEN WITH THE SEED: the statements are not yours to turn. If you find one false, say at which input.
  Laid BY PROGRAM, IN A SANDBOX (cutbox-rows.mjs): the forced cells as the released guide's own fill.sh prints them over the translation 6aaec27a89a10339… (all of the seat's roots in one cut). By AI agents, Wed Nov 11 2026. No macro, syntax, notation, axiom, sorry.
-/
import Derived.Test.YtideijigonjohaaChecked
import GoSem.Claim
import GoSem.ClaimJoined
import GoSem.ClaimMapViews
import Derived.JoinedTies
import Derived.KernelRfl
namespace Go.Proofs.Ytideijigonjohaa
/- THE CELL 'sum', in the pinned program and in every row, IS THE sha256 OF THE DUMP (.gsa) THAT YtideijigonjohaaProg.lean LOADS. Nothing in Lean hashes anything: it is a label: what it is worth is what the hold of that sum in a sandbox is worth. -/
noncomputable def Try.pinned : Pinned := { name := "ytideijigonjohaa", sum := "6aaec27a89a103392eaa7764425025ad0a89d97d27ff124391c49bc67f842296", checked := Try.checked }
namespace Rows
def none {H : Type} : Left H := { results := [], args := [] }

/-- 'sticklerlaw13.SettingChecks': WHATEVER THE INPUT: true; the input reads as it did. -/
def settingChecksSpec : ChangeSpec := { name := "settingChecks", fn := fun _ => fun
  | [d1, d2] => { results := [.lit (.bool true)], args := [d1, d2] }
  | _ => none }
def settingChecksRow : OpenClaim := { program := "ytideijigonjohaa", sum := "6aaec27a89a103392eaa7764425025ad0a89d97d27ff124391c49bc67f842296", func := "stickler/sticklerlaw13.SettingChecks", spec := "settingChecks", apart := false }
def SettingChecksSaid : Prop := settingChecksRow.holds Try.pinned (OpenSpec.ofChange settingChecksSpec)

/-- ITS FALSE NEIGHBOUR: 'it returns false'. Refute it at one input. -/
def settingChecksWrong : ChangeSpec := { name := "settingChecks", fn := fun _ => fun
  | [d1, d2] => { results := [.lit (.bool false)], args := [d1, d2] }
  | _ => none }
def SettingChecksWrongFalsely : Prop := settingChecksRow.holds Try.pinned (OpenSpec.ofChange settingChecksWrong)

/-- 'sticklerlaw13.SettingApplies': WHATEVER THE INPUT: true; the input reads as it did. -/
def settingAppliesSpec : ChangeSpec := { name := "settingApplies", fn := fun _ => fun
  | [d1, d2, d3] => { results := [.lit (.bool true)], args := [d1, d2, d3] }
  | _ => none }
def settingAppliesRow : OpenClaim := { program := "ytideijigonjohaa", sum := "6aaec27a89a103392eaa7764425025ad0a89d97d27ff124391c49bc67f842296", func := "stickler/sticklerlaw13.SettingApplies", spec := "settingApplies", apart := false }
def SettingAppliesSaid : Prop := settingAppliesRow.holds Try.pinned (OpenSpec.ofChange settingAppliesSpec)

/-- ITS FALSE NEIGHBOUR: 'it returns false'. Refute it at one input. -/
def settingAppliesWrong : ChangeSpec := { name := "settingApplies", fn := fun _ => fun
  | [d1, d2, d3] => { results := [.lit (.bool false)], args := [d1, d2, d3] }
  | _ => none }
def SettingAppliesWrongFalsely : Prop := settingAppliesRow.holds Try.pinned (OpenSpec.ofChange settingAppliesWrong)

/-- 'sticklerlaw13.SettingParses': WHATEVER THE INPUT: true; the input reads as it did. -/
def settingParsesSpec : ChangeSpec := { name := "settingParses", fn := fun _ => fun
  | [d] => { results := [.lit (.bool true)], args := [d] }
  | _ => none }
def settingParsesRow : OpenClaim := { program := "ytideijigonjohaa", sum := "6aaec27a89a103392eaa7764425025ad0a89d97d27ff124391c49bc67f842296", func := "stickler/sticklerlaw13.SettingParses", spec := "settingParses", apart := false }
def SettingParsesSaid : Prop := settingParsesRow.holds Try.pinned (OpenSpec.ofChange settingParsesSpec)

/-- ITS FALSE NEIGHBOUR: 'it returns false'. Refute it at one input. -/
def settingParsesWrong : ChangeSpec := { name := "settingParses", fn := fun _ => fun
  | [d] => { results := [.lit (.bool false)], args := [d] }
  | _ => none }
def SettingParsesWrongFalsely : Prop := settingParsesRow.holds Try.pinned (OpenSpec.ofChange settingParsesWrong)

/-- 'sticklerlaw13.SettingPuts': WHATEVER THE INPUT: true; the input reads as it did. -/
def settingPutsSpec : ChangeSpec := { name := "settingPuts", fn := fun _ => fun
  | [d] => { results := [.lit (.bool true)], args := [d] }
  | _ => none }
def settingPutsRow : OpenClaim := { program := "ytideijigonjohaa", sum := "6aaec27a89a103392eaa7764425025ad0a89d97d27ff124391c49bc67f842296", func := "stickler/sticklerlaw13.SettingPuts", spec := "settingPuts", apart := false }
def SettingPutsSaid : Prop := settingPutsRow.holds Try.pinned (OpenSpec.ofChange settingPutsSpec)

/-- ITS FALSE NEIGHBOUR: 'it returns false'. Refute it at one input. -/
def settingPutsWrong : ChangeSpec := { name := "settingPuts", fn := fun _ => fun
  | [d] => { results := [.lit (.bool false)], args := [d] }
  | _ => none }
def SettingPutsWrongFalsely : Prop := settingPutsRow.holds Try.pinned (OpenSpec.ofChange settingPutsWrong)

/-- 'sticklerlaw21.DyntabBounds': WHATEVER THE INPUT: true; the input reads as it did. -/
def dyntabBoundsSpec : ChangeSpec := { name := "dyntabBounds", fn := fun _ => fun
  | [d1, d2] => { results := [.lit (.bool true)], args := [d1, d2] }
  | _ => none }
def dyntabBoundsRow : OpenClaim := { program := "ytideijigonjohaa", sum := "6aaec27a89a103392eaa7764425025ad0a89d97d27ff124391c49bc67f842296", func := "stickler/sticklerlaw21.DyntabBounds", spec := "dyntabBounds", apart := false }
def DyntabBoundsSaid : Prop := dyntabBoundsRow.holds Try.pinned (OpenSpec.ofChange dyntabBoundsSpec)

/-- ITS FALSE NEIGHBOUR: 'it returns false'. Refute it at one input. -/
def dyntabBoundsWrong : ChangeSpec := { name := "dyntabBounds", fn := fun _ => fun
  | [d1, d2] => { results := [.lit (.bool false)], args := [d1, d2] }
  | _ => none }
def DyntabBoundsWrongFalsely : Prop := dyntabBoundsRow.holds Try.pinned (OpenSpec.ofChange dyntabBoundsWrong)

/-- 'sticklerlaw32.PendingPlays': WHATEVER THE INPUT: true; the input reads as it did. -/
def pendingPlaysSpec : ChangeSpec := { name := "pendingPlays", fn := fun _ => fun
  | [d] => { results := [.lit (.bool true)], args := [d] }
  | _ => none }
def pendingPlaysRow : OpenClaim := { program := "ytideijigonjohaa", sum := "6aaec27a89a103392eaa7764425025ad0a89d97d27ff124391c49bc67f842296", func := "stickler/sticklerlaw32.PendingPlays", spec := "pendingPlays", apart := false }
def PendingPlaysSaid : Prop := pendingPlaysRow.holds Try.pinned (OpenSpec.ofChange pendingPlaysSpec)

/-- ITS FALSE NEIGHBOUR: 'it returns false'. Refute it at one input. -/
def pendingPlaysWrong : ChangeSpec := { name := "pendingPlays", fn := fun _ => fun
  | [d] => { results := [.lit (.bool false)], args := [d] }
  | _ => none }
def PendingPlaysWrongFalsely : Prop := pendingPlaysRow.holds Try.pinned (OpenSpec.ofChange pendingPlaysWrong)

/-- 'sticklerlaw32.PendingBounds': WHATEVER THE INPUT: true; the input reads as it did. -/
def pendingBoundsSpec : ChangeSpec := { name := "pendingBounds", fn := fun _ => fun
  | [d] => { results := [.lit (.bool true)], args := [d] }
  | _ => none }
def pendingBoundsRow : OpenClaim := { program := "ytideijigonjohaa", sum := "6aaec27a89a103392eaa7764425025ad0a89d97d27ff124391c49bc67f842296", func := "stickler/sticklerlaw32.PendingBounds", spec := "pendingBounds", apart := false }
def PendingBoundsSaid : Prop := pendingBoundsRow.holds Try.pinned (OpenSpec.ofChange pendingBoundsSpec)

/-- ITS FALSE NEIGHBOUR: 'it returns false'. Refute it at one input. -/
def pendingBoundsWrong : ChangeSpec := { name := "pendingBounds", fn := fun _ => fun
  | [d] => { results := [.lit (.bool false)], args := [d] }
  | _ => none }
def PendingBoundsWrongFalsely : Prop := pendingBoundsRow.holds Try.pinned (OpenSpec.ofChange pendingBoundsWrong)

/-- 'sticklerlaw32.PendingNobody': WHATEVER THE INPUT: true; the input reads as it did. -/
def pendingNobodySpec : ChangeSpec := { name := "pendingNobody", fn := fun _ => fun
  | [d] => { results := [.lit (.bool true)], args := [d] }
  | _ => none }
def pendingNobodyRow : OpenClaim := { program := "ytideijigonjohaa", sum := "6aaec27a89a103392eaa7764425025ad0a89d97d27ff124391c49bc67f842296", func := "stickler/sticklerlaw32.PendingNobody", spec := "pendingNobody", apart := false }
def PendingNobodySaid : Prop := pendingNobodyRow.holds Try.pinned (OpenSpec.ofChange pendingNobodySpec)

/-- ITS FALSE NEIGHBOUR: 'it returns false'. Refute it at one input. -/
def pendingNobodyWrong : ChangeSpec := { name := "pendingNobody", fn := fun _ => fun
  | [d] => { results := [.lit (.bool false)], args := [d] }
  | _ => none }
def PendingNobodyWrongFalsely : Prop := pendingNobodyRow.holds Try.pinned (OpenSpec.ofChange pendingNobodyWrong)

/-- 'sticklerlaw07.HeadPuts': WHATEVER THE INPUT: true; the input reads as it did. -/
def headPutsSpec : ChangeSpec := { name := "headPuts", fn := fun _ => fun
  | [d] => { results := [.lit (.bool true)], args := [d] }
  | _ => none }
def headPutsRow : OpenClaim := { program := "ytideijigonjohaa", sum := "6aaec27a89a103392eaa7764425025ad0a89d97d27ff124391c49bc67f842296", func := "stickler/sticklerlaw07.HeadPuts", spec := "headPuts", apart := false }
def HeadPutsSaid : Prop := headPutsRow.holds Try.pinned (OpenSpec.ofChange headPutsSpec)

/-- ITS FALSE NEIGHBOUR: 'it returns false'. Refute it at one input. -/
def headPutsWrong : ChangeSpec := { name := "headPuts", fn := fun _ => fun
  | [d] => { results := [.lit (.bool false)], args := [d] }
  | _ => none }
def HeadPutsWrongFalsely : Prop := headPutsRow.holds Try.pinned (OpenSpec.ofChange headPutsWrong)

/-- 'sticklerlaw07.HeadGets': WHATEVER THE INPUT: true; the input reads as it did. -/
def headGetsSpec : ChangeSpec := { name := "headGets", fn := fun _ => fun
  | [d] => { results := [.lit (.bool true)], args := [d] }
  | _ => none }
def headGetsRow : OpenClaim := { program := "ytideijigonjohaa", sum := "6aaec27a89a103392eaa7764425025ad0a89d97d27ff124391c49bc67f842296", func := "stickler/sticklerlaw07.HeadGets", spec := "headGets", apart := false }
def HeadGetsSaid : Prop := headGetsRow.holds Try.pinned (OpenSpec.ofChange headGetsSpec)

/-- ITS FALSE NEIGHBOUR: 'it returns false'. Refute it at one input. -/
def headGetsWrong : ChangeSpec := { name := "headGets", fn := fun _ => fun
  | [d] => { results := [.lit (.bool false)], args := [d] }
  | _ => none }
def HeadGetsWrongFalsely : Prop := headGetsRow.holds Try.pinned (OpenSpec.ofChange headGetsWrong)

/-- 'sticklerlaw21.DyntabPlays': WHATEVER THE INPUT: true; the input reads as it did. -/
def dyntabPlaysSpec : ChangeSpec := { name := "dyntabPlays", fn := fun _ => fun
  | [d1, d2] => { results := [.lit (.bool true)], args := [d1, d2] }
  | _ => none }
def dyntabPlaysRow : OpenClaim := { program := "ytideijigonjohaa", sum := "6aaec27a89a103392eaa7764425025ad0a89d97d27ff124391c49bc67f842296", func := "stickler/sticklerlaw21.DyntabPlays", spec := "dyntabPlays", apart := false }
def DyntabPlaysSaid : Prop := dyntabPlaysRow.holds Try.pinned (OpenSpec.ofChange dyntabPlaysSpec)

/-- ITS FALSE NEIGHBOUR: 'it returns false'. Refute it at one input. -/
def dyntabPlaysWrong : ChangeSpec := { name := "dyntabPlays", fn := fun _ => fun
  | [d1, d2] => { results := [.lit (.bool false)], args := [d1, d2] }
  | _ => none }
def DyntabPlaysWrongFalsely : Prop := dyntabPlaysRow.holds Try.pinned (OpenSpec.ofChange dyntabPlaysWrong)

/-- 'sticklerlaw45.SpecRight': WHATEVER THE INPUT: true; the input reads as it did. -/
def specRightSpec : ChangeSpec := { name := "specRight", fn := fun _ => fun
  | [d1, d2] => { results := [.lit (.bool true)], args := [d1, d2] }
  | _ => none }
def specRightRow : OpenClaim := { program := "ytideijigonjohaa", sum := "6aaec27a89a103392eaa7764425025ad0a89d97d27ff124391c49bc67f842296", func := "stickler/sticklerlaw45.SpecRight", spec := "specRight", unfollowed := true, recurses := true, apart := false }
def SpecRightSaid : Prop := specRightRow.holds Try.pinned (OpenSpec.ofChange specRightSpec)

/-- ITS FALSE NEIGHBOUR: 'it returns false'. Refute it at one input. -/
def specRightWrong : ChangeSpec := { name := "specRight", fn := fun _ => fun
  | [d1, d2] => { results := [.lit (.bool false)], args := [d1, d2] }
  | _ => none }
def SpecRightWrongFalsely : Prop := specRightRow.holds Try.pinned (OpenSpec.ofChange specRightWrong)

/-- 'sticklerlaw21.DyntabCopies': WHATEVER THE INPUT: true; the input reads as it did. -/
def dyntabCopiesSpec : ChangeSpec := { name := "dyntabCopies", fn := fun _ => fun
  | [d1, d2] => { results := [.lit (.bool true)], args := [d1, d2] }
  | _ => none }
def dyntabCopiesRow : OpenClaim := { program := "ytideijigonjohaa", sum := "6aaec27a89a103392eaa7764425025ad0a89d97d27ff124391c49bc67f842296", func := "stickler/sticklerlaw21.DyntabCopies", spec := "dyntabCopies", apart := false }
def DyntabCopiesSaid : Prop := dyntabCopiesRow.holds Try.pinned (OpenSpec.ofChange dyntabCopiesSpec)

/-- ITS FALSE NEIGHBOUR: 'it returns false'. Refute it at one input. -/
def dyntabCopiesWrong : ChangeSpec := { name := "dyntabCopies", fn := fun _ => fun
  | [d1, d2] => { results := [.lit (.bool false)], args := [d1, d2] }
  | _ => none }
def DyntabCopiesWrongFalsely : Prop := dyntabCopiesRow.holds Try.pinned (OpenSpec.ofChange dyntabCopiesWrong)

/-- 'sticklerlaw07.HeadBytes': WHATEVER THE INPUT: true; the input reads as it did. -/
def headBytesSpec : ChangeSpec := { name := "headBytes", fn := fun _ => fun
  | [d] => { results := [.lit (.bool true)], args := [d] }
  | _ => none }
def headBytesRow : OpenClaim := { program := "ytideijigonjohaa", sum := "6aaec27a89a103392eaa7764425025ad0a89d97d27ff124391c49bc67f842296", func := "stickler/sticklerlaw07.HeadBytes", spec := "headBytes", apart := false }
def HeadBytesSaid : Prop := headBytesRow.holds Try.pinned (OpenSpec.ofChange headBytesSpec)

/-- ITS FALSE NEIGHBOUR: 'it returns false'. Refute it at one input. -/
def headBytesWrong : ChangeSpec := { name := "headBytes", fn := fun _ => fun
  | [d] => { results := [.lit (.bool false)], args := [d] }
  | _ => none }
def HeadBytesWrongFalsely : Prop := headBytesRow.holds Try.pinned (OpenSpec.ofChange headBytesWrong)

/-- 'sticklerlaw45.SpecBuilds': WHATEVER THE INPUT: true; the input reads as it did. -/
def specBuildsSpec : ChangeSpec := { name := "specBuilds", fn := fun _ => fun
  | [d] => { results := [.lit (.bool true)], args := [d] }
  | _ => none }
def specBuildsRow : OpenClaim := { program := "ytideijigonjohaa", sum := "6aaec27a89a103392eaa7764425025ad0a89d97d27ff124391c49bc67f842296", func := "stickler/sticklerlaw45.SpecBuilds", spec := "specBuilds", unfollowed := true, recurses := true, apart := false }
def SpecBuildsSaid : Prop := specBuildsRow.holds Try.pinned (OpenSpec.ofChange specBuildsSpec)

/-- ITS FALSE NEIGHBOUR: 'it returns false'. Refute it at one input. -/
def specBuildsWrong : ChangeSpec := { name := "specBuilds", fn := fun _ => fun
  | [d] => { results := [.lit (.bool false)], args := [d] }
  | _ => none }
def SpecBuildsWrongFalsely : Prop := specBuildsRow.holds Try.pinned (OpenSpec.ofChange specBuildsWrong)

/-- 'sticklerlaw12.CutterCuts': WHATEVER THE INPUT: true; the input reads as it did. -/
def cutterCutsSpec : ChangeSpec := { name := "cutterCuts", fn := fun _ => fun
  | [d] => { results := [.lit (.bool true)], args := [d] }
  | _ => none }
def cutterCutsRow : OpenClaim := { program := "ytideijigonjohaa", sum := "6aaec27a89a103392eaa7764425025ad0a89d97d27ff124391c49bc67f842296", func := "stickler/sticklerlaw12.CutterCuts", spec := "cutterCuts", apart := false }
def CutterCutsSaid : Prop := cutterCutsRow.holds Try.pinned (OpenSpec.ofChange cutterCutsSpec)

/-- ITS FALSE NEIGHBOUR: 'it returns false'. Refute it at one input. -/
def cutterCutsWrong : ChangeSpec := { name := "cutterCuts", fn := fun _ => fun
  | [d] => { results := [.lit (.bool false)], args := [d] }
  | _ => none }
def CutterCutsWrongFalsely : Prop := cutterCutsRow.holds Try.pinned (OpenSpec.ofChange cutterCutsWrong)

/-- 'sticklerlaw12.CutterRecut': WHATEVER THE INPUT: true; the input reads as it did. -/
def cutterRecutSpec : ChangeSpec := { name := "cutterRecut", fn := fun _ => fun
  | [d1, d2, d3] => { results := [.lit (.bool true)], args := [d1, d2, d3] }
  | _ => none }
def cutterRecutRow : OpenClaim := { program := "ytideijigonjohaa", sum := "6aaec27a89a103392eaa7764425025ad0a89d97d27ff124391c49bc67f842296", func := "stickler/sticklerlaw12.CutterRecut", spec := "cutterRecut", apart := false }
def CutterRecutSaid : Prop := cutterRecutRow.holds Try.pinned (OpenSpec.ofChange cutterRecutSpec)

/-- ITS FALSE NEIGHBOUR: 'it returns false'. Refute it at one input. -/
def cutterRecutWrong : ChangeSpec := { name := "cutterRecut", fn := fun _ => fun
  | [d1, d2, d3] => { results := [.lit (.bool false)], args := [d1, d2, d3] }
  | _ => none }
def CutterRecutWrongFalsely : Prop := cutterRecutRow.holds Try.pinned (OpenSpec.ofChange cutterRecutWrong)

/-- 'sticklerlaw12.CutterBack': WHATEVER THE INPUT: true; the input reads as it did. -/
def cutterBackSpec : ChangeSpec := { name := "cutterBack", fn := fun _ => fun
  | [d1, d2] => { results := [.lit (.bool true)], args := [d1, d2] }
  | _ => none }
def cutterBackRow : OpenClaim := { program := "ytideijigonjohaa", sum := "6aaec27a89a103392eaa7764425025ad0a89d97d27ff124391c49bc67f842296", func := "stickler/sticklerlaw12.CutterBack", spec := "cutterBack", apart := false }
def CutterBackSaid : Prop := cutterBackRow.holds Try.pinned (OpenSpec.ofChange cutterBackSpec)

/-- ITS FALSE NEIGHBOUR: 'it returns false'. Refute it at one input. -/
def cutterBackWrong : ChangeSpec := { name := "cutterBack", fn := fun _ => fun
  | [d1, d2] => { results := [.lit (.bool false)], args := [d1, d2] }
  | _ => none }
def CutterBackWrongFalsely : Prop := cutterBackRow.holds Try.pinned (OpenSpec.ofChange cutterBackWrong)

/-- 'sticklerlaw12.CutterNobody': WHATEVER THE INPUT: true; the input reads as it did. -/
def cutterNobodySpec : ChangeSpec := { name := "cutterNobody", fn := fun _ => fun
  | [d] => { results := [.lit (.bool true)], args := [d] }
  | _ => none }
def cutterNobodyRow : OpenClaim := { program := "ytideijigonjohaa", sum := "6aaec27a89a103392eaa7764425025ad0a89d97d27ff124391c49bc67f842296", func := "stickler/sticklerlaw12.CutterNobody", spec := "cutterNobody", apart := false }
def CutterNobodySaid : Prop := cutterNobodyRow.holds Try.pinned (OpenSpec.ofChange cutterNobodySpec)

/-- ITS FALSE NEIGHBOUR: 'it returns false'. Refute it at one input. -/
def cutterNobodyWrong : ChangeSpec := { name := "cutterNobody", fn := fun _ => fun
  | [d] => { results := [.lit (.bool false)], args := [d] }
  | _ => none }
def CutterNobodyWrongFalsely : Prop := cutterNobodyRow.holds Try.pinned (OpenSpec.ofChange cutterNobodyWrong)

/-- 'sticklerlaw45.SpecSame': WHATEVER THE INPUT: true; the input reads as it did. -/
def specSameSpec : ChangeSpec := { name := "specSame", fn := fun _ => fun
  | [d1, d2] => { results := [.lit (.bool true)], args := [d1, d2] }
  | _ => none }
def specSameRow : OpenClaim := { program := "ytideijigonjohaa", sum := "6aaec27a89a103392eaa7764425025ad0a89d97d27ff124391c49bc67f842296", func := "stickler/sticklerlaw45.SpecSame", spec := "specSame", unfollowed := true, recurses := true, apart := false }
def SpecSameSaid : Prop := specSameRow.holds Try.pinned (OpenSpec.ofChange specSameSpec)

/-- ITS FALSE NEIGHBOUR: 'it returns false'. Refute it at one input. -/
def specSameWrong : ChangeSpec := { name := "specSame", fn := fun _ => fun
  | [d1, d2] => { results := [.lit (.bool false)], args := [d1, d2] }
  | _ => none }
def SpecSameWrongFalsely : Prop := specSameRow.holds Try.pinned (OpenSpec.ofChange specSameWrong)

/- THE SECOND FORM. 'bulk': how many values and letters a reading holds, each counted each time it is reached (what is shared counts as often as it is met; a slice's spare places count too). A statement '..UptoSaid' is the law's where the arguments, and the package variables that the reading takes, are together of bulk at most 1048576: NARROWER than '..Said'. Prove '..Said' where nothing that the law and all that it calls make is longer than what came in: it says more and counts as full. Else prove '..UptoSaid'. A law counts once. -/
mutual
def uptoBulk {H : Type} : DataW H → Nat
  | .lit (.string bytes) => bytes.length + 1
  | .lit _ => 1
  | .nil => 1
  | .ptr d => uptoBulk d + 1
  | .slice elems spare => uptoBulkAll elems + uptoBulkAll spare + 1
  | .agg parts => uptoBulkAll parts + 1
  | .iface _ d => uptoBulk d + 1
  | .map entries => uptoBulkEntries entries + 1
  | .held _ => 1
def uptoBulkAll {H : Type} : List (DataW H) → Nat
  | [] => 0
  | d :: r => uptoBulk d + uptoBulkAll r
def uptoBulkEntries {H : Type} : List (Lit × DataW H) → Nat
  | [] => 0
  | x :: r => uptoBulkEntry x + uptoBulkEntries r
def uptoBulkEntry {H : Type} : Lit × DataW H → Nat
  | (.string bytes, d) => bytes.length + uptoBulk d + 1
  | (_, d) => uptoBulk d + 1
 end
def uptoSmall : (H : Type) → List (DataW H) → Bool := fun _ ds => decide (uptoBulkAll ds ≤ 1048576)
def OpenSpec.upto (s : _root_.Go.ChangeSpec) : _root_.Go.OpenSpec := { _root_.Go.OpenSpec.ofChange s with cond := some uptoSmall }

/-- 'sticklerlaw13.SettingChecks', WHERE WHAT IT READS IS OF BULK AT MOST 1048576: true; the input reads as it did. -/
def settingChecksUptoRow : OpenClaim := { program := "ytideijigonjohaa", sum := "6aaec27a89a103392eaa7764425025ad0a89d97d27ff124391c49bc67f842296", func := "stickler/sticklerlaw13.SettingChecks", spec := "settingChecks", apart := false, narrowed := true }
def SettingChecksUptoSaid : Prop := settingChecksUptoRow.holds Try.pinned (OpenSpec.upto settingChecksSpec)

/-- 'sticklerlaw13.SettingApplies', WHERE WHAT IT READS IS OF BULK AT MOST 1048576: true; the input reads as it did. -/
def settingAppliesUptoRow : OpenClaim := { program := "ytideijigonjohaa", sum := "6aaec27a89a103392eaa7764425025ad0a89d97d27ff124391c49bc67f842296", func := "stickler/sticklerlaw13.SettingApplies", spec := "settingApplies", apart := false, narrowed := true }
def SettingAppliesUptoSaid : Prop := settingAppliesUptoRow.holds Try.pinned (OpenSpec.upto settingAppliesSpec)

/-- 'sticklerlaw13.SettingParses', WHERE WHAT IT READS IS OF BULK AT MOST 1048576: true; the input reads as it did. -/
def settingParsesUptoRow : OpenClaim := { program := "ytideijigonjohaa", sum := "6aaec27a89a103392eaa7764425025ad0a89d97d27ff124391c49bc67f842296", func := "stickler/sticklerlaw13.SettingParses", spec := "settingParses", apart := false, narrowed := true }
def SettingParsesUptoSaid : Prop := settingParsesUptoRow.holds Try.pinned (OpenSpec.upto settingParsesSpec)

/-- 'sticklerlaw13.SettingPuts', WHERE WHAT IT READS IS OF BULK AT MOST 1048576: true; the input reads as it did. -/
def settingPutsUptoRow : OpenClaim := { program := "ytideijigonjohaa", sum := "6aaec27a89a103392eaa7764425025ad0a89d97d27ff124391c49bc67f842296", func := "stickler/sticklerlaw13.SettingPuts", spec := "settingPuts", apart := false, narrowed := true }
def SettingPutsUptoSaid : Prop := settingPutsUptoRow.holds Try.pinned (OpenSpec.upto settingPutsSpec)

/-- 'sticklerlaw21.DyntabBounds', WHERE WHAT IT READS IS OF BULK AT MOST 1048576: true; the input reads as it did. -/
def dyntabBoundsUptoRow : OpenClaim := { program := "ytideijigonjohaa", sum := "6aaec27a89a103392eaa7764425025ad0a89d97d27ff124391c49bc67f842296", func := "stickler/sticklerlaw21.DyntabBounds", spec := "dyntabBounds", apart := false, narrowed := true }
def DyntabBoundsUptoSaid : Prop := dyntabBoundsUptoRow.holds Try.pinned (OpenSpec.upto dyntabBoundsSpec)

/-- 'sticklerlaw32.PendingPlays', WHERE WHAT IT READS IS OF BULK AT MOST 1048576: true; the input reads as it did. -/
def pendingPlaysUptoRow : OpenClaim := { program := "ytideijigonjohaa", sum := "6aaec27a89a103392eaa7764425025ad0a89d97d27ff124391c49bc67f842296", func := "stickler/sticklerlaw32.PendingPlays", spec := "pendingPlays", apart := false, narrowed := true }
def PendingPlaysUptoSaid : Prop := pendingPlaysUptoRow.holds Try.pinned (OpenSpec.upto pendingPlaysSpec)

/-- 'sticklerlaw32.PendingBounds', WHERE WHAT IT READS IS OF BULK AT MOST 1048576: true; the input reads as it did. -/
def pendingBoundsUptoRow : OpenClaim := { program := "ytideijigonjohaa", sum := "6aaec27a89a103392eaa7764425025ad0a89d97d27ff124391c49bc67f842296", func := "stickler/sticklerlaw32.PendingBounds", spec := "pendingBounds", apart := false, narrowed := true }
def PendingBoundsUptoSaid : Prop := pendingBoundsUptoRow.holds Try.pinned (OpenSpec.upto pendingBoundsSpec)

/-- 'sticklerlaw32.PendingNobody', WHERE WHAT IT READS IS OF BULK AT MOST 1048576: true; the input reads as it did. -/
def pendingNobodyUptoRow : OpenClaim := { program := "ytideijigonjohaa", sum := "6aaec27a89a103392eaa7764425025ad0a89d97d27ff124391c49bc67f842296", func := "stickler/sticklerlaw32.PendingNobody", spec := "pendingNobody", apart := false, narrowed := true }
def PendingNobodyUptoSaid : Prop := pendingNobodyUptoRow.holds Try.pinned (OpenSpec.upto pendingNobodySpec)

/-- 'sticklerlaw07.HeadPuts', WHERE WHAT IT READS IS OF BULK AT MOST 1048576: true; the input reads as it did. -/
def headPutsUptoRow : OpenClaim := { program := "ytideijigonjohaa", sum := "6aaec27a89a103392eaa7764425025ad0a89d97d27ff124391c49bc67f842296", func := "stickler/sticklerlaw07.HeadPuts", spec := "headPuts", apart := false, narrowed := true }
def HeadPutsUptoSaid : Prop := headPutsUptoRow.holds Try.pinned (OpenSpec.upto headPutsSpec)

/-- 'sticklerlaw07.HeadGets', WHERE WHAT IT READS IS OF BULK AT MOST 1048576: true; the input reads as it did. -/
def headGetsUptoRow : OpenClaim := { program := "ytideijigonjohaa", sum := "6aaec27a89a103392eaa7764425025ad0a89d97d27ff124391c49bc67f842296", func := "stickler/sticklerlaw07.HeadGets", spec := "headGets", apart := false, narrowed := true }
def HeadGetsUptoSaid : Prop := headGetsUptoRow.holds Try.pinned (OpenSpec.upto headGetsSpec)

/-- 'sticklerlaw21.DyntabPlays', WHERE WHAT IT READS IS OF BULK AT MOST 1048576: true; the input reads as it did. -/
def dyntabPlaysUptoRow : OpenClaim := { program := "ytideijigonjohaa", sum := "6aaec27a89a103392eaa7764425025ad0a89d97d27ff124391c49bc67f842296", func := "stickler/sticklerlaw21.DyntabPlays", spec := "dyntabPlays", apart := false, narrowed := true }
def DyntabPlaysUptoSaid : Prop := dyntabPlaysUptoRow.holds Try.pinned (OpenSpec.upto dyntabPlaysSpec)

/-- 'sticklerlaw45.SpecRight', WHERE WHAT IT READS IS OF BULK AT MOST 1048576: true; the input reads as it did. -/
def specRightUptoRow : OpenClaim := { program := "ytideijigonjohaa", sum := "6aaec27a89a103392eaa7764425025ad0a89d97d27ff124391c49bc67f842296", func := "stickler/sticklerlaw45.SpecRight", spec := "specRight", unfollowed := true, recurses := true, apart := false, narrowed := true }
def SpecRightUptoSaid : Prop := specRightUptoRow.holds Try.pinned (OpenSpec.upto specRightSpec)

/-- 'sticklerlaw21.DyntabCopies', WHERE WHAT IT READS IS OF BULK AT MOST 1048576: true; the input reads as it did. -/
def dyntabCopiesUptoRow : OpenClaim := { program := "ytideijigonjohaa", sum := "6aaec27a89a103392eaa7764425025ad0a89d97d27ff124391c49bc67f842296", func := "stickler/sticklerlaw21.DyntabCopies", spec := "dyntabCopies", apart := false, narrowed := true }
def DyntabCopiesUptoSaid : Prop := dyntabCopiesUptoRow.holds Try.pinned (OpenSpec.upto dyntabCopiesSpec)

/-- 'sticklerlaw07.HeadBytes', WHERE WHAT IT READS IS OF BULK AT MOST 1048576: true; the input reads as it did. -/
def headBytesUptoRow : OpenClaim := { program := "ytideijigonjohaa", sum := "6aaec27a89a103392eaa7764425025ad0a89d97d27ff124391c49bc67f842296", func := "stickler/sticklerlaw07.HeadBytes", spec := "headBytes", apart := false, narrowed := true }
def HeadBytesUptoSaid : Prop := headBytesUptoRow.holds Try.pinned (OpenSpec.upto headBytesSpec)

/-- 'sticklerlaw45.SpecBuilds', WHERE WHAT IT READS IS OF BULK AT MOST 1048576: true; the input reads as it did. -/
def specBuildsUptoRow : OpenClaim := { program := "ytideijigonjohaa", sum := "6aaec27a89a103392eaa7764425025ad0a89d97d27ff124391c49bc67f842296", func := "stickler/sticklerlaw45.SpecBuilds", spec := "specBuilds", unfollowed := true, recurses := true, apart := false, narrowed := true }
def SpecBuildsUptoSaid : Prop := specBuildsUptoRow.holds Try.pinned (OpenSpec.upto specBuildsSpec)

/-- 'sticklerlaw12.CutterCuts', WHERE WHAT IT READS IS OF BULK AT MOST 1048576: true; the input reads as it did. -/
def cutterCutsUptoRow : OpenClaim := { program := "ytideijigonjohaa", sum := "6aaec27a89a103392eaa7764425025ad0a89d97d27ff124391c49bc67f842296", func := "stickler/sticklerlaw12.CutterCuts", spec := "cutterCuts", apart := false, narrowed := true }
def CutterCutsUptoSaid : Prop := cutterCutsUptoRow.holds Try.pinned (OpenSpec.upto cutterCutsSpec)

/-- 'sticklerlaw12.CutterRecut', WHERE WHAT IT READS IS OF BULK AT MOST 1048576: true; the input reads as it did. -/
def cutterRecutUptoRow : OpenClaim := { program := "ytideijigonjohaa", sum := "6aaec27a89a103392eaa7764425025ad0a89d97d27ff124391c49bc67f842296", func := "stickler/sticklerlaw12.CutterRecut", spec := "cutterRecut", apart := false, narrowed := true }
def CutterRecutUptoSaid : Prop := cutterRecutUptoRow.holds Try.pinned (OpenSpec.upto cutterRecutSpec)

/-- 'sticklerlaw12.CutterBack', WHERE WHAT IT READS IS OF BULK AT MOST 1048576: true; the input reads as it did. -/
def cutterBackUptoRow : OpenClaim := { program := "ytideijigonjohaa", sum := "6aaec27a89a103392eaa7764425025ad0a89d97d27ff124391c49bc67f842296", func := "stickler/sticklerlaw12.CutterBack", spec := "cutterBack", apart := false, narrowed := true }
def CutterBackUptoSaid : Prop := cutterBackUptoRow.holds Try.pinned (OpenSpec.upto cutterBackSpec)

/-- 'sticklerlaw12.CutterNobody', WHERE WHAT IT READS IS OF BULK AT MOST 1048576: true; the input reads as it did. -/
def cutterNobodyUptoRow : OpenClaim := { program := "ytideijigonjohaa", sum := "6aaec27a89a103392eaa7764425025ad0a89d97d27ff124391c49bc67f842296", func := "stickler/sticklerlaw12.CutterNobody", spec := "cutterNobody", apart := false, narrowed := true }
def CutterNobodyUptoSaid : Prop := cutterNobodyUptoRow.holds Try.pinned (OpenSpec.upto cutterNobodySpec)

/-- 'sticklerlaw45.SpecSame', WHERE WHAT IT READS IS OF BULK AT MOST 1048576: true; the input reads as it did. -/
def specSameUptoRow : OpenClaim := { program := "ytideijigonjohaa", sum := "6aaec27a89a103392eaa7764425025ad0a89d97d27ff124391c49bc67f842296", func := "stickler/sticklerlaw45.SpecSame", spec := "specSame", unfollowed := true, recurses := true, apart := false, narrowed := true }
def SpecSameUptoSaid : Prop := specSameUptoRow.holds Try.pinned (OpenSpec.upto specSameSpec)

end Rows
end Go.Proofs.Ytideijigonjohaa
