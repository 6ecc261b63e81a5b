/-
  No cell of these rows narrows 'for every input' (looked for: loops, veiled, ifaces, maps, wideKeys, modest, calm, conditions, laid).
  DERIVED. THE GIVEN ROWS OF THIS SEAT. 12 by the template 'for every input the law returns true; each argument reads behind the call as it read before'; 0 by the template 'total and deterministic' (their statements: YtlaghnaafkgbdaaTotals.lean).
  GIVEN WITH THE SEED: the statements are not yours to turn. If you find one false, say at which input.
  Laid BY PROGRAM, IN A SANDBOX (cutbox-rows.mjs): the forced cells as the released guide's own fill.sh prints them over the translation cd6b80a5c000873e… (all of the seat's roots in one cut). By AI agents, Wed Nov 11 2026. No macro, syntax, notation, axiom, sorry.
-/
import Derived.Test.YtlaghnaafkgbdaaChecked
import GoSem.Claim
import GoSem.ClaimJoined
import GoSem.ClaimMapViews
import Derived.JoinedTies
import Derived.KernelRfl
namespace Go.Proofs.Ytlaghnaafkgbdaa
/- THE CELL 'sum', in the pinned program and in every row, IS THE sha256 OF THE DUMP (.gsa) THAT YtlaghnaafkgbdaaProg.lean LOADS. Nothing in Lean hashes anything: it is a label: what it is worth is what the hold of that sum in a sandbox is worth. -/
noncomputable def Try.pinned : Pinned := { name := "ytlaghnaafkgbdaa", sum := "cd6b80a5c000873e52d569e383fc3683d7fc94c50d7b0b93495bbda563bc7036", checked := Try.checked }
namespace Rows
def none {H : Type} : Left H := { results := [], args := [] }

/-- 'sticklerlaw01.OctetPuts': WHATEVER THE INPUT: true; the input reads as it did. -/
def octetPutsSpec : ChangeSpec := { name := "octetPuts", fn := fun _ => fun
  | [d1, d2, d3] => { results := [.lit (.bool true)], args := [d1, d2, d3] }
  | _ => none }
def octetPutsRow : OpenClaim := { program := "ytlaghnaafkgbdaa", sum := "cd6b80a5c000873e52d569e383fc3683d7fc94c50d7b0b93495bbda563bc7036", func := "stickler/sticklerlaw01.OctetPuts", spec := "octetPuts", apart := false }
def OctetPutsSaid : Prop := octetPutsRow.holds Try.pinned (OpenSpec.ofChange octetPutsSpec)

/-- ITS FALSE NEIGHBOUR: 'it returns false'. Refute it at one input. -/
def octetPutsWrong : ChangeSpec := { name := "octetPuts", fn := fun _ => fun
  | [d1, d2, d3] => { results := [.lit (.bool false)], args := [d1, d2, d3] }
  | _ => none }
def OctetPutsWrongFalsely : Prop := octetPutsRow.holds Try.pinned (OpenSpec.ofChange octetPutsWrong)

/-- 'sticklerlaw01.OctetGets': WHATEVER THE INPUT: true; the input reads as it did. -/
def octetGetsSpec : ChangeSpec := { name := "octetGets", fn := fun _ => fun
  | [d1, d2] => { results := [.lit (.bool true)], args := [d1, d2] }
  | _ => none }
def octetGetsRow : OpenClaim := { program := "ytlaghnaafkgbdaa", sum := "cd6b80a5c000873e52d569e383fc3683d7fc94c50d7b0b93495bbda563bc7036", func := "stickler/sticklerlaw01.OctetGets", spec := "octetGets", apart := false }
def OctetGetsSaid : Prop := octetGetsRow.holds Try.pinned (OpenSpec.ofChange octetGetsSpec)

/-- ITS FALSE NEIGHBOUR: 'it returns false'. Refute it at one input. -/
def octetGetsWrong : ChangeSpec := { name := "octetGets", fn := fun _ => fun
  | [d1, d2] => { results := [.lit (.bool false)], args := [d1, d2] }
  | _ => none }
def OctetGetsWrongFalsely : Prop := octetGetsRow.holds Try.pinned (OpenSpec.ofChange octetGetsWrong)

/-- 'sticklerlaw01.OctetBack': WHATEVER THE INPUT: true; the input reads as it did. -/
def octetBackSpec : ChangeSpec := { name := "octetBack", fn := fun _ => fun
  | [d1, d2, d3] => { results := [.lit (.bool true)], args := [d1, d2, d3] }
  | _ => none }
def octetBackRow : OpenClaim := { program := "ytlaghnaafkgbdaa", sum := "cd6b80a5c000873e52d569e383fc3683d7fc94c50d7b0b93495bbda563bc7036", func := "stickler/sticklerlaw01.OctetBack", spec := "octetBack", apart := false }
def OctetBackSaid : Prop := octetBackRow.holds Try.pinned (OpenSpec.ofChange octetBackSpec)

/-- ITS FALSE NEIGHBOUR: 'it returns false'. Refute it at one input. -/
def octetBackWrong : ChangeSpec := { name := "octetBack", fn := fun _ => fun
  | [d1, d2, d3] => { results := [.lit (.bool false)], args := [d1, d2, d3] }
  | _ => none }
def OctetBackWrongFalsely : Prop := octetBackRow.holds Try.pinned (OpenSpec.ofChange octetBackWrong)

/-- 'sticklerlaw01.OctetLow': WHATEVER THE INPUT: true; the input reads as it did. -/
def octetLowSpec : ChangeSpec := { name := "octetLow", fn := fun _ => fun
  | [d1, d2, d3] => { results := [.lit (.bool true)], args := [d1, d2, d3] }
  | _ => none }
def octetLowRow : OpenClaim := { program := "ytlaghnaafkgbdaa", sum := "cd6b80a5c000873e52d569e383fc3683d7fc94c50d7b0b93495bbda563bc7036", func := "stickler/sticklerlaw01.OctetLow", spec := "octetLow", apart := false }
def OctetLowSaid : Prop := octetLowRow.holds Try.pinned (OpenSpec.ofChange octetLowSpec)

/-- ITS FALSE NEIGHBOUR: 'it returns false'. Refute it at one input. -/
def octetLowWrong : ChangeSpec := { name := "octetLow", fn := fun _ => fun
  | [d1, d2, d3] => { results := [.lit (.bool false)], args := [d1, d2, d3] }
  | _ => none }
def OctetLowWrongFalsely : Prop := octetLowRow.holds Try.pinned (OpenSpec.ofChange octetLowWrong)

/-- 'sticklerlaw02.CursorOwn': WHATEVER THE INPUT: true; the input reads as it did. -/
def cursorOwnSpec : ChangeSpec := { name := "cursorOwn", fn := fun _ => fun
  | [d1, d2] => { results := [.lit (.bool true)], args := [d1, d2] }
  | _ => none }
def cursorOwnRow : OpenClaim := { program := "ytlaghnaafkgbdaa", sum := "cd6b80a5c000873e52d569e383fc3683d7fc94c50d7b0b93495bbda563bc7036", func := "stickler/sticklerlaw02.CursorOwn", spec := "cursorOwn", apart := false }
def CursorOwnSaid : Prop := cursorOwnRow.holds Try.pinned (OpenSpec.ofChange cursorOwnSpec)

/-- ITS FALSE NEIGHBOUR: 'it returns false'. Refute it at one input. -/
def cursorOwnWrong : ChangeSpec := { name := "cursorOwn", fn := fun _ => fun
  | [d1, d2] => { results := [.lit (.bool false)], args := [d1, d2] }
  | _ => none }
def CursorOwnWrongFalsely : Prop := cursorOwnRow.holds Try.pinned (OpenSpec.ofChange cursorOwnWrong)

/-- 'sticklerlaw20.StaticAt': WHATEVER THE INPUT: true; the input reads as it did. -/
def staticAtSpec : ChangeSpec := { name := "staticAt", fn := fun _ => fun
  | [d] => { results := [.lit (.bool true)], args := [d] }
  | _ => none }
def staticAtRow : OpenClaim := { program := "ytlaghnaafkgbdaa", sum := "cd6b80a5c000873e52d569e383fc3683d7fc94c50d7b0b93495bbda563bc7036", func := "stickler/sticklerlaw20.StaticAt", spec := "staticAt", apart := false }
def StaticAtSaid : Prop := staticAtRow.holds Try.pinned (OpenSpec.ofChange staticAtSpec)

/-- ITS FALSE NEIGHBOUR: 'it returns false'. Refute it at one input. -/
def staticAtWrong : ChangeSpec := { name := "staticAt", fn := fun _ => fun
  | [d] => { results := [.lit (.bool false)], args := [d] }
  | _ => none }
def StaticAtWrongFalsely : Prop := staticAtRow.holds Try.pinned (OpenSpec.ofChange staticAtWrong)

/-- 'sticklerlaw20.StaticFinds': WHATEVER THE INPUT: true; the input reads as it did. -/
def staticFindsSpec : ChangeSpec := { name := "staticFinds", fn := fun _ => fun
  | [d1, d2] => { results := [.lit (.bool true)], args := [d1, d2] }
  | _ => none }
def staticFindsRow : OpenClaim := { program := "ytlaghnaafkgbdaa", sum := "cd6b80a5c000873e52d569e383fc3683d7fc94c50d7b0b93495bbda563bc7036", func := "stickler/sticklerlaw20.StaticFinds", spec := "staticFinds", apart := false }
def StaticFindsSaid : Prop := staticFindsRow.holds Try.pinned (OpenSpec.ofChange staticFindsSpec)

/-- ITS FALSE NEIGHBOUR: 'it returns false'. Refute it at one input. -/
def staticFindsWrong : ChangeSpec := { name := "staticFinds", fn := fun _ => fun
  | [d1, d2] => { results := [.lit (.bool false)], args := [d1, d2] }
  | _ => none }
def StaticFindsWrongFalsely : Prop := staticFindsRow.holds Try.pinned (OpenSpec.ofChange staticFindsWrong)

/-- 'sticklerlaw05.BitrowReads': WHATEVER THE INPUT: true; the input reads as it did. -/
def bitrowReadsSpec : ChangeSpec := { name := "bitrowReads", fn := fun _ => fun
  | [d1, d2] => { results := [.lit (.bool true)], args := [d1, d2] }
  | _ => none }
def bitrowReadsRow : OpenClaim := { program := "ytlaghnaafkgbdaa", sum := "cd6b80a5c000873e52d569e383fc3683d7fc94c50d7b0b93495bbda563bc7036", func := "stickler/sticklerlaw05.BitrowReads", spec := "bitrowReads", apart := false }
def BitrowReadsSaid : Prop := bitrowReadsRow.holds Try.pinned (OpenSpec.ofChange bitrowReadsSpec)

/-- ITS FALSE NEIGHBOUR: 'it returns false'. Refute it at one input. -/
def bitrowReadsWrong : ChangeSpec := { name := "bitrowReads", fn := fun _ => fun
  | [d1, d2] => { results := [.lit (.bool false)], args := [d1, d2] }
  | _ => none }
def BitrowReadsWrongFalsely : Prop := bitrowReadsRow.holds Try.pinned (OpenSpec.ofChange bitrowReadsWrong)

/-- 'sticklerlaw05.BitrowBack': WHATEVER THE INPUT: true; the input reads as it did. -/
def bitrowBackSpec : ChangeSpec := { name := "bitrowBack", fn := fun _ => fun
  | [d] => { results := [.lit (.bool true)], args := [d] }
  | _ => none }
def bitrowBackRow : OpenClaim := { program := "ytlaghnaafkgbdaa", sum := "cd6b80a5c000873e52d569e383fc3683d7fc94c50d7b0b93495bbda563bc7036", func := "stickler/sticklerlaw05.BitrowBack", spec := "bitrowBack", apart := false }
def BitrowBackSaid : Prop := bitrowBackRow.holds Try.pinned (OpenSpec.ofChange bitrowBackSpec)

/-- ITS FALSE NEIGHBOUR: 'it returns false'. Refute it at one input. -/
def bitrowBackWrong : ChangeSpec := { name := "bitrowBack", fn := fun _ => fun
  | [d] => { results := [.lit (.bool false)], args := [d] }
  | _ => none }
def BitrowBackWrongFalsely : Prop := bitrowBackRow.holds Try.pinned (OpenSpec.ofChange bitrowBackWrong)

/-- 'sticklerlaw02.CursorSteps': WHATEVER THE INPUT: true; the input reads as it did. -/
def cursorStepsSpec : ChangeSpec := { name := "cursorSteps", fn := fun _ => fun
  | [d1, d2] => { results := [.lit (.bool true)], args := [d1, d2] }
  | _ => none }
def cursorStepsRow : OpenClaim := { program := "ytlaghnaafkgbdaa", sum := "cd6b80a5c000873e52d569e383fc3683d7fc94c50d7b0b93495bbda563bc7036", func := "stickler/sticklerlaw02.CursorSteps", spec := "cursorSteps", apart := false }
def CursorStepsSaid : Prop := cursorStepsRow.holds Try.pinned (OpenSpec.ofChange cursorStepsSpec)

/-- ITS FALSE NEIGHBOUR: 'it returns false'. Refute it at one input. -/
def cursorStepsWrong : ChangeSpec := { name := "cursorSteps", fn := fun _ => fun
  | [d1, d2] => { results := [.lit (.bool false)], args := [d1, d2] }
  | _ => none }
def CursorStepsWrongFalsely : Prop := cursorStepsRow.holds Try.pinned (OpenSpec.ofChange cursorStepsWrong)

/-- 'sticklerlaw02.CursorNobody': WHATEVER THE INPUT: true; the input reads as it did. -/
def cursorNobodySpec : ChangeSpec := { name := "cursorNobody", fn := fun _ => fun
  | [d] => { results := [.lit (.bool true)], args := [d] }
  | _ => none }
def cursorNobodyRow : OpenClaim := { program := "ytlaghnaafkgbdaa", sum := "cd6b80a5c000873e52d569e383fc3683d7fc94c50d7b0b93495bbda563bc7036", func := "stickler/sticklerlaw02.CursorNobody", spec := "cursorNobody", apart := false }
def CursorNobodySaid : Prop := cursorNobodyRow.holds Try.pinned (OpenSpec.ofChange cursorNobodySpec)

/-- ITS FALSE NEIGHBOUR: 'it returns false'. Refute it at one input. -/
def cursorNobodyWrong : ChangeSpec := { name := "cursorNobody", fn := fun _ => fun
  | [d] => { results := [.lit (.bool false)], args := [d] }
  | _ => none }
def CursorNobodyWrongFalsely : Prop := cursorNobodyRow.holds Try.pinned (OpenSpec.ofChange cursorNobodyWrong)

/-- 'sticklerlaw05.BitrowWrites': WHATEVER THE INPUT: true; the input reads as it did. -/
def bitrowWritesSpec : ChangeSpec := { name := "bitrowWrites", fn := fun _ => fun
  | [d] => { results := [.lit (.bool true)], args := [d] }
  | _ => none }
def bitrowWritesRow : OpenClaim := { program := "ytlaghnaafkgbdaa", sum := "cd6b80a5c000873e52d569e383fc3683d7fc94c50d7b0b93495bbda563bc7036", func := "stickler/sticklerlaw05.BitrowWrites", spec := "bitrowWrites", apart := false }
def BitrowWritesSaid : Prop := bitrowWritesRow.holds Try.pinned (OpenSpec.ofChange bitrowWritesSpec)

/-- ITS FALSE NEIGHBOUR: 'it returns false'. Refute it at one input. -/
def bitrowWritesWrong : ChangeSpec := { name := "bitrowWrites", fn := fun _ => fun
  | [d] => { results := [.lit (.bool false)], args := [d] }
  | _ => none }
def BitrowWritesWrongFalsely : Prop := bitrowWritesRow.holds Try.pinned (OpenSpec.ofChange bitrowWritesWrong)

/- THE SECOND FORM. 'bulk': how many values and letters a reading holds, each counted each time it is reached (what is shared counts as often as it is met; a slice's spare places count too). A statement '..UptoSaid' is the law's where the arguments, and the package variables that the reading takes, are together of bulk at most 1048576: NARROWER than '..Said'. Prove '..Said' where nothing that the law and all that it calls make is longer than what came in: it says more and counts as full. Else prove '..UptoSaid'. A law counts once. -/
mutual
def uptoBulk {H : Type} : DataW H → Nat
  | .lit (.string bytes) => bytes.length + 1
  | .lit _ => 1
  | .nil => 1
  | .ptr d => uptoBulk d + 1
  | .slice elems spare => uptoBulkAll elems + uptoBulkAll spare + 1
  | .agg parts => uptoBulkAll parts + 1
  | .iface _ d => uptoBulk d + 1
  | .map entries => uptoBulkEntries entries + 1
  | .held _ => 1
def uptoBulkAll {H : Type} : List (DataW H) → Nat
  | [] => 0
  | d :: r => uptoBulk d + uptoBulkAll r
def uptoBulkEntries {H : Type} : List (Lit × DataW H) → Nat
  | [] => 0
  | x :: r => uptoBulkEntry x + uptoBulkEntries r
def uptoBulkEntry {H : Type} : Lit × DataW H → Nat
  | (.string bytes, d) => bytes.length + uptoBulk d + 1
  | (_, d) => uptoBulk d + 1
 end
def uptoSmall : (H : Type) → List (DataW H) → Bool := fun _ ds => decide (uptoBulkAll ds ≤ 1048576)
def OpenSpec.upto (s : _root_.Go.ChangeSpec) : _root_.Go.OpenSpec := { _root_.Go.OpenSpec.ofChange s with cond := some uptoSmall }

/-- 'sticklerlaw01.OctetPuts', WHERE WHAT IT READS IS OF BULK AT MOST 1048576: true; the input reads as it did. -/
def octetPutsUptoRow : OpenClaim := { program := "ytlaghnaafkgbdaa", sum := "cd6b80a5c000873e52d569e383fc3683d7fc94c50d7b0b93495bbda563bc7036", func := "stickler/sticklerlaw01.OctetPuts", spec := "octetPuts", apart := false, narrowed := true }
def OctetPutsUptoSaid : Prop := octetPutsUptoRow.holds Try.pinned (OpenSpec.upto octetPutsSpec)

/-- 'sticklerlaw01.OctetGets', WHERE WHAT IT READS IS OF BULK AT MOST 1048576: true; the input reads as it did. -/
def octetGetsUptoRow : OpenClaim := { program := "ytlaghnaafkgbdaa", sum := "cd6b80a5c000873e52d569e383fc3683d7fc94c50d7b0b93495bbda563bc7036", func := "stickler/sticklerlaw01.OctetGets", spec := "octetGets", apart := false, narrowed := true }
def OctetGetsUptoSaid : Prop := octetGetsUptoRow.holds Try.pinned (OpenSpec.upto octetGetsSpec)

/-- 'sticklerlaw01.OctetBack', WHERE WHAT IT READS IS OF BULK AT MOST 1048576: true; the input reads as it did. -/
def octetBackUptoRow : OpenClaim := { program := "ytlaghnaafkgbdaa", sum := "cd6b80a5c000873e52d569e383fc3683d7fc94c50d7b0b93495bbda563bc7036", func := "stickler/sticklerlaw01.OctetBack", spec := "octetBack", apart := false, narrowed := true }
def OctetBackUptoSaid : Prop := octetBackUptoRow.holds Try.pinned (OpenSpec.upto octetBackSpec)

/-- 'sticklerlaw01.OctetLow', WHERE WHAT IT READS IS OF BULK AT MOST 1048576: true; the input reads as it did. -/
def octetLowUptoRow : OpenClaim := { program := "ytlaghnaafkgbdaa", sum := "cd6b80a5c000873e52d569e383fc3683d7fc94c50d7b0b93495bbda563bc7036", func := "stickler/sticklerlaw01.OctetLow", spec := "octetLow", apart := false, narrowed := true }
def OctetLowUptoSaid : Prop := octetLowUptoRow.holds Try.pinned (OpenSpec.upto octetLowSpec)

/-- 'sticklerlaw02.CursorOwn', WHERE WHAT IT READS IS OF BULK AT MOST 1048576: true; the input reads as it did. -/
def cursorOwnUptoRow : OpenClaim := { program := "ytlaghnaafkgbdaa", sum := "cd6b80a5c000873e52d569e383fc3683d7fc94c50d7b0b93495bbda563bc7036", func := "stickler/sticklerlaw02.CursorOwn", spec := "cursorOwn", apart := false, narrowed := true }
def CursorOwnUptoSaid : Prop := cursorOwnUptoRow.holds Try.pinned (OpenSpec.upto cursorOwnSpec)

/-- 'sticklerlaw20.StaticAt', WHERE WHAT IT READS IS OF BULK AT MOST 1048576: true; the input reads as it did. -/
def staticAtUptoRow : OpenClaim := { program := "ytlaghnaafkgbdaa", sum := "cd6b80a5c000873e52d569e383fc3683d7fc94c50d7b0b93495bbda563bc7036", func := "stickler/sticklerlaw20.StaticAt", spec := "staticAt", apart := false, narrowed := true }
def StaticAtUptoSaid : Prop := staticAtUptoRow.holds Try.pinned (OpenSpec.upto staticAtSpec)

/-- 'sticklerlaw20.StaticFinds', WHERE WHAT IT READS IS OF BULK AT MOST 1048576: true; the input reads as it did. -/
def staticFindsUptoRow : OpenClaim := { program := "ytlaghnaafkgbdaa", sum := "cd6b80a5c000873e52d569e383fc3683d7fc94c50d7b0b93495bbda563bc7036", func := "stickler/sticklerlaw20.StaticFinds", spec := "staticFinds", apart := false, narrowed := true }
def StaticFindsUptoSaid : Prop := staticFindsUptoRow.holds Try.pinned (OpenSpec.upto staticFindsSpec)

/-- 'sticklerlaw05.BitrowReads', WHERE WHAT IT READS IS OF BULK AT MOST 1048576: true; the input reads as it did. -/
def bitrowReadsUptoRow : OpenClaim := { program := "ytlaghnaafkgbdaa", sum := "cd6b80a5c000873e52d569e383fc3683d7fc94c50d7b0b93495bbda563bc7036", func := "stickler/sticklerlaw05.BitrowReads", spec := "bitrowReads", apart := false, narrowed := true }
def BitrowReadsUptoSaid : Prop := bitrowReadsUptoRow.holds Try.pinned (OpenSpec.upto bitrowReadsSpec)

/-- 'sticklerlaw05.BitrowBack', WHERE WHAT IT READS IS OF BULK AT MOST 1048576: true; the input reads as it did. -/
def bitrowBackUptoRow : OpenClaim := { program := "ytlaghnaafkgbdaa", sum := "cd6b80a5c000873e52d569e383fc3683d7fc94c50d7b0b93495bbda563bc7036", func := "stickler/sticklerlaw05.BitrowBack", spec := "bitrowBack", apart := false, narrowed := true }
def BitrowBackUptoSaid : Prop := bitrowBackUptoRow.holds Try.pinned (OpenSpec.upto bitrowBackSpec)

/-- 'sticklerlaw02.CursorSteps', WHERE WHAT IT READS IS OF BULK AT MOST 1048576: true; the input reads as it did. -/
def cursorStepsUptoRow : OpenClaim := { program := "ytlaghnaafkgbdaa", sum := "cd6b80a5c000873e52d569e383fc3683d7fc94c50d7b0b93495bbda563bc7036", func := "stickler/sticklerlaw02.CursorSteps", spec := "cursorSteps", apart := false, narrowed := true }
def CursorStepsUptoSaid : Prop := cursorStepsUptoRow.holds Try.pinned (OpenSpec.upto cursorStepsSpec)

/-- 'sticklerlaw02.CursorNobody', WHERE WHAT IT READS IS OF BULK AT MOST 1048576: true; the input reads as it did. -/
def cursorNobodyUptoRow : OpenClaim := { program := "ytlaghnaafkgbdaa", sum := "cd6b80a5c000873e52d569e383fc3683d7fc94c50d7b0b93495bbda563bc7036", func := "stickler/sticklerlaw02.CursorNobody", spec := "cursorNobody", apart := false, narrowed := true }
def CursorNobodyUptoSaid : Prop := cursorNobodyUptoRow.holds Try.pinned (OpenSpec.upto cursorNobodySpec)

/-- 'sticklerlaw05.BitrowWrites', WHERE WHAT IT READS IS OF BULK AT MOST 1048576: true; the input reads as it did. -/
def bitrowWritesUptoRow : OpenClaim := { program := "ytlaghnaafkgbdaa", sum := "cd6b80a5c000873e52d569e383fc3683d7fc94c50d7b0b93495bbda563bc7036", func := "stickler/sticklerlaw05.BitrowWrites", spec := "bitrowWrites", apart := false, narrowed := true }
def BitrowWritesUptoSaid : Prop := bitrowWritesUptoRow.holds Try.pinned (OpenSpec.upto bitrowWritesSpec)

end Rows
end Go.Proofs.Ytlaghnaafkgbdaa
