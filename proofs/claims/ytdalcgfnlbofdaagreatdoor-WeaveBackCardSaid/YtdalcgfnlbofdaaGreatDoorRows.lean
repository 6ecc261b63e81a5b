/-
  NARROWER THAN 'FOR EVERY INPUT', by the rows' own cells (each row's printed sentence says how): DriverFrames: laid · PeerSays: laid · WeaveReads: laid · WeaveBack: laid.
  DERIVED. THE GIVEN ROWS OF THIS SEAT. 4 by the template 'for every input the law returns true; each argument reads behind the call as it read before'; 0 by the template 'total and deterministic' (their statements: YtdalcgfnlbofdaaGreatDoorTotals.lean).
  GIVEN WITH THE SEED: the statements are not yours to turn. If you find one false, say at which input.
  Laid BY PROGRAM, IN A SANDBOX (cutbox-rows.mjs): the forced cells as the released guide's own fill.sh prints them over the translation d2c70211adff0752… (all of the seat's roots in one cut). By AI agents, Wed Nov 11 2026. No macro, syntax, notation, axiom, sorry.
-/
import Derived.Test.YtdalcgfnlbofdaaGreatDoorChecked
import GoSem.Claim
import GoSem.ClaimJoined
import GoSem.ClaimMapViews
import Derived.JoinedTies
import Derived.KernelRfl
namespace Go.Proofs.YtdalcgfnlbofdaaGreatDoor
/- THE CELL 'sum', in the pinned program and in every row, IS THE sha256 OF THE DUMP (.gsa) THAT YtdalcgfnlbofdaaGreatDoorProg.lean LOADS. Nothing in Lean hashes anything: it is a label: what it is worth is what the hold of that sum in a sandbox is worth. -/
noncomputable def Tryz.pinned : Pinned := { name := "ytdalcgfnlbofdaagreatdoor", sum := "d2c70211adff0752393fdca2fe8a77ba30900bc365ea69c059d4ab3c00cb3cb0", checked := Tryz.checked }
namespace Rows
def none {H : Type} : Left H := { results := [], args := [] }

/- WHAT THE LISTED PACKAGE-LEVEL VARIABLES READ AS WHEN THE CALL BEGINS. Each datum BY PROGRAM (the guide's laid-datum.mjs) off the statement by which the dump's own 'gosem.cut.vars' lays the variable. In a bare row this is a premise. The card (YtdalcgfnlbofdaaGreatDoorCards.lean) ties it to the program's text. -/
def laid_stickler_repr_forms {H : Type} : DataW H := .agg [.agg [.lit (.int .i64 0), .lit (.int .i64 0)], .agg [.lit (.int .i64 128), .lit (.int .i64 7)], .agg [.lit (.int .i64 64), .lit (.int .i64 6)], .agg [.lit (.int .i64 0), .lit (.int .i64 4)], .agg [.lit (.int .i64 16), .lit (.int .i64 4)], .agg [.lit (.int .i64 32), .lit (.int .i64 5)]]

/-- 'sticklerlaw47.DriverFrames': WHATEVER THE INPUT: true; the input reads as it did. -/
def driverFramesSpec : ChangeSpec := { name := "driverFrames", fn := fun _ => fun
  | [d1, d2] => { results := [.lit (.bool true)], args := [d1, d2] }
  | _ => none }
def driverFramesRow : OpenClaim := { program := "ytdalcgfnlbofdaagreatdoor", sum := "d2c70211adff0752393fdca2fe8a77ba30900bc365ea69c059d4ab3c00cb3cb0", func := "stickler/sticklerlaw47.DriverFrames", spec := "driverFrames", unfollowed := true, recurses := true, named := ["stickler/repr.forms"], apart := false, laid := [("stickler/repr.forms", laid_stickler_repr_forms)] }
def DriverFramesSaid : Prop := driverFramesRow.holds Tryz.pinned (OpenSpec.ofChange driverFramesSpec)

/-- ITS FALSE NEIGHBOUR: 'it returns false'. Refute it at one input. -/
def driverFramesWrong : ChangeSpec := { name := "driverFrames", fn := fun _ => fun
  | [d1, d2] => { results := [.lit (.bool false)], args := [d1, d2] }
  | _ => none }
def DriverFramesWrongFalsely : Prop := driverFramesRow.holds Tryz.pinned (OpenSpec.ofChange driverFramesWrong)

/-- 'sticklerlaw48.PeerSays': WHATEVER THE INPUT: true; the input reads as it did. -/
def peerSaysSpec : ChangeSpec := { name := "peerSays", fn := fun _ => fun
  | [d1, d2, d3] => { results := [.lit (.bool true)], args := [d1, d2, d3] }
  | _ => none }
def peerSaysRow : OpenClaim := { program := "ytdalcgfnlbofdaagreatdoor", sum := "d2c70211adff0752393fdca2fe8a77ba30900bc365ea69c059d4ab3c00cb3cb0", func := "stickler/sticklerlaw48.PeerSays", spec := "peerSays", unfollowed := true, recurses := true, named := ["stickler/repr.forms"], apart := false, laid := [("stickler/repr.forms", laid_stickler_repr_forms)] }
def PeerSaysSaid : Prop := peerSaysRow.holds Tryz.pinned (OpenSpec.ofChange peerSaysSpec)

/-- ITS FALSE NEIGHBOUR: 'it returns false'. Refute it at one input. -/
def peerSaysWrong : ChangeSpec := { name := "peerSays", fn := fun _ => fun
  | [d1, d2, d3] => { results := [.lit (.bool false)], args := [d1, d2, d3] }
  | _ => none }
def PeerSaysWrongFalsely : Prop := peerSaysRow.holds Tryz.pinned (OpenSpec.ofChange peerSaysWrong)

/-- 'sticklerlaw52.WeaveReads': WHATEVER THE INPUT: true; the input reads as it did. -/
def weaveReadsSpec : ChangeSpec := { name := "weaveReads", fn := fun _ => fun
  | [d] => { results := [.lit (.bool true)], args := [d] }
  | _ => none }
def weaveReadsRow : OpenClaim := { program := "ytdalcgfnlbofdaagreatdoor", sum := "d2c70211adff0752393fdca2fe8a77ba30900bc365ea69c059d4ab3c00cb3cb0", func := "stickler/sticklerlaw52.WeaveReads", spec := "weaveReads", unfollowed := true, recurses := true, named := ["stickler/repr.forms"], apart := false, laid := [("stickler/repr.forms", laid_stickler_repr_forms)] }
def WeaveReadsSaid : Prop := weaveReadsRow.holds Tryz.pinned (OpenSpec.ofChange weaveReadsSpec)

/-- ITS FALSE NEIGHBOUR: 'it returns false'. Refute it at one input. -/
def weaveReadsWrong : ChangeSpec := { name := "weaveReads", fn := fun _ => fun
  | [d] => { results := [.lit (.bool false)], args := [d] }
  | _ => none }
def WeaveReadsWrongFalsely : Prop := weaveReadsRow.holds Tryz.pinned (OpenSpec.ofChange weaveReadsWrong)

/-- 'sticklerlaw52.WeaveBack': WHATEVER THE INPUT: true; the input reads as it did. -/
def weaveBackSpec : ChangeSpec := { name := "weaveBack", fn := fun _ => fun
  | [d1, d2] => { results := [.lit (.bool true)], args := [d1, d2] }
  | _ => none }
def weaveBackRow : OpenClaim := { program := "ytdalcgfnlbofdaagreatdoor", sum := "d2c70211adff0752393fdca2fe8a77ba30900bc365ea69c059d4ab3c00cb3cb0", func := "stickler/sticklerlaw52.WeaveBack", spec := "weaveBack", unfollowed := true, recurses := true, named := ["stickler/repr.forms"], apart := false, laid := [("stickler/repr.forms", laid_stickler_repr_forms)] }
def WeaveBackSaid : Prop := weaveBackRow.holds Tryz.pinned (OpenSpec.ofChange weaveBackSpec)

/-- ITS FALSE NEIGHBOUR: 'it returns false'. Refute it at one input. -/
def weaveBackWrong : ChangeSpec := { name := "weaveBack", fn := fun _ => fun
  | [d1, d2] => { results := [.lit (.bool false)], args := [d1, d2] }
  | _ => none }
def WeaveBackWrongFalsely : Prop := weaveBackRow.holds Tryz.pinned (OpenSpec.ofChange weaveBackWrong)

/- THE SECOND FORM. 'bulk': how many values and letters a reading holds, each counted each time it is reached (what is shared counts as often as it is met; a slice's spare places count too). A statement '..UptoSaid' is the law's where the arguments, and the package variables that the reading takes, are together of bulk at most 1048576: NARROWER than '..Said'. Prove '..Said' where nothing that the law and all that it calls make is longer than what came in: it says more and counts as full. Else prove '..UptoSaid'. A law counts once. -/
mutual
def uptoBulk {H : Type} : DataW H → Nat
  | .lit (.string bytes) => bytes.length + 1
  | .lit _ => 1
  | .nil => 1
  | .ptr d => uptoBulk d + 1
  | .slice elems spare => uptoBulkAll elems + uptoBulkAll spare + 1
  | .agg parts => uptoBulkAll parts + 1
  | .iface _ d => uptoBulk d + 1
  | .map entries => uptoBulkEntries entries + 1
  | .held _ => 1
def uptoBulkAll {H : Type} : List (DataW H) → Nat
  | [] => 0
  | d :: r => uptoBulk d + uptoBulkAll r
def uptoBulkEntries {H : Type} : List (Lit × DataW H) → Nat
  | [] => 0
  | x :: r => uptoBulkEntry x + uptoBulkEntries r
def uptoBulkEntry {H : Type} : Lit × DataW H → Nat
  | (.string bytes, d) => bytes.length + uptoBulk d + 1
  | (_, d) => uptoBulk d + 1
 end
def uptoSmall : (H : Type) → List (DataW H) → Bool := fun _ ds => decide (uptoBulkAll ds ≤ 1048576)
def OpenSpec.upto (s : _root_.Go.ChangeSpec) : _root_.Go.OpenSpec := { _root_.Go.OpenSpec.ofChange s with cond := some uptoSmall }

/-- 'sticklerlaw47.DriverFrames', WHERE WHAT IT READS IS OF BULK AT MOST 1048576: true; the input reads as it did. -/
def driverFramesUptoRow : OpenClaim := { program := "ytdalcgfnlbofdaagreatdoor", sum := "d2c70211adff0752393fdca2fe8a77ba30900bc365ea69c059d4ab3c00cb3cb0", func := "stickler/sticklerlaw47.DriverFrames", spec := "driverFrames", unfollowed := true, recurses := true, named := ["stickler/repr.forms"], apart := false, laid := [("stickler/repr.forms", laid_stickler_repr_forms)], narrowed := true }
def DriverFramesUptoSaid : Prop := driverFramesUptoRow.holds Tryz.pinned (OpenSpec.upto driverFramesSpec)

/-- 'sticklerlaw48.PeerSays', WHERE WHAT IT READS IS OF BULK AT MOST 1048576: true; the input reads as it did. -/
def peerSaysUptoRow : OpenClaim := { program := "ytdalcgfnlbofdaagreatdoor", sum := "d2c70211adff0752393fdca2fe8a77ba30900bc365ea69c059d4ab3c00cb3cb0", func := "stickler/sticklerlaw48.PeerSays", spec := "peerSays", unfollowed := true, recurses := true, named := ["stickler/repr.forms"], apart := false, laid := [("stickler/repr.forms", laid_stickler_repr_forms)], narrowed := true }
def PeerSaysUptoSaid : Prop := peerSaysUptoRow.holds Tryz.pinned (OpenSpec.upto peerSaysSpec)

/-- 'sticklerlaw52.WeaveReads', WHERE WHAT IT READS IS OF BULK AT MOST 1048576: true; the input reads as it did. -/
def weaveReadsUptoRow : OpenClaim := { program := "ytdalcgfnlbofdaagreatdoor", sum := "d2c70211adff0752393fdca2fe8a77ba30900bc365ea69c059d4ab3c00cb3cb0", func := "stickler/sticklerlaw52.WeaveReads", spec := "weaveReads", unfollowed := true, recurses := true, named := ["stickler/repr.forms"], apart := false, laid := [("stickler/repr.forms", laid_stickler_repr_forms)], narrowed := true }
def WeaveReadsUptoSaid : Prop := weaveReadsUptoRow.holds Tryz.pinned (OpenSpec.upto weaveReadsSpec)

/-- 'sticklerlaw52.WeaveBack', WHERE WHAT IT READS IS OF BULK AT MOST 1048576: true; the input reads as it did. -/
def weaveBackUptoRow : OpenClaim := { program := "ytdalcgfnlbofdaagreatdoor", sum := "d2c70211adff0752393fdca2fe8a77ba30900bc365ea69c059d4ab3c00cb3cb0", func := "stickler/sticklerlaw52.WeaveBack", spec := "weaveBack", unfollowed := true, recurses := true, named := ["stickler/repr.forms"], apart := false, laid := [("stickler/repr.forms", laid_stickler_repr_forms)], narrowed := true }
def WeaveBackUptoSaid : Prop := weaveBackUptoRow.holds Tryz.pinned (OpenSpec.upto weaveBackSpec)

end Rows
end Go.Proofs.YtdalcgfnlbofdaaGreatDoor
