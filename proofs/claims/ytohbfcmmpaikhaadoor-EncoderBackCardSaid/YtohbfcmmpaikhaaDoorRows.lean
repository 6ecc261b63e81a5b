/-
  NARROWER THAN 'FOR EVERY INPUT', by the rows' own cells (each row's printed sentence says how): ReprGets: laid · ReprPuts: laid · ReprBack: laid · DecoderPlays: laid · DecoderBounds: laid · DecoderNobody: laid · EncoderWrites: laid · EncoderNobody: laid · EncoderBack: laid.
  DERIVED. THE GIVEN ROWS OF THIS SEAT. 9 by the template 'for every input the law returns true; each argument reads behind the call as it read before'; 0 by the template 'total and deterministic' (their statements: YtohbfcmmpaikhaaDoorTotals.lean).
  GIVEN WITH THE SEED: the statements are not yours to turn. If you find one false, say at which input.
  Laid BY PROGRAM, IN A SANDBOX (cutbox-rows.mjs): the forced cells as the released guide's own fill.sh prints them over the translation 2f5d1bd31f6f9f9d… (all of the seat's roots in one cut). By AI agents, Wed Nov 11 2026. No macro, syntax, notation, axiom, sorry.
-/
import Derived.Test.YtohbfcmmpaikhaaDoorChecked
import GoSem.Claim
import GoSem.ClaimJoined
import GoSem.ClaimMapViews
import Derived.JoinedTies
import Derived.KernelRfl
namespace Go.Proofs.YtohbfcmmpaikhaaDoor
/- THE CELL 'sum', in the pinned program and in every row, IS THE sha256 OF THE DUMP (.gsa) THAT YtohbfcmmpaikhaaDoorProg.lean LOADS. Nothing in Lean hashes anything: it is a label: what it is worth is what the hold of that sum in a sandbox is worth. -/
noncomputable def Tryd.pinned : Pinned := { name := "ytohbfcmmpaikhaadoor", sum := "2f5d1bd31f6f9f9dea579031b902e801c948eec4aa3091d18c0382d0a890eb7d", checked := Tryd.checked }
namespace Rows
def none {H : Type} : Left H := { results := [], args := [] }

/- WHAT THE LISTED PACKAGE-LEVEL VARIABLES READ AS WHEN THE CALL BEGINS. Each datum BY PROGRAM (the guide's laid-datum.mjs) off the statement by which the dump's own 'gosem.cut.vars' lays the variable. In a bare row this is a premise. The card (YtohbfcmmpaikhaaDoorCards.lean) ties it to the program's text. -/
def laid_stickler_repr_forms {H : Type} : DataW H := .agg [.agg [.lit (.int .i64 0), .lit (.int .i64 0)], .agg [.lit (.int .i64 128), .lit (.int .i64 7)], .agg [.lit (.int .i64 64), .lit (.int .i64 6)], .agg [.lit (.int .i64 0), .lit (.int .i64 4)], .agg [.lit (.int .i64 16), .lit (.int .i64 4)], .agg [.lit (.int .i64 32), .lit (.int .i64 5)]]

/-- 'sticklerlaw22.ReprGets': WHATEVER THE INPUT: true; the input reads as it did. -/
def reprGetsSpec : ChangeSpec := { name := "reprGets", fn := fun _ => fun
  | [d] => { results := [.lit (.bool true)], args := [d] }
  | _ => none }
def reprGetsRow : OpenClaim := { program := "ytohbfcmmpaikhaadoor", sum := "2f5d1bd31f6f9f9dea579031b902e801c948eec4aa3091d18c0382d0a890eb7d", func := "stickler/sticklerlaw22.ReprGets", spec := "reprGets", named := ["stickler/repr.forms"], apart := false, laid := [("stickler/repr.forms", laid_stickler_repr_forms)] }
def ReprGetsSaid : Prop := reprGetsRow.holds Tryd.pinned (OpenSpec.ofChange reprGetsSpec)

/-- ITS FALSE NEIGHBOUR: 'it returns false'. Refute it at one input. -/
def reprGetsWrong : ChangeSpec := { name := "reprGets", fn := fun _ => fun
  | [d] => { results := [.lit (.bool false)], args := [d] }
  | _ => none }
def ReprGetsWrongFalsely : Prop := reprGetsRow.holds Tryd.pinned (OpenSpec.ofChange reprGetsWrong)

/-- 'sticklerlaw22.ReprPuts': WHATEVER THE INPUT: true; the input reads as it did. -/
def reprPutsSpec : ChangeSpec := { name := "reprPuts", fn := fun _ => fun
  | [d] => { results := [.lit (.bool true)], args := [d] }
  | _ => none }
def reprPutsRow : OpenClaim := { program := "ytohbfcmmpaikhaadoor", sum := "2f5d1bd31f6f9f9dea579031b902e801c948eec4aa3091d18c0382d0a890eb7d", func := "stickler/sticklerlaw22.ReprPuts", spec := "reprPuts", recurses := true, named := ["stickler/repr.forms"], apart := false, laid := [("stickler/repr.forms", laid_stickler_repr_forms)] }
def ReprPutsSaid : Prop := reprPutsRow.holds Tryd.pinned (OpenSpec.ofChange reprPutsSpec)

/-- ITS FALSE NEIGHBOUR: 'it returns false'. Refute it at one input. -/
def reprPutsWrong : ChangeSpec := { name := "reprPuts", fn := fun _ => fun
  | [d] => { results := [.lit (.bool false)], args := [d] }
  | _ => none }
def ReprPutsWrongFalsely : Prop := reprPutsRow.holds Tryd.pinned (OpenSpec.ofChange reprPutsWrong)

/-- 'sticklerlaw22.ReprBack': WHATEVER THE INPUT: true; the input reads as it did. -/
def reprBackSpec : ChangeSpec := { name := "reprBack", fn := fun _ => fun
  | [d1, d2, d3] => { results := [.lit (.bool true)], args := [d1, d2, d3] }
  | _ => none }
def reprBackRow : OpenClaim := { program := "ytohbfcmmpaikhaadoor", sum := "2f5d1bd31f6f9f9dea579031b902e801c948eec4aa3091d18c0382d0a890eb7d", func := "stickler/sticklerlaw22.ReprBack", spec := "reprBack", named := ["stickler/repr.forms"], apart := false, laid := [("stickler/repr.forms", laid_stickler_repr_forms)] }
def ReprBackSaid : Prop := reprBackRow.holds Tryd.pinned (OpenSpec.ofChange reprBackSpec)

/-- ITS FALSE NEIGHBOUR: 'it returns false'. Refute it at one input. -/
def reprBackWrong : ChangeSpec := { name := "reprBack", fn := fun _ => fun
  | [d1, d2, d3] => { results := [.lit (.bool false)], args := [d1, d2, d3] }
  | _ => none }
def ReprBackWrongFalsely : Prop := reprBackRow.holds Tryd.pinned (OpenSpec.ofChange reprBackWrong)

/-- 'sticklerlaw23.DecoderPlays': WHATEVER THE INPUT: true; the input reads as it did. -/
def decoderPlaysSpec : ChangeSpec := { name := "decoderPlays", fn := fun _ => fun
  | [d1, d2] => { results := [.lit (.bool true)], args := [d1, d2] }
  | _ => none }
def decoderPlaysRow : OpenClaim := { program := "ytohbfcmmpaikhaadoor", sum := "2f5d1bd31f6f9f9dea579031b902e801c948eec4aa3091d18c0382d0a890eb7d", func := "stickler/sticklerlaw23.DecoderPlays", spec := "decoderPlays", named := ["stickler/repr.forms"], apart := false, laid := [("stickler/repr.forms", laid_stickler_repr_forms)] }
def DecoderPlaysSaid : Prop := decoderPlaysRow.holds Tryd.pinned (OpenSpec.ofChange decoderPlaysSpec)

/-- ITS FALSE NEIGHBOUR: 'it returns false'. Refute it at one input. -/
def decoderPlaysWrong : ChangeSpec := { name := "decoderPlays", fn := fun _ => fun
  | [d1, d2] => { results := [.lit (.bool false)], args := [d1, d2] }
  | _ => none }
def DecoderPlaysWrongFalsely : Prop := decoderPlaysRow.holds Tryd.pinned (OpenSpec.ofChange decoderPlaysWrong)

/-- 'sticklerlaw23.DecoderBounds': WHATEVER THE INPUT: true; the input reads as it did. -/
def decoderBoundsSpec : ChangeSpec := { name := "decoderBounds", fn := fun _ => fun
  | [d1, d2] => { results := [.lit (.bool true)], args := [d1, d2] }
  | _ => none }
def decoderBoundsRow : OpenClaim := { program := "ytohbfcmmpaikhaadoor", sum := "2f5d1bd31f6f9f9dea579031b902e801c948eec4aa3091d18c0382d0a890eb7d", func := "stickler/sticklerlaw23.DecoderBounds", spec := "decoderBounds", named := ["stickler/repr.forms"], apart := false, laid := [("stickler/repr.forms", laid_stickler_repr_forms)] }
def DecoderBoundsSaid : Prop := decoderBoundsRow.holds Tryd.pinned (OpenSpec.ofChange decoderBoundsSpec)

/-- ITS FALSE NEIGHBOUR: 'it returns false'. Refute it at one input. -/
def decoderBoundsWrong : ChangeSpec := { name := "decoderBounds", fn := fun _ => fun
  | [d1, d2] => { results := [.lit (.bool false)], args := [d1, d2] }
  | _ => none }
def DecoderBoundsWrongFalsely : Prop := decoderBoundsRow.holds Tryd.pinned (OpenSpec.ofChange decoderBoundsWrong)

/-- 'sticklerlaw23.DecoderNobody': WHATEVER THE INPUT: true; the input reads as it did. -/
def decoderNobodySpec : ChangeSpec := { name := "decoderNobody", fn := fun _ => fun
  | [d] => { results := [.lit (.bool true)], args := [d] }
  | _ => none }
def decoderNobodyRow : OpenClaim := { program := "ytohbfcmmpaikhaadoor", sum := "2f5d1bd31f6f9f9dea579031b902e801c948eec4aa3091d18c0382d0a890eb7d", func := "stickler/sticklerlaw23.DecoderNobody", spec := "decoderNobody", named := ["stickler/repr.forms"], apart := false, laid := [("stickler/repr.forms", laid_stickler_repr_forms)] }
def DecoderNobodySaid : Prop := decoderNobodyRow.holds Tryd.pinned (OpenSpec.ofChange decoderNobodySpec)

/-- ITS FALSE NEIGHBOUR: 'it returns false'. Refute it at one input. -/
def decoderNobodyWrong : ChangeSpec := { name := "decoderNobody", fn := fun _ => fun
  | [d] => { results := [.lit (.bool false)], args := [d] }
  | _ => none }
def DecoderNobodyWrongFalsely : Prop := decoderNobodyRow.holds Tryd.pinned (OpenSpec.ofChange decoderNobodyWrong)

/-- 'sticklerlaw24.EncoderWrites': WHATEVER THE INPUT: true; the input reads as it did. -/
def encoderWritesSpec : ChangeSpec := { name := "encoderWrites", fn := fun _ => fun
  | [d1, d2] => { results := [.lit (.bool true)], args := [d1, d2] }
  | _ => none }
def encoderWritesRow : OpenClaim := { program := "ytohbfcmmpaikhaadoor", sum := "2f5d1bd31f6f9f9dea579031b902e801c948eec4aa3091d18c0382d0a890eb7d", func := "stickler/sticklerlaw24.EncoderWrites", spec := "encoderWrites", unfollowed := true, recurses := true, named := ["stickler/repr.forms"], apart := false, laid := [("stickler/repr.forms", laid_stickler_repr_forms)] }
def EncoderWritesSaid : Prop := encoderWritesRow.holds Tryd.pinned (OpenSpec.ofChange encoderWritesSpec)

/-- ITS FALSE NEIGHBOUR: 'it returns false'. Refute it at one input. -/
def encoderWritesWrong : ChangeSpec := { name := "encoderWrites", fn := fun _ => fun
  | [d1, d2] => { results := [.lit (.bool false)], args := [d1, d2] }
  | _ => none }
def EncoderWritesWrongFalsely : Prop := encoderWritesRow.holds Tryd.pinned (OpenSpec.ofChange encoderWritesWrong)

/-- 'sticklerlaw24.EncoderNobody': WHATEVER THE INPUT: true; the input reads as it did. -/
def encoderNobodySpec : ChangeSpec := { name := "encoderNobody", fn := fun _ => fun
  | [d] => { results := [.lit (.bool true)], args := [d] }
  | _ => none }
def encoderNobodyRow : OpenClaim := { program := "ytohbfcmmpaikhaadoor", sum := "2f5d1bd31f6f9f9dea579031b902e801c948eec4aa3091d18c0382d0a890eb7d", func := "stickler/sticklerlaw24.EncoderNobody", spec := "encoderNobody", unfollowed := true, recurses := true, named := ["stickler/repr.forms"], apart := false, laid := [("stickler/repr.forms", laid_stickler_repr_forms)] }
def EncoderNobodySaid : Prop := encoderNobodyRow.holds Tryd.pinned (OpenSpec.ofChange encoderNobodySpec)

/-- ITS FALSE NEIGHBOUR: 'it returns false'. Refute it at one input. -/
def encoderNobodyWrong : ChangeSpec := { name := "encoderNobody", fn := fun _ => fun
  | [d] => { results := [.lit (.bool false)], args := [d] }
  | _ => none }
def EncoderNobodyWrongFalsely : Prop := encoderNobodyRow.holds Tryd.pinned (OpenSpec.ofChange encoderNobodyWrong)

/-- 'sticklerlaw24.EncoderBack': WHATEVER THE INPUT: true; the input reads as it did. -/
def encoderBackSpec : ChangeSpec := { name := "encoderBack", fn := fun _ => fun
  | [d1, d2] => { results := [.lit (.bool true)], args := [d1, d2] }
  | _ => none }
def encoderBackRow : OpenClaim := { program := "ytohbfcmmpaikhaadoor", sum := "2f5d1bd31f6f9f9dea579031b902e801c948eec4aa3091d18c0382d0a890eb7d", func := "stickler/sticklerlaw24.EncoderBack", spec := "encoderBack", unfollowed := true, recurses := true, named := ["stickler/repr.forms"], apart := false, laid := [("stickler/repr.forms", laid_stickler_repr_forms)] }
def EncoderBackSaid : Prop := encoderBackRow.holds Tryd.pinned (OpenSpec.ofChange encoderBackSpec)

/-- ITS FALSE NEIGHBOUR: 'it returns false'. Refute it at one input. -/
def encoderBackWrong : ChangeSpec := { name := "encoderBack", fn := fun _ => fun
  | [d1, d2] => { results := [.lit (.bool false)], args := [d1, d2] }
  | _ => none }
def EncoderBackWrongFalsely : Prop := encoderBackRow.holds Tryd.pinned (OpenSpec.ofChange encoderBackWrong)

/- THE SECOND FORM. 'bulk': how many values and letters a reading holds, each counted each time it is reached (what is shared counts as often as it is met; a slice's spare places count too). A statement '..UptoSaid' is the law's where the arguments, and the package variables that the reading takes, are together of bulk at most 1048576: NARROWER than '..Said'. Prove '..Said' where nothing that the law and all that it calls make is longer than what came in: it says more and counts as full. Else prove '..UptoSaid'. A law counts once. -/
mutual
def uptoBulk {H : Type} : DataW H → Nat
  | .lit (.string bytes) => bytes.length + 1
  | .lit _ => 1
  | .nil => 1
  | .ptr d => uptoBulk d + 1
  | .slice elems spare => uptoBulkAll elems + uptoBulkAll spare + 1
  | .agg parts => uptoBulkAll parts + 1
  | .iface _ d => uptoBulk d + 1
  | .map entries => uptoBulkEntries entries + 1
  | .held _ => 1
def uptoBulkAll {H : Type} : List (DataW H) → Nat
  | [] => 0
  | d :: r => uptoBulk d + uptoBulkAll r
def uptoBulkEntries {H : Type} : List (Lit × DataW H) → Nat
  | [] => 0
  | x :: r => uptoBulkEntry x + uptoBulkEntries r
def uptoBulkEntry {H : Type} : Lit × DataW H → Nat
  | (.string bytes, d) => bytes.length + uptoBulk d + 1
  | (_, d) => uptoBulk d + 1
 end
def uptoSmall : (H : Type) → List (DataW H) → Bool := fun _ ds => decide (uptoBulkAll ds ≤ 1048576)
def OpenSpec.upto (s : _root_.Go.ChangeSpec) : _root_.Go.OpenSpec := { _root_.Go.OpenSpec.ofChange s with cond := some uptoSmall }

/-- 'sticklerlaw22.ReprGets', WHERE WHAT IT READS IS OF BULK AT MOST 1048576: true; the input reads as it did. -/
def reprGetsUptoRow : OpenClaim := { program := "ytohbfcmmpaikhaadoor", sum := "2f5d1bd31f6f9f9dea579031b902e801c948eec4aa3091d18c0382d0a890eb7d", func := "stickler/sticklerlaw22.ReprGets", spec := "reprGets", named := ["stickler/repr.forms"], apart := false, laid := [("stickler/repr.forms", laid_stickler_repr_forms)], narrowed := true }
def ReprGetsUptoSaid : Prop := reprGetsUptoRow.holds Tryd.pinned (OpenSpec.upto reprGetsSpec)

/-- 'sticklerlaw22.ReprPuts', WHERE WHAT IT READS IS OF BULK AT MOST 1048576: true; the input reads as it did. -/
def reprPutsUptoRow : OpenClaim := { program := "ytohbfcmmpaikhaadoor", sum := "2f5d1bd31f6f9f9dea579031b902e801c948eec4aa3091d18c0382d0a890eb7d", func := "stickler/sticklerlaw22.ReprPuts", spec := "reprPuts", recurses := true, named := ["stickler/repr.forms"], apart := false, laid := [("stickler/repr.forms", laid_stickler_repr_forms)], narrowed := true }
def ReprPutsUptoSaid : Prop := reprPutsUptoRow.holds Tryd.pinned (OpenSpec.upto reprPutsSpec)

/-- 'sticklerlaw22.ReprBack', WHERE WHAT IT READS IS OF BULK AT MOST 1048576: true; the input reads as it did. -/
def reprBackUptoRow : OpenClaim := { program := "ytohbfcmmpaikhaadoor", sum := "2f5d1bd31f6f9f9dea579031b902e801c948eec4aa3091d18c0382d0a890eb7d", func := "stickler/sticklerlaw22.ReprBack", spec := "reprBack", named := ["stickler/repr.forms"], apart := false, laid := [("stickler/repr.forms", laid_stickler_repr_forms)], narrowed := true }
def ReprBackUptoSaid : Prop := reprBackUptoRow.holds Tryd.pinned (OpenSpec.upto reprBackSpec)

/-- 'sticklerlaw23.DecoderPlays', WHERE WHAT IT READS IS OF BULK AT MOST 1048576: true; the input reads as it did. -/
def decoderPlaysUptoRow : OpenClaim := { program := "ytohbfcmmpaikhaadoor", sum := "2f5d1bd31f6f9f9dea579031b902e801c948eec4aa3091d18c0382d0a890eb7d", func := "stickler/sticklerlaw23.DecoderPlays", spec := "decoderPlays", named := ["stickler/repr.forms"], apart := false, laid := [("stickler/repr.forms", laid_stickler_repr_forms)], narrowed := true }
def DecoderPlaysUptoSaid : Prop := decoderPlaysUptoRow.holds Tryd.pinned (OpenSpec.upto decoderPlaysSpec)

/-- 'sticklerlaw23.DecoderBounds', WHERE WHAT IT READS IS OF BULK AT MOST 1048576: true; the input reads as it did. -/
def decoderBoundsUptoRow : OpenClaim := { program := "ytohbfcmmpaikhaadoor", sum := "2f5d1bd31f6f9f9dea579031b902e801c948eec4aa3091d18c0382d0a890eb7d", func := "stickler/sticklerlaw23.DecoderBounds", spec := "decoderBounds", named := ["stickler/repr.forms"], apart := false, laid := [("stickler/repr.forms", laid_stickler_repr_forms)], narrowed := true }
def DecoderBoundsUptoSaid : Prop := decoderBoundsUptoRow.holds Tryd.pinned (OpenSpec.upto decoderBoundsSpec)

/-- 'sticklerlaw23.DecoderNobody', WHERE WHAT IT READS IS OF BULK AT MOST 1048576: true; the input reads as it did. -/
def decoderNobodyUptoRow : OpenClaim := { program := "ytohbfcmmpaikhaadoor", sum := "2f5d1bd31f6f9f9dea579031b902e801c948eec4aa3091d18c0382d0a890eb7d", func := "stickler/sticklerlaw23.DecoderNobody", spec := "decoderNobody", named := ["stickler/repr.forms"], apart := false, laid := [("stickler/repr.forms", laid_stickler_repr_forms)], narrowed := true }
def DecoderNobodyUptoSaid : Prop := decoderNobodyUptoRow.holds Tryd.pinned (OpenSpec.upto decoderNobodySpec)

/-- 'sticklerlaw24.EncoderWrites', WHERE WHAT IT READS IS OF BULK AT MOST 1048576: true; the input reads as it did. -/
def encoderWritesUptoRow : OpenClaim := { program := "ytohbfcmmpaikhaadoor", sum := "2f5d1bd31f6f9f9dea579031b902e801c948eec4aa3091d18c0382d0a890eb7d", func := "stickler/sticklerlaw24.EncoderWrites", spec := "encoderWrites", unfollowed := true, recurses := true, named := ["stickler/repr.forms"], apart := false, laid := [("stickler/repr.forms", laid_stickler_repr_forms)], narrowed := true }
def EncoderWritesUptoSaid : Prop := encoderWritesUptoRow.holds Tryd.pinned (OpenSpec.upto encoderWritesSpec)

/-- 'sticklerlaw24.EncoderNobody', WHERE WHAT IT READS IS OF BULK AT MOST 1048576: true; the input reads as it did. -/
def encoderNobodyUptoRow : OpenClaim := { program := "ytohbfcmmpaikhaadoor", sum := "2f5d1bd31f6f9f9dea579031b902e801c948eec4aa3091d18c0382d0a890eb7d", func := "stickler/sticklerlaw24.EncoderNobody", spec := "encoderNobody", unfollowed := true, recurses := true, named := ["stickler/repr.forms"], apart := false, laid := [("stickler/repr.forms", laid_stickler_repr_forms)], narrowed := true }
def EncoderNobodyUptoSaid : Prop := encoderNobodyUptoRow.holds Tryd.pinned (OpenSpec.upto encoderNobodySpec)

/-- 'sticklerlaw24.EncoderBack', WHERE WHAT IT READS IS OF BULK AT MOST 1048576: true; the input reads as it did. -/
def encoderBackUptoRow : OpenClaim := { program := "ytohbfcmmpaikhaadoor", sum := "2f5d1bd31f6f9f9dea579031b902e801c948eec4aa3091d18c0382d0a890eb7d", func := "stickler/sticklerlaw24.EncoderBack", spec := "encoderBack", unfollowed := true, recurses := true, named := ["stickler/repr.forms"], apart := false, laid := [("stickler/repr.forms", laid_stickler_repr_forms)], narrowed := true }
def EncoderBackUptoSaid : Prop := encoderBackUptoRow.holds Tryd.pinned (OpenSpec.upto encoderBackSpec)

end Rows
end Go.Proofs.YtohbfcmmpaikhaaDoor
