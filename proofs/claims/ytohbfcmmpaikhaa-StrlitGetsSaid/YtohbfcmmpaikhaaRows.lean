/-
  No cell of these rows narrows 'for every input' (looked for: loops, veiled, ifaces, maps, wideKeys, modest, calm, conditions, laid).
  DERIVED. THE GIVEN ROWS OF THIS SEAT. 6 by the template 'for every input the law returns true; each argument reads behind the call as it read before'; 0 by the template 'total and deterministic' (their statements: YtohbfcmmpaikhaaTotals.lean).
  GIVEN WITH THE SEED: the statements are not yours to turn. If you find one false, say at which input.
  Laid BY PROGRAM, IN A SANDBOX (cutbox-rows.mjs): the forced cells as the released guide's own fill.sh prints them over the translation 20c7f892f3593715… (all of the seat's roots in one cut). By AI agents, Wed Nov 11 2026. No macro, syntax, notation, axiom, sorry.
-/
import Derived.Test.YtohbfcmmpaikhaaChecked
import GoSem.Claim
import GoSem.ClaimJoined
import GoSem.ClaimMapViews
import Derived.JoinedTies
import Derived.KernelRfl
namespace Go.Proofs.Ytohbfcmmpaikhaa
/- THE CELL 'sum', in the pinned program and in every row, IS THE sha256 OF THE DUMP (.gsa) THAT YtohbfcmmpaikhaaProg.lean LOADS. Nothing in Lean hashes anything: it is a label: what it is worth is what the hold of that sum in a sandbox is worth. -/
noncomputable def Try.pinned : Pinned := { name := "ytohbfcmmpaikhaa", sum := "20c7f892f35937158f2ca8070dafdadf7778528e1ac22ebb0b3cc1240994882a", checked := Try.checked }
namespace Rows
def none {H : Type} : Left H := { results := [], args := [] }

/-- 'sticklerlaw19.StrlitPuts': WHATEVER THE INPUT: true; the input reads as it did. -/
def strlitPutsSpec : ChangeSpec := { name := "strlitPuts", fn := fun _ => fun
  | [d] => { results := [.lit (.bool true)], args := [d] }
  | _ => none }
def strlitPutsRow : OpenClaim := { program := "ytohbfcmmpaikhaa", sum := "20c7f892f35937158f2ca8070dafdadf7778528e1ac22ebb0b3cc1240994882a", func := "stickler/sticklerlaw19.StrlitPuts", spec := "strlitPuts", recurses := true, apart := false }
def StrlitPutsSaid : Prop := strlitPutsRow.holds Try.pinned (OpenSpec.ofChange strlitPutsSpec)

/-- ITS FALSE NEIGHBOUR: 'it returns false'. Refute it at one input. -/
def strlitPutsWrong : ChangeSpec := { name := "strlitPuts", fn := fun _ => fun
  | [d] => { results := [.lit (.bool false)], args := [d] }
  | _ => none }
def StrlitPutsWrongFalsely : Prop := strlitPutsRow.holds Try.pinned (OpenSpec.ofChange strlitPutsWrong)

/-- 'sticklerlaw17.HuffDecodes': WHATEVER THE INPUT: true; the input reads as it did. -/
def huffDecodesSpec : ChangeSpec := { name := "huffDecodes", fn := fun _ => fun
  | [d] => { results := [.lit (.bool true)], args := [d] }
  | _ => none }
def huffDecodesRow : OpenClaim := { program := "ytohbfcmmpaikhaa", sum := "20c7f892f35937158f2ca8070dafdadf7778528e1ac22ebb0b3cc1240994882a", func := "stickler/sticklerlaw17.HuffDecodes", spec := "huffDecodes", apart := false }
def HuffDecodesSaid : Prop := huffDecodesRow.holds Try.pinned (OpenSpec.ofChange huffDecodesSpec)

/-- ITS FALSE NEIGHBOUR: 'it returns false'. Refute it at one input. -/
def huffDecodesWrong : ChangeSpec := { name := "huffDecodes", fn := fun _ => fun
  | [d] => { results := [.lit (.bool false)], args := [d] }
  | _ => none }
def HuffDecodesWrongFalsely : Prop := huffDecodesRow.holds Try.pinned (OpenSpec.ofChange huffDecodesWrong)

/-- 'sticklerlaw17.HuffBack': WHATEVER THE INPUT: true; the input reads as it did. -/
def huffBackSpec : ChangeSpec := { name := "huffBack", fn := fun _ => fun
  | [d1, d2] => { results := [.lit (.bool true)], args := [d1, d2] }
  | _ => none }
def huffBackRow : OpenClaim := { program := "ytohbfcmmpaikhaa", sum := "20c7f892f35937158f2ca8070dafdadf7778528e1ac22ebb0b3cc1240994882a", func := "stickler/sticklerlaw17.HuffBack", spec := "huffBack", apart := false }
def HuffBackSaid : Prop := huffBackRow.holds Try.pinned (OpenSpec.ofChange huffBackSpec)

/-- ITS FALSE NEIGHBOUR: 'it returns false'. Refute it at one input. -/
def huffBackWrong : ChangeSpec := { name := "huffBack", fn := fun _ => fun
  | [d1, d2] => { results := [.lit (.bool false)], args := [d1, d2] }
  | _ => none }
def HuffBackWrongFalsely : Prop := huffBackRow.holds Try.pinned (OpenSpec.ofChange huffBackWrong)

/-- 'sticklerlaw17.HuffEncodes': WHATEVER THE INPUT: true; the input reads as it did. -/
def huffEncodesSpec : ChangeSpec := { name := "huffEncodes", fn := fun _ => fun
  | [d] => { results := [.lit (.bool true)], args := [d] }
  | _ => none }
def huffEncodesRow : OpenClaim := { program := "ytohbfcmmpaikhaa", sum := "20c7f892f35937158f2ca8070dafdadf7778528e1ac22ebb0b3cc1240994882a", func := "stickler/sticklerlaw17.HuffEncodes", spec := "huffEncodes", apart := false }
def HuffEncodesSaid : Prop := huffEncodesRow.holds Try.pinned (OpenSpec.ofChange huffEncodesSpec)

/-- ITS FALSE NEIGHBOUR: 'it returns false'. Refute it at one input. -/
def huffEncodesWrong : ChangeSpec := { name := "huffEncodes", fn := fun _ => fun
  | [d] => { results := [.lit (.bool false)], args := [d] }
  | _ => none }
def HuffEncodesWrongFalsely : Prop := huffEncodesRow.holds Try.pinned (OpenSpec.ofChange huffEncodesWrong)

/-- 'sticklerlaw19.StrlitGets': WHATEVER THE INPUT: true; the input reads as it did. -/
def strlitGetsSpec : ChangeSpec := { name := "strlitGets", fn := fun _ => fun
  | [d1, d2] => { results := [.lit (.bool true)], args := [d1, d2] }
  | _ => none }
def strlitGetsRow : OpenClaim := { program := "ytohbfcmmpaikhaa", sum := "20c7f892f35937158f2ca8070dafdadf7778528e1ac22ebb0b3cc1240994882a", func := "stickler/sticklerlaw19.StrlitGets", spec := "strlitGets", apart := false }
def StrlitGetsSaid : Prop := strlitGetsRow.holds Try.pinned (OpenSpec.ofChange strlitGetsSpec)

/-- ITS FALSE NEIGHBOUR: 'it returns false'. Refute it at one input. -/
def strlitGetsWrong : ChangeSpec := { name := "strlitGets", fn := fun _ => fun
  | [d1, d2] => { results := [.lit (.bool false)], args := [d1, d2] }
  | _ => none }
def StrlitGetsWrongFalsely : Prop := strlitGetsRow.holds Try.pinned (OpenSpec.ofChange strlitGetsWrong)

/-- 'sticklerlaw19.StrlitBack': WHATEVER THE INPUT: true; the input reads as it did. -/
def strlitBackSpec : ChangeSpec := { name := "strlitBack", fn := fun _ => fun
  | [d1, d2, d3] => { results := [.lit (.bool true)], args := [d1, d2, d3] }
  | _ => none }
def strlitBackRow : OpenClaim := { program := "ytohbfcmmpaikhaa", sum := "20c7f892f35937158f2ca8070dafdadf7778528e1ac22ebb0b3cc1240994882a", func := "stickler/sticklerlaw19.StrlitBack", spec := "strlitBack", apart := false }
def StrlitBackSaid : Prop := strlitBackRow.holds Try.pinned (OpenSpec.ofChange strlitBackSpec)

/-- ITS FALSE NEIGHBOUR: 'it returns false'. Refute it at one input. -/
def strlitBackWrong : ChangeSpec := { name := "strlitBack", fn := fun _ => fun
  | [d1, d2, d3] => { results := [.lit (.bool false)], args := [d1, d2, d3] }
  | _ => none }
def StrlitBackWrongFalsely : Prop := strlitBackRow.holds Try.pinned (OpenSpec.ofChange strlitBackWrong)

/- THE SECOND FORM. 'bulk': how many values and letters a reading holds, each counted each time it is reached (what is shared counts as often as it is met; a slice's spare places count too). A statement '..UptoSaid' is the law's where the arguments, and the package variables that the reading takes, are together of bulk at most 1048576: NARROWER than '..Said'. Prove '..Said' where nothing that the law and all that it calls make is longer than what came in: it says more and counts as full. Else prove '..UptoSaid'. A law counts once. -/
mutual
def uptoBulk {H : Type} : DataW H → Nat
  | .lit (.string bytes) => bytes.length + 1
  | .lit _ => 1
  | .nil => 1
  | .ptr d => uptoBulk d + 1
  | .slice elems spare => uptoBulkAll elems + uptoBulkAll spare + 1
  | .agg parts => uptoBulkAll parts + 1
  | .iface _ d => uptoBulk d + 1
  | .map entries => uptoBulkEntries entries + 1
  | .held _ => 1
def uptoBulkAll {H : Type} : List (DataW H) → Nat
  | [] => 0
  | d :: r => uptoBulk d + uptoBulkAll r
def uptoBulkEntries {H : Type} : List (Lit × DataW H) → Nat
  | [] => 0
  | x :: r => uptoBulkEntry x + uptoBulkEntries r
def uptoBulkEntry {H : Type} : Lit × DataW H → Nat
  | (.string bytes, d) => bytes.length + uptoBulk d + 1
  | (_, d) => uptoBulk d + 1
 end
def uptoSmall : (H : Type) → List (DataW H) → Bool := fun _ ds => decide (uptoBulkAll ds ≤ 1048576)
def OpenSpec.upto (s : _root_.Go.ChangeSpec) : _root_.Go.OpenSpec := { _root_.Go.OpenSpec.ofChange s with cond := some uptoSmall }

/-- 'sticklerlaw19.StrlitPuts', WHERE WHAT IT READS IS OF BULK AT MOST 1048576: true; the input reads as it did. -/
def strlitPutsUptoRow : OpenClaim := { program := "ytohbfcmmpaikhaa", sum := "20c7f892f35937158f2ca8070dafdadf7778528e1ac22ebb0b3cc1240994882a", func := "stickler/sticklerlaw19.StrlitPuts", spec := "strlitPuts", recurses := true, apart := false, narrowed := true }
def StrlitPutsUptoSaid : Prop := strlitPutsUptoRow.holds Try.pinned (OpenSpec.upto strlitPutsSpec)

/-- 'sticklerlaw17.HuffDecodes', WHERE WHAT IT READS IS OF BULK AT MOST 1048576: true; the input reads as it did. -/
def huffDecodesUptoRow : OpenClaim := { program := "ytohbfcmmpaikhaa", sum := "20c7f892f35937158f2ca8070dafdadf7778528e1ac22ebb0b3cc1240994882a", func := "stickler/sticklerlaw17.HuffDecodes", spec := "huffDecodes", apart := false, narrowed := true }
def HuffDecodesUptoSaid : Prop := huffDecodesUptoRow.holds Try.pinned (OpenSpec.upto huffDecodesSpec)

/-- 'sticklerlaw17.HuffBack', WHERE WHAT IT READS IS OF BULK AT MOST 1048576: true; the input reads as it did. -/
def huffBackUptoRow : OpenClaim := { program := "ytohbfcmmpaikhaa", sum := "20c7f892f35937158f2ca8070dafdadf7778528e1ac22ebb0b3cc1240994882a", func := "stickler/sticklerlaw17.HuffBack", spec := "huffBack", apart := false, narrowed := true }
def HuffBackUptoSaid : Prop := huffBackUptoRow.holds Try.pinned (OpenSpec.upto huffBackSpec)

/-- 'sticklerlaw17.HuffEncodes', WHERE WHAT IT READS IS OF BULK AT MOST 1048576: true; the input reads as it did. -/
def huffEncodesUptoRow : OpenClaim := { program := "ytohbfcmmpaikhaa", sum := "20c7f892f35937158f2ca8070dafdadf7778528e1ac22ebb0b3cc1240994882a", func := "stickler/sticklerlaw17.HuffEncodes", spec := "huffEncodes", apart := false, narrowed := true }
def HuffEncodesUptoSaid : Prop := huffEncodesUptoRow.holds Try.pinned (OpenSpec.upto huffEncodesSpec)

/-- 'sticklerlaw19.StrlitGets', WHERE WHAT IT READS IS OF BULK AT MOST 1048576: true; the input reads as it did. -/
def strlitGetsUptoRow : OpenClaim := { program := "ytohbfcmmpaikhaa", sum := "20c7f892f35937158f2ca8070dafdadf7778528e1ac22ebb0b3cc1240994882a", func := "stickler/sticklerlaw19.StrlitGets", spec := "strlitGets", apart := false, narrowed := true }
def StrlitGetsUptoSaid : Prop := strlitGetsUptoRow.holds Try.pinned (OpenSpec.upto strlitGetsSpec)

/-- 'sticklerlaw19.StrlitBack', WHERE WHAT IT READS IS OF BULK AT MOST 1048576: true; the input reads as it did. -/
def strlitBackUptoRow : OpenClaim := { program := "ytohbfcmmpaikhaa", sum := "20c7f892f35937158f2ca8070dafdadf7778528e1ac22ebb0b3cc1240994882a", func := "stickler/sticklerlaw19.StrlitBack", spec := "strlitBack", apart := false, narrowed := true }
def StrlitBackUptoSaid : Prop := strlitBackUptoRow.holds Try.pinned (OpenSpec.upto strlitBackSpec)

end Rows
end Go.Proofs.Ytohbfcmmpaikhaa
