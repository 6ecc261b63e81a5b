/-
  No cell of these rows narrows 'for every input' (looked for: loops, veiled, ifaces, maps, wideKeys, modest, calm, conditions, laid).
  DERIVED. THE GIVEN ROWS OF THIS SEAT. 10 by the template 'for every input the law returns true; each argument reads behind the call as it read before'; 0 by the template 'total and deterministic' (their statements: YtpkangodlfhjgaaTotals.lean).
  GIVEN WITH THE SEED: the statements are not yours to turn. If you find one false, say at which input.
  Laid BY PROGRAM, IN A SANDBOX (cutbox-rows.mjs): the forced cells as the released guide's own fill.sh prints them over the translation c54290278f6c7150… (all of the seat's roots in one cut). By AI agents, Wed Nov 11 2026. No macro, syntax, notation, axiom, sorry.
-/
import Derived.Test.YtpkangodlfhjgaaChecked
import GoSem.Claim
import GoSem.ClaimJoined
import GoSem.ClaimMapViews
import Derived.JoinedTies
import Derived.KernelRfl
namespace Go.Proofs.Ytpkangodlfhjgaa
/- THE CELL 'sum', in the pinned program and in every row, IS THE sha256 OF THE DUMP (.gsa) THAT YtpkangodlfhjgaaProg.lean LOADS. Nothing in Lean hashes anything: it is a label: what it is worth is what the hold of that sum in a sandbox is worth. -/
noncomputable def Try.pinned : Pinned := { name := "ytpkangodlfhjgaa", sum := "c54290278f6c715037aa69b2e8e237cab81538509fa190198d10403157bd6cc5", checked := Try.checked }
namespace Rows
def none {H : Type} : Left H := { results := [], args := [] }

/-- 'sticklerlaw14.FrameParses': WHATEVER THE INPUT: true; the input reads as it did. -/
def frameParsesSpec : ChangeSpec := { name := "frameParses", fn := fun _ => fun
  | [d] => { results := [.lit (.bool true)], args := [d] }
  | _ => none }
def frameParsesRow : OpenClaim := { program := "ytpkangodlfhjgaa", sum := "c54290278f6c715037aa69b2e8e237cab81538509fa190198d10403157bd6cc5", func := "stickler/sticklerlaw14.FrameParses", spec := "frameParses", apart := false }
def FrameParsesSaid : Prop := frameParsesRow.holds Try.pinned (OpenSpec.ofChange frameParsesSpec)

/-- ITS FALSE NEIGHBOUR: 'it returns false'. Refute it at one input. -/
def frameParsesWrong : ChangeSpec := { name := "frameParses", fn := fun _ => fun
  | [d] => { results := [.lit (.bool false)], args := [d] }
  | _ => none }
def FrameParsesWrongFalsely : Prop := frameParsesRow.holds Try.pinned (OpenSpec.ofChange frameParsesWrong)

/-- 'sticklerlaw14.FramePadding': WHATEVER THE INPUT: true; the input reads as it did. -/
def framePaddingSpec : ChangeSpec := { name := "framePadding", fn := fun _ => fun
  | [d1, d2] => { results := [.lit (.bool true)], args := [d1, d2] }
  | _ => none }
def framePaddingRow : OpenClaim := { program := "ytpkangodlfhjgaa", sum := "c54290278f6c715037aa69b2e8e237cab81538509fa190198d10403157bd6cc5", func := "stickler/sticklerlaw14.FramePadding", spec := "framePadding", apart := false }
def FramePaddingSaid : Prop := framePaddingRow.holds Try.pinned (OpenSpec.ofChange framePaddingSpec)

/-- ITS FALSE NEIGHBOUR: 'it returns false'. Refute it at one input. -/
def framePaddingWrong : ChangeSpec := { name := "framePadding", fn := fun _ => fun
  | [d1, d2] => { results := [.lit (.bool false)], args := [d1, d2] }
  | _ => none }
def FramePaddingWrongFalsely : Prop := framePaddingRow.holds Try.pinned (OpenSpec.ofChange framePaddingWrong)

/-- 'sticklerlaw14.FrameSame': WHATEVER THE INPUT: true; the input reads as it did. -/
def frameSameSpec : ChangeSpec := { name := "frameSame", fn := fun _ => fun
  | [d1, d2] => { results := [.lit (.bool true)], args := [d1, d2] }
  | _ => none }
def frameSameRow : OpenClaim := { program := "ytpkangodlfhjgaa", sum := "c54290278f6c715037aa69b2e8e237cab81538509fa190198d10403157bd6cc5", func := "stickler/sticklerlaw14.FrameSame", spec := "frameSame", apart := false }
def FrameSameSaid : Prop := frameSameRow.holds Try.pinned (OpenSpec.ofChange frameSameSpec)

/-- ITS FALSE NEIGHBOUR: 'it returns false'. Refute it at one input. -/
def frameSameWrong : ChangeSpec := { name := "frameSame", fn := fun _ => fun
  | [d1, d2] => { results := [.lit (.bool false)], args := [d1, d2] }
  | _ => none }
def FrameSameWrongFalsely : Prop := frameSameRow.holds Try.pinned (OpenSpec.ofChange frameSameWrong)

/-- 'sticklerlaw49.MatchReads': WHATEVER THE INPUT: true; the input reads as it did. -/
def matchReadsSpec : ChangeSpec := { name := "matchReads", fn := fun _ => fun
  | [d1, d2, d3] => { results := [.lit (.bool true)], args := [d1, d2, d3] }
  | _ => none }
def matchReadsRow : OpenClaim := { program := "ytpkangodlfhjgaa", sum := "c54290278f6c715037aa69b2e8e237cab81538509fa190198d10403157bd6cc5", func := "stickler/sticklerlaw49.MatchReads", spec := "matchReads", apart := false }
def MatchReadsSaid : Prop := matchReadsRow.holds Try.pinned (OpenSpec.ofChange matchReadsSpec)

/-- ITS FALSE NEIGHBOUR: 'it returns false'. Refute it at one input. -/
def matchReadsWrong : ChangeSpec := { name := "matchReads", fn := fun _ => fun
  | [d1, d2, d3] => { results := [.lit (.bool false)], args := [d1, d2, d3] }
  | _ => none }
def MatchReadsWrongFalsely : Prop := matchReadsRow.holds Try.pinned (OpenSpec.ofChange matchReadsWrong)

/-- 'sticklerlaw49.MatchJudges': WHATEVER THE INPUT: true; the input reads as it did. -/
def matchJudgesSpec : ChangeSpec := { name := "matchJudges", fn := fun _ => fun
  | [d1, d2, d3] => { results := [.lit (.bool true)], args := [d1, d2, d3] }
  | _ => none }
def matchJudgesRow : OpenClaim := { program := "ytpkangodlfhjgaa", sum := "c54290278f6c715037aa69b2e8e237cab81538509fa190198d10403157bd6cc5", func := "stickler/sticklerlaw49.MatchJudges", spec := "matchJudges", apart := false }
def MatchJudgesSaid : Prop := matchJudgesRow.holds Try.pinned (OpenSpec.ofChange matchJudgesSpec)

/-- ITS FALSE NEIGHBOUR: 'it returns false'. Refute it at one input. -/
def matchJudgesWrong : ChangeSpec := { name := "matchJudges", fn := fun _ => fun
  | [d1, d2, d3] => { results := [.lit (.bool false)], args := [d1, d2, d3] }
  | _ => none }
def MatchJudgesWrongFalsely : Prop := matchJudgesRow.holds Try.pinned (OpenSpec.ofChange matchJudgesWrong)

/-- 'sticklerlaw15.EmitBack': WHATEVER THE INPUT: true; the input reads as it did. -/
def emitBackSpec : ChangeSpec := { name := "emitBack", fn := fun _ => fun
  | [d1, d2] => { results := [.lit (.bool true)], args := [d1, d2] }
  | _ => none }
def emitBackRow : OpenClaim := { program := "ytpkangodlfhjgaa", sum := "c54290278f6c715037aa69b2e8e237cab81538509fa190198d10403157bd6cc5", func := "stickler/sticklerlaw15.EmitBack", spec := "emitBack", apart := false }
def EmitBackSaid : Prop := emitBackRow.holds Try.pinned (OpenSpec.ofChange emitBackSpec)

/-- ITS FALSE NEIGHBOUR: 'it returns false'. Refute it at one input. -/
def emitBackWrong : ChangeSpec := { name := "emitBack", fn := fun _ => fun
  | [d1, d2] => { results := [.lit (.bool false)], args := [d1, d2] }
  | _ => none }
def EmitBackWrongFalsely : Prop := emitBackRow.holds Try.pinned (OpenSpec.ofChange emitBackWrong)

/-- 'sticklerlaw48.PeerReacts': WHATEVER THE INPUT: true; the input reads as it did. -/
def peerReactsSpec : ChangeSpec := { name := "peerReacts", fn := fun _ => fun
  | [d1, d2, d3] => { results := [.lit (.bool true)], args := [d1, d2, d3] }
  | _ => none }
def peerReactsRow : OpenClaim := { program := "ytpkangodlfhjgaa", sum := "c54290278f6c715037aa69b2e8e237cab81538509fa190198d10403157bd6cc5", func := "stickler/sticklerlaw48.PeerReacts", spec := "peerReacts", apart := false }
def PeerReactsSaid : Prop := peerReactsRow.holds Try.pinned (OpenSpec.ofChange peerReactsSpec)

/-- ITS FALSE NEIGHBOUR: 'it returns false'. Refute it at one input. -/
def peerReactsWrong : ChangeSpec := { name := "peerReacts", fn := fun _ => fun
  | [d1, d2, d3] => { results := [.lit (.bool false)], args := [d1, d2, d3] }
  | _ => none }
def PeerReactsWrongFalsely : Prop := peerReactsRow.holds Try.pinned (OpenSpec.ofChange peerReactsWrong)

/-- 'sticklerlaw15.EmitRaws': WHATEVER THE INPUT: true; the input reads as it did. -/
def emitRawsSpec : ChangeSpec := { name := "emitRaws", fn := fun _ => fun
  | [d1, d2] => { results := [.lit (.bool true)], args := [d1, d2] }
  | _ => none }
def emitRawsRow : OpenClaim := { program := "ytpkangodlfhjgaa", sum := "c54290278f6c715037aa69b2e8e237cab81538509fa190198d10403157bd6cc5", func := "stickler/sticklerlaw15.EmitRaws", spec := "emitRaws", apart := false }
def EmitRawsSaid : Prop := emitRawsRow.holds Try.pinned (OpenSpec.ofChange emitRawsSpec)

/-- ITS FALSE NEIGHBOUR: 'it returns false'. Refute it at one input. -/
def emitRawsWrong : ChangeSpec := { name := "emitRaws", fn := fun _ => fun
  | [d1, d2] => { results := [.lit (.bool false)], args := [d1, d2] }
  | _ => none }
def EmitRawsWrongFalsely : Prop := emitRawsRow.holds Try.pinned (OpenSpec.ofChange emitRawsWrong)

/-- 'sticklerlaw15.EmitAll': WHATEVER THE INPUT: true; the input reads as it did. -/
def emitAllSpec : ChangeSpec := { name := "emitAll", fn := fun _ => fun
  | [d] => { results := [.lit (.bool true)], args := [d] }
  | _ => none }
def emitAllRow : OpenClaim := { program := "ytpkangodlfhjgaa", sum := "c54290278f6c715037aa69b2e8e237cab81538509fa190198d10403157bd6cc5", func := "stickler/sticklerlaw15.EmitAll", spec := "emitAll", apart := false }
def EmitAllSaid : Prop := emitAllRow.holds Try.pinned (OpenSpec.ofChange emitAllSpec)

/-- ITS FALSE NEIGHBOUR: 'it returns false'. Refute it at one input. -/
def emitAllWrong : ChangeSpec := { name := "emitAll", fn := fun _ => fun
  | [d] => { results := [.lit (.bool false)], args := [d] }
  | _ => none }
def EmitAllWrongFalsely : Prop := emitAllRow.holds Try.pinned (OpenSpec.ofChange emitAllWrong)

/-- 'sticklerlaw49.MatchPeer': WHATEVER THE INPUT: true; the input reads as it did. -/
def matchPeerSpec : ChangeSpec := { name := "matchPeer", fn := fun _ => fun
  | [d1, d2, d3] => { results := [.lit (.bool true)], args := [d1, d2, d3] }
  | _ => none }
def matchPeerRow : OpenClaim := { program := "ytpkangodlfhjgaa", sum := "c54290278f6c715037aa69b2e8e237cab81538509fa190198d10403157bd6cc5", func := "stickler/sticklerlaw49.MatchPeer", spec := "matchPeer", apart := false }
def MatchPeerSaid : Prop := matchPeerRow.holds Try.pinned (OpenSpec.ofChange matchPeerSpec)

/-- ITS FALSE NEIGHBOUR: 'it returns false'. Refute it at one input. -/
def matchPeerWrong : ChangeSpec := { name := "matchPeer", fn := fun _ => fun
  | [d1, d2, d3] => { results := [.lit (.bool false)], args := [d1, d2, d3] }
  | _ => none }
def MatchPeerWrongFalsely : Prop := matchPeerRow.holds Try.pinned (OpenSpec.ofChange matchPeerWrong)

/- THE SECOND FORM. 'bulk': how many values and letters a reading holds, each counted each time it is reached (what is shared counts as often as it is met; a slice's spare places count too). A statement '..UptoSaid' is the law's where the arguments, and the package variables that the reading takes, are together of bulk at most 1048576: NARROWER than '..Said'. Prove '..Said' where nothing that the law and all that it calls make is longer than what came in: it says more and counts as full. Else prove '..UptoSaid'. A law counts once. -/
mutual
def uptoBulk {H : Type} : DataW H → Nat
  | .lit (.string bytes) => bytes.length + 1
  | .lit _ => 1
  | .nil => 1
  | .ptr d => uptoBulk d + 1
  | .slice elems spare => uptoBulkAll elems + uptoBulkAll spare + 1
  | .agg parts => uptoBulkAll parts + 1
  | .iface _ d => uptoBulk d + 1
  | .map entries => uptoBulkEntries entries + 1
  | .held _ => 1
def uptoBulkAll {H : Type} : List (DataW H) → Nat
  | [] => 0
  | d :: r => uptoBulk d + uptoBulkAll r
def uptoBulkEntries {H : Type} : List (Lit × DataW H) → Nat
  | [] => 0
  | x :: r => uptoBulkEntry x + uptoBulkEntries r
def uptoBulkEntry {H : Type} : Lit × DataW H → Nat
  | (.string bytes, d) => bytes.length + uptoBulk d + 1
  | (_, d) => uptoBulk d + 1
 end
def uptoSmall : (H : Type) → List (DataW H) → Bool := fun _ ds => decide (uptoBulkAll ds ≤ 1048576)
def OpenSpec.upto (s : _root_.Go.ChangeSpec) : _root_.Go.OpenSpec := { _root_.Go.OpenSpec.ofChange s with cond := some uptoSmall }

/-- 'sticklerlaw14.FrameParses', WHERE WHAT IT READS IS OF BULK AT MOST 1048576: true; the input reads as it did. -/
def frameParsesUptoRow : OpenClaim := { program := "ytpkangodlfhjgaa", sum := "c54290278f6c715037aa69b2e8e237cab81538509fa190198d10403157bd6cc5", func := "stickler/sticklerlaw14.FrameParses", spec := "frameParses", apart := false, narrowed := true }
def FrameParsesUptoSaid : Prop := frameParsesUptoRow.holds Try.pinned (OpenSpec.upto frameParsesSpec)

/-- 'sticklerlaw14.FramePadding', WHERE WHAT IT READS IS OF BULK AT MOST 1048576: true; the input reads as it did. -/
def framePaddingUptoRow : OpenClaim := { program := "ytpkangodlfhjgaa", sum := "c54290278f6c715037aa69b2e8e237cab81538509fa190198d10403157bd6cc5", func := "stickler/sticklerlaw14.FramePadding", spec := "framePadding", apart := false, narrowed := true }
def FramePaddingUptoSaid : Prop := framePaddingUptoRow.holds Try.pinned (OpenSpec.upto framePaddingSpec)

/-- 'sticklerlaw14.FrameSame', WHERE WHAT IT READS IS OF BULK AT MOST 1048576: true; the input reads as it did. -/
def frameSameUptoRow : OpenClaim := { program := "ytpkangodlfhjgaa", sum := "c54290278f6c715037aa69b2e8e237cab81538509fa190198d10403157bd6cc5", func := "stickler/sticklerlaw14.FrameSame", spec := "frameSame", apart := false, narrowed := true }
def FrameSameUptoSaid : Prop := frameSameUptoRow.holds Try.pinned (OpenSpec.upto frameSameSpec)

/-- 'sticklerlaw49.MatchReads', WHERE WHAT IT READS IS OF BULK AT MOST 1048576: true; the input reads as it did. -/
def matchReadsUptoRow : OpenClaim := { program := "ytpkangodlfhjgaa", sum := "c54290278f6c715037aa69b2e8e237cab81538509fa190198d10403157bd6cc5", func := "stickler/sticklerlaw49.MatchReads", spec := "matchReads", apart := false, narrowed := true }
def MatchReadsUptoSaid : Prop := matchReadsUptoRow.holds Try.pinned (OpenSpec.upto matchReadsSpec)

/-- 'sticklerlaw49.MatchJudges', WHERE WHAT IT READS IS OF BULK AT MOST 1048576: true; the input reads as it did. -/
def matchJudgesUptoRow : OpenClaim := { program := "ytpkangodlfhjgaa", sum := "c54290278f6c715037aa69b2e8e237cab81538509fa190198d10403157bd6cc5", func := "stickler/sticklerlaw49.MatchJudges", spec := "matchJudges", apart := false, narrowed := true }
def MatchJudgesUptoSaid : Prop := matchJudgesUptoRow.holds Try.pinned (OpenSpec.upto matchJudgesSpec)

/-- 'sticklerlaw15.EmitBack', WHERE WHAT IT READS IS OF BULK AT MOST 1048576: true; the input reads as it did. -/
def emitBackUptoRow : OpenClaim := { program := "ytpkangodlfhjgaa", sum := "c54290278f6c715037aa69b2e8e237cab81538509fa190198d10403157bd6cc5", func := "stickler/sticklerlaw15.EmitBack", spec := "emitBack", apart := false, narrowed := true }
def EmitBackUptoSaid : Prop := emitBackUptoRow.holds Try.pinned (OpenSpec.upto emitBackSpec)

/-- 'sticklerlaw48.PeerReacts', WHERE WHAT IT READS IS OF BULK AT MOST 1048576: true; the input reads as it did. -/
def peerReactsUptoRow : OpenClaim := { program := "ytpkangodlfhjgaa", sum := "c54290278f6c715037aa69b2e8e237cab81538509fa190198d10403157bd6cc5", func := "stickler/sticklerlaw48.PeerReacts", spec := "peerReacts", apart := false, narrowed := true }
def PeerReactsUptoSaid : Prop := peerReactsUptoRow.holds Try.pinned (OpenSpec.upto peerReactsSpec)

/-- 'sticklerlaw15.EmitRaws', WHERE WHAT IT READS IS OF BULK AT MOST 1048576: true; the input reads as it did. -/
def emitRawsUptoRow : OpenClaim := { program := "ytpkangodlfhjgaa", sum := "c54290278f6c715037aa69b2e8e237cab81538509fa190198d10403157bd6cc5", func := "stickler/sticklerlaw15.EmitRaws", spec := "emitRaws", apart := false, narrowed := true }
def EmitRawsUptoSaid : Prop := emitRawsUptoRow.holds Try.pinned (OpenSpec.upto emitRawsSpec)

/-- 'sticklerlaw15.EmitAll', WHERE WHAT IT READS IS OF BULK AT MOST 1048576: true; the input reads as it did. -/
def emitAllUptoRow : OpenClaim := { program := "ytpkangodlfhjgaa", sum := "c54290278f6c715037aa69b2e8e237cab81538509fa190198d10403157bd6cc5", func := "stickler/sticklerlaw15.EmitAll", spec := "emitAll", apart := false, narrowed := true }
def EmitAllUptoSaid : Prop := emitAllUptoRow.holds Try.pinned (OpenSpec.upto emitAllSpec)

/-- 'sticklerlaw49.MatchPeer', WHERE WHAT IT READS IS OF BULK AT MOST 1048576: true; the input reads as it did. -/
def matchPeerUptoRow : OpenClaim := { program := "ytpkangodlfhjgaa", sum := "c54290278f6c715037aa69b2e8e237cab81538509fa190198d10403157bd6cc5", func := "stickler/sticklerlaw49.MatchPeer", spec := "matchPeer", apart := false, narrowed := true }
def MatchPeerUptoSaid : Prop := matchPeerUptoRow.holds Try.pinned (OpenSpec.upto matchPeerSpec)

end Rows
end Go.Proofs.Ytpkangodlfhjgaa
