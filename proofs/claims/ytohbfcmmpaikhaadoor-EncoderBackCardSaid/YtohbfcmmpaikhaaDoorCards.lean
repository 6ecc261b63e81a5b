/-
  DERIVED. GIVEN WITH THE SEED: THE CARDS: each row of YtohbfcmmpaikhaaDoorRows.lean that lists a variable, with what it lists TIED to the program's text (the seventh form; the later family's looks); each row that meets fmt, with fmt's text TOLD by the authors' own Lean function (tested against real Go, not proved from fmt's source: count such statements apart). THE CARD IS WHAT COUNTS. Prove the row's statement (the work); the ties are given (YtohbfcmmpaikhaaDoorTie.lean); close each card by the builder's one call (the guide's Derived/Test/ToyasCard.lean, 'card_holds'). Laid BY PROGRAM, IN A SANDBOX (cutbox-door.mjs). By AI agents, Wed Nov 11 2026. No macro, syntax, notation, axiom, sorry.
-/
import Derived.Test.YtohbfcmmpaikhaaDoorRows
import GoSem.ClaimSeven
namespace Go.Proofs.YtohbfcmmpaikhaaDoor
namespace Rows

/-- THE TIED CARD OF 'sticklerlaw22.ReprGets'. -/
def reprGetsCard : Claim7 := { stood := { row := reprGetsRow, standIns := [], harness := (true, "2c3492c323027f98196b3e7a22b55536c856cee1f6c354782aab8f9fb9f16f6e"), looks := false }, kinds := [], alts := [], laidByText := true, laidKinds := [.data], laidTests := true, laidLooks := .later }
def ReprGetsCardSaid : Prop := Claim7.holds Tryd.pinned (.plain (OpenSpec.ofChange reprGetsSpec)) reprGetsCard

/-- THE TIED CARD OF 'sticklerlaw22.ReprPuts'. -/
def reprPutsCard : Claim7 := { stood := { row := reprPutsRow, standIns := [], harness := (true, "2c3492c323027f98196b3e7a22b55536c856cee1f6c354782aab8f9fb9f16f6e"), looks := false }, kinds := [], alts := [], laidByText := true, laidKinds := [.data], laidTests := true, laidLooks := .later }
def ReprPutsCardSaid : Prop := Claim7.holds Tryd.pinned (.plain (OpenSpec.ofChange reprPutsSpec)) reprPutsCard

/-- THE TIED CARD OF 'sticklerlaw22.ReprBack'. -/
def reprBackCard : Claim7 := { stood := { row := reprBackRow, standIns := [], harness := (true, "2c3492c323027f98196b3e7a22b55536c856cee1f6c354782aab8f9fb9f16f6e"), looks := false }, kinds := [], alts := [], laidByText := true, laidKinds := [.data], laidTests := true, laidLooks := .later }
def ReprBackCardSaid : Prop := Claim7.holds Tryd.pinned (.plain (OpenSpec.ofChange reprBackSpec)) reprBackCard

/-- THE TIED CARD OF 'sticklerlaw23.DecoderPlays'. -/
def decoderPlaysCard : Claim7 := { stood := { row := decoderPlaysRow, standIns := [], harness := (true, "2c3492c323027f98196b3e7a22b55536c856cee1f6c354782aab8f9fb9f16f6e"), looks := false }, kinds := [], alts := [], laidByText := true, laidKinds := [.data], laidTests := true, laidLooks := .later }
def DecoderPlaysCardSaid : Prop := Claim7.holds Tryd.pinned (.plain (OpenSpec.ofChange decoderPlaysSpec)) decoderPlaysCard

/-- THE TIED CARD OF 'sticklerlaw23.DecoderBounds'. -/
def decoderBoundsCard : Claim7 := { stood := { row := decoderBoundsRow, standIns := [], harness := (true, "2c3492c323027f98196b3e7a22b55536c856cee1f6c354782aab8f9fb9f16f6e"), looks := false }, kinds := [], alts := [], laidByText := true, laidKinds := [.data], laidTests := true, laidLooks := .later }
def DecoderBoundsCardSaid : Prop := Claim7.holds Tryd.pinned (.plain (OpenSpec.ofChange decoderBoundsSpec)) decoderBoundsCard

/-- THE TIED CARD OF 'sticklerlaw23.DecoderNobody'. -/
def decoderNobodyCard : Claim7 := { stood := { row := decoderNobodyRow, standIns := [], harness := (true, "2c3492c323027f98196b3e7a22b55536c856cee1f6c354782aab8f9fb9f16f6e"), looks := false }, kinds := [], alts := [], laidByText := true, laidKinds := [.data], laidTests := true, laidLooks := .later }
def DecoderNobodyCardSaid : Prop := Claim7.holds Tryd.pinned (.plain (OpenSpec.ofChange decoderNobodySpec)) decoderNobodyCard

/-- THE TIED CARD OF 'sticklerlaw24.EncoderWrites'. -/
def encoderWritesCard : Claim7 := { stood := { row := encoderWritesRow, standIns := [], harness := (true, "2c3492c323027f98196b3e7a22b55536c856cee1f6c354782aab8f9fb9f16f6e"), looks := false }, kinds := [], alts := [], laidByText := true, laidKinds := [.data], laidTests := true, laidLooks := .later }
def EncoderWritesCardSaid : Prop := Claim7.holds Tryd.pinned (.plain (OpenSpec.ofChange encoderWritesSpec)) encoderWritesCard

/-- THE TIED CARD OF 'sticklerlaw24.EncoderNobody'. -/
def encoderNobodyCard : Claim7 := { stood := { row := encoderNobodyRow, standIns := [], harness := (true, "2c3492c323027f98196b3e7a22b55536c856cee1f6c354782aab8f9fb9f16f6e"), looks := false }, kinds := [], alts := [], laidByText := true, laidKinds := [.data], laidTests := true, laidLooks := .later }
def EncoderNobodyCardSaid : Prop := Claim7.holds Tryd.pinned (.plain (OpenSpec.ofChange encoderNobodySpec)) encoderNobodyCard

/-- THE TIED CARD OF 'sticklerlaw24.EncoderBack'. -/
def encoderBackCard : Claim7 := { stood := { row := encoderBackRow, standIns := [], harness := (true, "2c3492c323027f98196b3e7a22b55536c856cee1f6c354782aab8f9fb9f16f6e"), looks := false }, kinds := [], alts := [], laidByText := true, laidKinds := [.data], laidTests := true, laidLooks := .later }
def EncoderBackCardSaid : Prop := Claim7.holds Tryd.pinned (.plain (OpenSpec.ofChange encoderBackSpec)) encoderBackCard

/-- THE SECOND FORM's CARD OF 'sticklerlaw22.ReprGets'. -/
def reprGetsUptoCard : Claim7 := { stood := { row := reprGetsUptoRow, standIns := [], harness := (true, "2c3492c323027f98196b3e7a22b55536c856cee1f6c354782aab8f9fb9f16f6e"), looks := false }, kinds := [], alts := [], laidByText := true, laidKinds := [.data], laidTests := true, laidLooks := .later }
def ReprGetsUptoCardSaid : Prop := Claim7.holds Tryd.pinned (.plain (OpenSpec.upto reprGetsSpec)) reprGetsUptoCard

/-- THE SECOND FORM's CARD OF 'sticklerlaw22.ReprPuts'. -/
def reprPutsUptoCard : Claim7 := { stood := { row := reprPutsUptoRow, standIns := [], harness := (true, "2c3492c323027f98196b3e7a22b55536c856cee1f6c354782aab8f9fb9f16f6e"), looks := false }, kinds := [], alts := [], laidByText := true, laidKinds := [.data], laidTests := true, laidLooks := .later }
def ReprPutsUptoCardSaid : Prop := Claim7.holds Tryd.pinned (.plain (OpenSpec.upto reprPutsSpec)) reprPutsUptoCard

/-- THE SECOND FORM's CARD OF 'sticklerlaw22.ReprBack'. -/
def reprBackUptoCard : Claim7 := { stood := { row := reprBackUptoRow, standIns := [], harness := (true, "2c3492c323027f98196b3e7a22b55536c856cee1f6c354782aab8f9fb9f16f6e"), looks := false }, kinds := [], alts := [], laidByText := true, laidKinds := [.data], laidTests := true, laidLooks := .later }
def ReprBackUptoCardSaid : Prop := Claim7.holds Tryd.pinned (.plain (OpenSpec.upto reprBackSpec)) reprBackUptoCard

/-- THE SECOND FORM's CARD OF 'sticklerlaw23.DecoderPlays'. -/
def decoderPlaysUptoCard : Claim7 := { stood := { row := decoderPlaysUptoRow, standIns := [], harness := (true, "2c3492c323027f98196b3e7a22b55536c856cee1f6c354782aab8f9fb9f16f6e"), looks := false }, kinds := [], alts := [], laidByText := true, laidKinds := [.data], laidTests := true, laidLooks := .later }
def DecoderPlaysUptoCardSaid : Prop := Claim7.holds Tryd.pinned (.plain (OpenSpec.upto decoderPlaysSpec)) decoderPlaysUptoCard

/-- THE SECOND FORM's CARD OF 'sticklerlaw23.DecoderBounds'. -/
def decoderBoundsUptoCard : Claim7 := { stood := { row := decoderBoundsUptoRow, standIns := [], harness := (true, "2c3492c323027f98196b3e7a22b55536c856cee1f6c354782aab8f9fb9f16f6e"), looks := false }, kinds := [], alts := [], laidByText := true, laidKinds := [.data], laidTests := true, laidLooks := .later }
def DecoderBoundsUptoCardSaid : Prop := Claim7.holds Tryd.pinned (.plain (OpenSpec.upto decoderBoundsSpec)) decoderBoundsUptoCard

/-- THE SECOND FORM's CARD OF 'sticklerlaw23.DecoderNobody'. -/
def decoderNobodyUptoCard : Claim7 := { stood := { row := decoderNobodyUptoRow, standIns := [], harness := (true, "2c3492c323027f98196b3e7a22b55536c856cee1f6c354782aab8f9fb9f16f6e"), looks := false }, kinds := [], alts := [], laidByText := true, laidKinds := [.data], laidTests := true, laidLooks := .later }
def DecoderNobodyUptoCardSaid : Prop := Claim7.holds Tryd.pinned (.plain (OpenSpec.upto decoderNobodySpec)) decoderNobodyUptoCard

/-- THE SECOND FORM's CARD OF 'sticklerlaw24.EncoderWrites'. -/
def encoderWritesUptoCard : Claim7 := { stood := { row := encoderWritesUptoRow, standIns := [], harness := (true, "2c3492c323027f98196b3e7a22b55536c856cee1f6c354782aab8f9fb9f16f6e"), looks := false }, kinds := [], alts := [], laidByText := true, laidKinds := [.data], laidTests := true, laidLooks := .later }
def EncoderWritesUptoCardSaid : Prop := Claim7.holds Tryd.pinned (.plain (OpenSpec.upto encoderWritesSpec)) encoderWritesUptoCard

/-- THE SECOND FORM's CARD OF 'sticklerlaw24.EncoderNobody'. -/
def encoderNobodyUptoCard : Claim7 := { stood := { row := encoderNobodyUptoRow, standIns := [], harness := (true, "2c3492c323027f98196b3e7a22b55536c856cee1f6c354782aab8f9fb9f16f6e"), looks := false }, kinds := [], alts := [], laidByText := true, laidKinds := [.data], laidTests := true, laidLooks := .later }
def EncoderNobodyUptoCardSaid : Prop := Claim7.holds Tryd.pinned (.plain (OpenSpec.upto encoderNobodySpec)) encoderNobodyUptoCard

/-- THE SECOND FORM's CARD OF 'sticklerlaw24.EncoderBack'. -/
def encoderBackUptoCard : Claim7 := { stood := { row := encoderBackUptoRow, standIns := [], harness := (true, "2c3492c323027f98196b3e7a22b55536c856cee1f6c354782aab8f9fb9f16f6e"), looks := false }, kinds := [], alts := [], laidByText := true, laidKinds := [.data], laidTests := true, laidLooks := .later }
def EncoderBackUptoCardSaid : Prop := Claim7.holds Tryd.pinned (.plain (OpenSpec.upto encoderBackSpec)) encoderBackUptoCard
end Rows
end Go.Proofs.YtohbfcmmpaikhaaDoor
