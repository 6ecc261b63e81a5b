/-
  DERIVED. GIVEN WITH THE SEED: THE CARDS: each row of YtdalcgfnlbofdaaGreatDoorRows.lean that lists a variable, with what it lists TIED to the program's text (the seventh form; the later family's looks); each row that meets fmt, with fmt's text TOLD by the authors' own Lean function (tested against real Go, not proved from fmt's source: count such statements apart). THE CARD IS WHAT COUNTS. Prove the row's statement (the work); the ties are given (YtdalcgfnlbofdaaGreatDoorTie.lean); close each card by the builder's one call (the guide's Derived/Test/ToyasCard.lean, 'card_holds'). Laid BY PROGRAM, IN A SANDBOX (cutbox-door.mjs). By AI agents, Wed Nov 11 2026. No macro, syntax, notation, axiom, sorry.
-/
import Derived.Test.YtdalcgfnlbofdaaGreatDoorRows
import GoSem.ClaimSeven
namespace Go.Proofs.YtdalcgfnlbofdaaGreatDoor
namespace Rows

/-- THE TIED CARD OF 'sticklerlaw47.DriverFrames'. -/
def driverFramesCard : Claim7 := { stood := { row := driverFramesRow, standIns := [], harness := (true, "d5839e807e13b3e7f28eee90ed0811396e7e1859bea39402a8d4c91d4f1deaad"), looks := false }, kinds := [], alts := [], laidByText := true, laidKinds := [.data], laidTests := true, laidLooks := .later }
def DriverFramesCardSaid : Prop := Claim7.holds Tryz.pinned (.plain (OpenSpec.ofChange driverFramesSpec)) driverFramesCard

/-- THE TIED CARD OF 'sticklerlaw48.PeerSays'. -/
def peerSaysCard : Claim7 := { stood := { row := peerSaysRow, standIns := [], harness := (true, "d5839e807e13b3e7f28eee90ed0811396e7e1859bea39402a8d4c91d4f1deaad"), looks := false }, kinds := [], alts := [], laidByText := true, laidKinds := [.data], laidTests := true, laidLooks := .later }
def PeerSaysCardSaid : Prop := Claim7.holds Tryz.pinned (.plain (OpenSpec.ofChange peerSaysSpec)) peerSaysCard

/-- THE TIED CARD OF 'sticklerlaw52.WeaveReads'. -/
def weaveReadsCard : Claim7 := { stood := { row := weaveReadsRow, standIns := [], harness := (true, "d5839e807e13b3e7f28eee90ed0811396e7e1859bea39402a8d4c91d4f1deaad"), looks := false }, kinds := [], alts := [], laidByText := true, laidKinds := [.data], laidTests := true, laidLooks := .later }
def WeaveReadsCardSaid : Prop := Claim7.holds Tryz.pinned (.plain (OpenSpec.ofChange weaveReadsSpec)) weaveReadsCard

/-- THE TIED CARD OF 'sticklerlaw52.WeaveBack'. -/
def weaveBackCard : Claim7 := { stood := { row := weaveBackRow, standIns := [], harness := (true, "d5839e807e13b3e7f28eee90ed0811396e7e1859bea39402a8d4c91d4f1deaad"), looks := false }, kinds := [], alts := [], laidByText := true, laidKinds := [.data], laidTests := true, laidLooks := .later }
def WeaveBackCardSaid : Prop := Claim7.holds Tryz.pinned (.plain (OpenSpec.ofChange weaveBackSpec)) weaveBackCard

/-- THE SECOND FORM's CARD OF 'sticklerlaw47.DriverFrames'. -/
def driverFramesUptoCard : Claim7 := { stood := { row := driverFramesUptoRow, standIns := [], harness := (true, "d5839e807e13b3e7f28eee90ed0811396e7e1859bea39402a8d4c91d4f1deaad"), looks := false }, kinds := [], alts := [], laidByText := true, laidKinds := [.data], laidTests := true, laidLooks := .later }
def DriverFramesUptoCardSaid : Prop := Claim7.holds Tryz.pinned (.plain (OpenSpec.upto driverFramesSpec)) driverFramesUptoCard

/-- THE SECOND FORM's CARD OF 'sticklerlaw48.PeerSays'. -/
def peerSaysUptoCard : Claim7 := { stood := { row := peerSaysUptoRow, standIns := [], harness := (true, "d5839e807e13b3e7f28eee90ed0811396e7e1859bea39402a8d4c91d4f1deaad"), looks := false }, kinds := [], alts := [], laidByText := true, laidKinds := [.data], laidTests := true, laidLooks := .later }
def PeerSaysUptoCardSaid : Prop := Claim7.holds Tryz.pinned (.plain (OpenSpec.upto peerSaysSpec)) peerSaysUptoCard

/-- THE SECOND FORM's CARD OF 'sticklerlaw52.WeaveReads'. -/
def weaveReadsUptoCard : Claim7 := { stood := { row := weaveReadsUptoRow, standIns := [], harness := (true, "d5839e807e13b3e7f28eee90ed0811396e7e1859bea39402a8d4c91d4f1deaad"), looks := false }, kinds := [], alts := [], laidByText := true, laidKinds := [.data], laidTests := true, laidLooks := .later }
def WeaveReadsUptoCardSaid : Prop := Claim7.holds Tryz.pinned (.plain (OpenSpec.upto weaveReadsSpec)) weaveReadsUptoCard

/-- THE SECOND FORM's CARD OF 'sticklerlaw52.WeaveBack'. -/
def weaveBackUptoCard : Claim7 := { stood := { row := weaveBackUptoRow, standIns := [], harness := (true, "d5839e807e13b3e7f28eee90ed0811396e7e1859bea39402a8d4c91d4f1deaad"), looks := false }, kinds := [], alts := [], laidByText := true, laidKinds := [.data], laidTests := true, laidLooks := .later }
def WeaveBackUptoCardSaid : Prop := Claim7.holds Tryz.pinned (.plain (OpenSpec.upto weaveBackSpec)) weaveBackUptoCard
end Rows
end Go.Proofs.YtdalcgfnlbofdaaGreatDoor
