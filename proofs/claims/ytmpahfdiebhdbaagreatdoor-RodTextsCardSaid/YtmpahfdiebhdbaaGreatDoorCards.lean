/-
  DERIVED. GIVEN WITH THE SEED: THE CARDS: each row of YtmpahfdiebhdbaaGreatDoorRows.lean that lists a variable, with what it lists TIED to the program's text (the seventh form; the later family's looks); each row that meets fmt, with fmt's text TOLD by the authors' own Lean function (tested against real Go, not proved from fmt's source: count such statements apart). THE CARD IS WHAT COUNTS. Prove the row's statement (the work); the ties are given (YtmpahfdiebhdbaaGreatDoorTie.lean); close each card by the builder's one call (the guide's Derived/Test/ToyasCard.lean, 'card_holds'). Laid BY PROGRAM, IN A SANDBOX (cutbox-door.mjs). By AI agents, Wed Nov 11 2026. No macro, syntax, notation, axiom, sorry.
-/
import Derived.Test.YtmpahfdiebhdbaaGreatDoorRows
import GoSem.ClaimSeven
namespace Go.Proofs.YtmpahfdiebhdbaaGreatDoor
namespace Rows

/-- THE TIED CARD OF 'musettelaw03.RodTexts'. -/
def rodTextsCard : Claim7 := { stood := { row := rodTextsRow, standIns := [], harness := (true, "44c9df8b9417e64c02f1fc207a556324b1f4bdb3f2e27355cb3c6a1f5d1b33f5"), looks := true }, kinds := [], alts := [], goes := true, laidByText := true, laidKinds := [.data, .data, .data, .data, .sentinel, .sentinel, .pinned], laidTests := true, laidLooks := .later }
def RodTextsCardSaid : Prop := Claim7.holds Tryz.pinned (.plain (OpenSpec.ofChange rodTextsSpec)) rodTextsCard

/-- THE TIED CARD OF 'musettelaw03.RodRead'. -/
def rodReadCard : Claim7 := { stood := { row := rodReadRow, standIns := [], harness := (true, "44c9df8b9417e64c02f1fc207a556324b1f4bdb3f2e27355cb3c6a1f5d1b33f5"), looks := true }, kinds := [], alts := [], goes := true, laidByText := true, laidKinds := [.data, .data, .data, .data, .sentinel, .sentinel, .pinned], laidTests := true, laidLooks := .later }
def RodReadCardSaid : Prop := Claim7.holds Tryz.pinned (.plain (OpenSpec.ofChange rodReadSpec)) rodReadCard

/-- THE SECOND FORM's CARD OF 'musettelaw03.RodTexts'. -/
def rodTextsUptoCard : Claim7 := { stood := { row := rodTextsUptoRow, standIns := [], harness := (true, "44c9df8b9417e64c02f1fc207a556324b1f4bdb3f2e27355cb3c6a1f5d1b33f5"), looks := true }, kinds := [], alts := [], goes := true, laidByText := true, laidKinds := [.data, .data, .data, .data, .sentinel, .sentinel, .pinned], laidTests := true, laidLooks := .later }
def RodTextsUptoCardSaid : Prop := Claim7.holds Tryz.pinned (.plain (OpenSpec.upto rodTextsSpec)) rodTextsUptoCard

/-- THE SECOND FORM's CARD OF 'musettelaw03.RodRead'. -/
def rodReadUptoCard : Claim7 := { stood := { row := rodReadUptoRow, standIns := [], harness := (true, "44c9df8b9417e64c02f1fc207a556324b1f4bdb3f2e27355cb3c6a1f5d1b33f5"), looks := true }, kinds := [], alts := [], goes := true, laidByText := true, laidKinds := [.data, .data, .data, .data, .sentinel, .sentinel, .pinned], laidTests := true, laidLooks := .later }
def RodReadUptoCardSaid : Prop := Claim7.holds Tryz.pinned (.plain (OpenSpec.upto rodReadSpec)) rodReadUptoCard
end Rows
end Go.Proofs.YtmpahfdiebhdbaaGreatDoor
