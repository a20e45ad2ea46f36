/-
  DERIVED. GIVEN WITH THE SEED: THE CARDS: each row of YtboigjfgpppeaaaGreatDoorRows.lean that lists a variable, with what it lists TIED to the program's text (the seventh form; the later family's looks); each row that meets fmt, with fmt's text TOLD by the authors' own Lean function (tested against real Go, not proved from fmt's source: count such statements apart). THE CARD IS WHAT COUNTS. Prove the row's statement (the work); the ties are given (YtboigjfgpppeaaaGreatDoorTie.lean); close each card by the builder's one call (the guide's Derived/Test/ToyasCard.lean, 'card_holds'). Laid BY PROGRAM, IN A SANDBOX (cutbox-door.mjs). By AI agents, Wed Nov 11 2026. No macro, syntax, notation, axiom, sorry.
-/
import Derived.Test.YtboigjfgpppeaaaGreatDoorRows
import GoSem.ClaimSeven
namespace Go.Proofs.YtboigjfgpppeaaaGreatDoor
namespace Rows

/-- THE TIED CARD OF 'musettelaw06.WaxTexts'. -/
def waxTextsCard : Claim7 := { stood := { row := waxTextsRow, standIns := [], harness := (true, "e9635c6f864383fb3dc49cfd10f0c3ac0f0962ebea7ea8baa7be389bf1b365b4"), looks := true }, kinds := [], alts := [], laidByText := true, laidKinds := [.data, .data, .data, .data, .sentinel, .sentinel, .pinned], laidTests := true, laidLooks := .later }
def WaxTextsCardSaid : Prop := Claim7.holds Tryz.pinned (.plain (OpenSpec.ofChange waxTextsSpec)) waxTextsCard

/-- THE TIED CARD OF 'musettelaw06.WaxRead'. -/
def waxReadCard : Claim7 := { stood := { row := waxReadRow, standIns := [], harness := (true, "e9635c6f864383fb3dc49cfd10f0c3ac0f0962ebea7ea8baa7be389bf1b365b4"), looks := true }, kinds := [], alts := [], laidByText := true, laidKinds := [.data, .data, .data, .data, .sentinel, .sentinel, .pinned], laidTests := true, laidLooks := .later }
def WaxReadCardSaid : Prop := Claim7.holds Tryz.pinned (.plain (OpenSpec.ofChange waxReadSpec)) waxReadCard

/-- THE SECOND FORM's CARD OF 'musettelaw06.WaxTexts'. -/
def waxTextsUptoCard : Claim7 := { stood := { row := waxTextsUptoRow, standIns := [], harness := (true, "e9635c6f864383fb3dc49cfd10f0c3ac0f0962ebea7ea8baa7be389bf1b365b4"), looks := true }, kinds := [], alts := [], laidByText := true, laidKinds := [.data, .data, .data, .data, .sentinel, .sentinel, .pinned], laidTests := true, laidLooks := .later }
def WaxTextsUptoCardSaid : Prop := Claim7.holds Tryz.pinned (.plain (OpenSpec.upto waxTextsSpec)) waxTextsUptoCard

/-- THE SECOND FORM's CARD OF 'musettelaw06.WaxRead'. -/
def waxReadUptoCard : Claim7 := { stood := { row := waxReadUptoRow, standIns := [], harness := (true, "e9635c6f864383fb3dc49cfd10f0c3ac0f0962ebea7ea8baa7be389bf1b365b4"), looks := true }, kinds := [], alts := [], laidByText := true, laidKinds := [.data, .data, .data, .data, .sentinel, .sentinel, .pinned], laidTests := true, laidLooks := .later }
def WaxReadUptoCardSaid : Prop := Claim7.holds Tryz.pinned (.plain (OpenSpec.upto waxReadSpec)) waxReadUptoCard
end Rows
end Go.Proofs.YtboigjfgpppeaaaGreatDoor
