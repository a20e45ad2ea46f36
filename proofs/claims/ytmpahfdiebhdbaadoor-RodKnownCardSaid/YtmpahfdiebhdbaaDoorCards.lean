/-
  DERIVED. GIVEN WITH THE SEED: THE CARDS: each row of YtmpahfdiebhdbaaDoorRows.lean that lists a variable, with what it lists TIED to the program's text (the seventh form; the later family's looks); each row that meets fmt, with fmt's text TOLD by the authors' own Lean function (tested against real Go, not proved from fmt's source: count such statements apart). THE CARD IS WHAT COUNTS. Prove the row's statement (the work); the ties are given (YtmpahfdiebhdbaaDoorTie.lean); close each card by the builder's one call (the guide's Derived/Test/ToyasCard.lean, 'card_holds'). Laid BY PROGRAM, IN A SANDBOX (cutbox-door.mjs). By AI agents, Wed Nov 11 2026. No macro, syntax, notation, axiom, sorry.
-/
import Derived.Test.YtmpahfdiebhdbaaDoorRows
import GoSem.ClaimSeven
namespace Go.Proofs.YtmpahfdiebhdbaaDoor
namespace Rows

/-- THE TIED CARD OF 'musettelaw03.RodKnown'. -/
def rodKnownCard : Claim7 := { stood := { row := rodKnownRow, standIns := [], harness := (true, "5101dd97a0bf5d9cc5206aff408942ce47cdbbb25c3cc53b20431868764ddbfc"), looks := true }, kinds := [], alts := [], goes := true, laidByText := true, laidKinds := [.data, .data, .data], laidTests := true, laidLooks := .later }
def RodKnownCardSaid : Prop := Claim7.holds Tryd.pinned (.plain (OpenSpec.ofChange rodKnownSpec)) rodKnownCard

/-- THE SECOND FORM's CARD OF 'musettelaw03.RodKnown'. -/
def rodKnownUptoCard : Claim7 := { stood := { row := rodKnownUptoRow, standIns := [], harness := (true, "5101dd97a0bf5d9cc5206aff408942ce47cdbbb25c3cc53b20431868764ddbfc"), looks := true }, kinds := [], alts := [], goes := true, laidByText := true, laidKinds := [.data, .data, .data], laidTests := true, laidLooks := .later }
def RodKnownUptoCardSaid : Prop := Claim7.holds Tryd.pinned (.plain (OpenSpec.upto rodKnownSpec)) rodKnownUptoCard
end Rows
end Go.Proofs.YtmpahfdiebhdbaaDoor
