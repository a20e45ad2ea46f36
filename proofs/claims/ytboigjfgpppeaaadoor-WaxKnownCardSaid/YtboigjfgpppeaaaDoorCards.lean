/-
  DERIVED. GIVEN WITH THE SEED: THE CARDS: each row of YtboigjfgpppeaaaDoorRows.lean that lists a variable, with what it lists TIED to the program's text (the seventh form; the later family's looks); each row that meets fmt, with fmt's text TOLD by the authors' own Lean function (tested against real Go, not proved from fmt's source: count such statements apart). THE CARD IS WHAT COUNTS. Prove the row's statement (the work); the ties are given (YtboigjfgpppeaaaDoorTie.lean); close each card by the builder's one call (the guide's Derived/Test/ToyasCard.lean, 'card_holds'). Laid BY PROGRAM, IN A SANDBOX (cutbox-door.mjs). By AI agents, Wed Nov 11 2026. No macro, syntax, notation, axiom, sorry.
-/
import Derived.Test.YtboigjfgpppeaaaDoorRows
import GoSem.ClaimSeven
namespace Go.Proofs.YtboigjfgpppeaaaDoor
namespace Rows

/-- THE TIED CARD OF 'musettelaw06.WaxKnown'. -/
def waxKnownCard : Claim7 := { stood := { row := waxKnownRow, standIns := [], harness := (true, "3cc075cf83bee83b6aeb6f47a33f6c48175cfd42ca789001b430d8ec186b6dfc"), looks := false }, kinds := [], alts := [], laidByText := true, laidKinds := [.data, .data, .data], laidTests := true, laidLooks := .later }
def WaxKnownCardSaid : Prop := Claim7.holds Tryd.pinned (.plain (OpenSpec.ofChange waxKnownSpec)) waxKnownCard

/-- THE SECOND FORM's CARD OF 'musettelaw06.WaxKnown'. -/
def waxKnownUptoCard : Claim7 := { stood := { row := waxKnownUptoRow, standIns := [], harness := (true, "3cc075cf83bee83b6aeb6f47a33f6c48175cfd42ca789001b430d8ec186b6dfc"), looks := false }, kinds := [], alts := [], laidByText := true, laidKinds := [.data, .data, .data], laidTests := true, laidLooks := .later }
def WaxKnownUptoCardSaid : Prop := Claim7.holds Tryd.pinned (.plain (OpenSpec.upto waxKnownSpec)) waxKnownUptoCard
end Rows
end Go.Proofs.YtboigjfgpppeaaaDoor
