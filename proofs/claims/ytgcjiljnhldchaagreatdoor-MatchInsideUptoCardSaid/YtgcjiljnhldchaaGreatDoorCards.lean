/-
  DERIVED. GIVEN WITH THE SEED: THE CARDS: each row of YtgcjiljnhldchaaGreatDoorRows.lean that lists a variable, with what it lists TIED to the program's text (the seventh form; the later family's looks); each row that meets fmt, with fmt's text TOLD by the authors' own Lean function (tested against real Go, not proved from fmt's source: count such statements apart). THE CARD IS WHAT COUNTS. Prove the row's statement (the work); the ties are given (YtgcjiljnhldchaaGreatDoorTie.lean); close each card by the builder's one call (the guide's Derived/Test/ToyasCard.lean, 'card_holds'). Laid BY PROGRAM, IN A SANDBOX (cutbox-door.mjs). By AI agents, Wed Nov 11 2026. No macro, syntax, notation, axiom, sorry.
-/
import Derived.Test.YtgcjiljnhldchaaGreatDoorRows
import GoSem.ClaimSeven
namespace Go.Proofs.YtgcjiljnhldchaaGreatDoor
namespace Rows

/-- THE TIED CARD OF 'archivistlaw11.MatchInside'. -/
def matchInsideCard : Claim7 := { stood := { row := matchInsideRow, standIns := [], harness := (true, "c98f0de7e865ea80c3de297ea68dbd7b1f2cfdbbf9f8409ca6dd0dc9c91d768f"), looks := true }, kinds := [], alts := [], laidByText := true, laidKinds := [.data, .data, .data, .sentinel, .sentinel], laidTests := true, laidLooks := .later }
def MatchInsideCardSaid : Prop := Claim7.holds Tryz.pinned (.plain (OpenSpec.ofChange matchInsideSpec)) matchInsideCard

/-- THE SECOND FORM's CARD OF 'archivistlaw11.MatchInside'. -/
def matchInsideUptoCard : Claim7 := { stood := { row := matchInsideUptoRow, standIns := [], harness := (true, "c98f0de7e865ea80c3de297ea68dbd7b1f2cfdbbf9f8409ca6dd0dc9c91d768f"), looks := true }, kinds := [], alts := [], laidByText := true, laidKinds := [.data, .data, .data, .sentinel, .sentinel], laidTests := true, laidLooks := .later }
def MatchInsideUptoCardSaid : Prop := Claim7.holds Tryz.pinned (.plain (OpenSpec.upto matchInsideSpec)) matchInsideUptoCard
end Rows
end Go.Proofs.YtgcjiljnhldchaaGreatDoor
