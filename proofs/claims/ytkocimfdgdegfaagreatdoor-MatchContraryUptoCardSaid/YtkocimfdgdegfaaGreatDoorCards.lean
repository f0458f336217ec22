/-
  DERIVED. GIVEN WITH THE SEED: THE CARDS: each row of YtkocimfdgdegfaaGreatDoorRows.lean that lists a variable, with what it lists TIED to the program's text (the seventh form; the later family's looks); each row that meets fmt, with fmt's text TOLD by the authors' own Lean function (tested against real Go, not proved from fmt's source: count such statements apart). THE CARD IS WHAT COUNTS. Prove the row's statement (the work); the ties are given (YtkocimfdgdegfaaGreatDoorTie.lean); close each card by the builder's one call (the guide's Derived/Test/ToyasCard.lean, 'card_holds'). Laid BY PROGRAM, IN A SANDBOX (cutbox-door.mjs). By AI agents, Wed Nov 11 2026. No macro, syntax, notation, axiom, sorry.
-/
import Derived.Test.YtkocimfdgdegfaaGreatDoorRows
import GoSem.ClaimSeven
namespace Go.Proofs.YtkocimfdgdegfaaGreatDoor
namespace Rows

/-- THE TIED CARD OF 'archivistlaw11.MatchContrary'. -/
def matchContraryCard : Claim7 := { stood := { row := matchContraryRow, standIns := [], harness := (true, "78639583e23f2f838ecec9fcfd4828e78d2fa313c544ff1bac0a0dcc746bf727"), looks := true }, kinds := [], alts := [], laidByText := true, laidKinds := [.data, .data, .data, .sentinel, .sentinel], laidTests := true, laidLooks := .later }
def MatchContraryCardSaid : Prop := Claim7.holds Tryz.pinned (.plain (OpenSpec.ofChange matchContrarySpec)) matchContraryCard

/-- THE TIED CARD OF 'archivistlaw11.MatchAll'. -/
def matchAllCard : Claim7 := { stood := { row := matchAllRow, standIns := [], harness := (true, "78639583e23f2f838ecec9fcfd4828e78d2fa313c544ff1bac0a0dcc746bf727"), looks := true }, kinds := [], alts := [], laidByText := true, laidKinds := [.data, .data, .data, .sentinel, .sentinel], laidTests := true, laidLooks := .later }
def MatchAllCardSaid : Prop := Claim7.holds Tryz.pinned (.plain (OpenSpec.ofChange matchAllSpec)) matchAllCard

/-- THE TIED CARD OF 'archivistlaw11.MatchAbsent'. -/
def matchAbsentCard : Claim7 := { stood := { row := matchAbsentRow, standIns := [], harness := (true, "78639583e23f2f838ecec9fcfd4828e78d2fa313c544ff1bac0a0dcc746bf727"), looks := true }, kinds := [], alts := [], laidByText := true, laidKinds := [.data, .data, .data, .sentinel, .sentinel], laidTests := true, laidLooks := .later }
def MatchAbsentCardSaid : Prop := Claim7.holds Tryz.pinned (.plain (OpenSpec.ofChange matchAbsentSpec)) matchAbsentCard

/-- THE SECOND FORM's CARD OF 'archivistlaw11.MatchContrary'. -/
def matchContraryUptoCard : Claim7 := { stood := { row := matchContraryUptoRow, standIns := [], harness := (true, "78639583e23f2f838ecec9fcfd4828e78d2fa313c544ff1bac0a0dcc746bf727"), looks := true }, kinds := [], alts := [], laidByText := true, laidKinds := [.data, .data, .data, .sentinel, .sentinel], laidTests := true, laidLooks := .later }
def MatchContraryUptoCardSaid : Prop := Claim7.holds Tryz.pinned (.plain (OpenSpec.upto matchContrarySpec)) matchContraryUptoCard

/-- THE SECOND FORM's CARD OF 'archivistlaw11.MatchAll'. -/
def matchAllUptoCard : Claim7 := { stood := { row := matchAllUptoRow, standIns := [], harness := (true, "78639583e23f2f838ecec9fcfd4828e78d2fa313c544ff1bac0a0dcc746bf727"), looks := true }, kinds := [], alts := [], laidByText := true, laidKinds := [.data, .data, .data, .sentinel, .sentinel], laidTests := true, laidLooks := .later }
def MatchAllUptoCardSaid : Prop := Claim7.holds Tryz.pinned (.plain (OpenSpec.upto matchAllSpec)) matchAllUptoCard

/-- THE SECOND FORM's CARD OF 'archivistlaw11.MatchAbsent'. -/
def matchAbsentUptoCard : Claim7 := { stood := { row := matchAbsentUptoRow, standIns := [], harness := (true, "78639583e23f2f838ecec9fcfd4828e78d2fa313c544ff1bac0a0dcc746bf727"), looks := true }, kinds := [], alts := [], laidByText := true, laidKinds := [.data, .data, .data, .sentinel, .sentinel], laidTests := true, laidLooks := .later }
def MatchAbsentUptoCardSaid : Prop := Claim7.holds Tryz.pinned (.plain (OpenSpec.upto matchAbsentSpec)) matchAbsentUptoCard
end Rows
end Go.Proofs.YtkocimfdgdegfaaGreatDoor
