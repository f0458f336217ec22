/-
  DERIVED. GIVEN WITH THE SEED: THE CARDS: each row of YtikpanghmcadoaaGreatDoorRows.lean that lists a variable, with what it lists TIED to the program's text (the seventh form; the later family's looks); each row that meets fmt, with fmt's text TOLD by the authors' own Lean function (tested against real Go, not proved from fmt's source: count such statements apart). THE CARD IS WHAT COUNTS. Prove the row's statement (the work); the ties are given (YtikpanghmcadoaaGreatDoorTie.lean); close each card by the builder's one call (the guide's Derived/Test/ToyasCard.lean, 'card_holds'). Laid BY PROGRAM, IN A SANDBOX (cutbox-door.mjs). By AI agents, Wed Nov 11 2026. No macro, syntax, notation, axiom, sorry.
-/
import Derived.Test.YtikpanghmcadoaaGreatDoorRows
import GoSem.ClaimSeven
namespace Go.Proofs.YtikpanghmcadoaaGreatDoor
namespace Rows

/-- THE TIED CARD OF 'archivistlaw08.AstAlike'. -/
def astAlikeCard : Claim7 := { stood := { row := astAlikeRow, standIns := [], harness := (true, "7a9ef312835a6f7c2fc9a61332bfe60e229d88cfbcd54350bad8aa1af6a3a0ed"), looks := true }, kinds := [], alts := [], laidByText := true, laidKinds := [.data, .data, .data, .sentinel, .sentinel], laidTests := true, laidLooks := .later }
def AstAlikeCardSaid : Prop := Claim7.holds Tryz.pinned (.plain (OpenSpec.ofChange astAlikeSpec)) astAlikeCard

/-- THE TIED CARD OF 'archivistlaw08.AstWrong'. -/
def astWrongCard : Claim7 := { stood := { row := astWrongRow, standIns := [], harness := (true, "7a9ef312835a6f7c2fc9a61332bfe60e229d88cfbcd54350bad8aa1af6a3a0ed"), looks := true }, kinds := [], alts := [], laidByText := true, laidKinds := [.data, .data, .data, .sentinel, .sentinel], laidTests := true, laidLooks := .later }
def AstWrongCardSaid : Prop := Claim7.holds Tryz.pinned (.plain (OpenSpec.ofChange astWrongSpec)) astWrongCard

/-- THE TIED CARD OF 'archivistlaw08.AstOps'. -/
def astOpsCard : Claim7 := { stood := { row := astOpsRow, standIns := [], harness := (true, "7a9ef312835a6f7c2fc9a61332bfe60e229d88cfbcd54350bad8aa1af6a3a0ed"), looks := true }, kinds := [], alts := [], laidByText := true, laidKinds := [.data, .data, .data, .sentinel, .sentinel], laidTests := true, laidLooks := .later }
def AstOpsCardSaid : Prop := Claim7.holds Tryz.pinned (.plain (OpenSpec.ofChange astOpsSpec)) astOpsCard

/-- THE SECOND FORM's CARD OF 'archivistlaw08.AstAlike'. -/
def astAlikeUptoCard : Claim7 := { stood := { row := astAlikeUptoRow, standIns := [], harness := (true, "7a9ef312835a6f7c2fc9a61332bfe60e229d88cfbcd54350bad8aa1af6a3a0ed"), looks := true }, kinds := [], alts := [], laidByText := true, laidKinds := [.data, .data, .data, .sentinel, .sentinel], laidTests := true, laidLooks := .later }
def AstAlikeUptoCardSaid : Prop := Claim7.holds Tryz.pinned (.plain (OpenSpec.upto astAlikeSpec)) astAlikeUptoCard

/-- THE SECOND FORM's CARD OF 'archivistlaw08.AstWrong'. -/
def astWrongUptoCard : Claim7 := { stood := { row := astWrongUptoRow, standIns := [], harness := (true, "7a9ef312835a6f7c2fc9a61332bfe60e229d88cfbcd54350bad8aa1af6a3a0ed"), looks := true }, kinds := [], alts := [], laidByText := true, laidKinds := [.data, .data, .data, .sentinel, .sentinel], laidTests := true, laidLooks := .later }
def AstWrongUptoCardSaid : Prop := Claim7.holds Tryz.pinned (.plain (OpenSpec.upto astWrongSpec)) astWrongUptoCard

/-- THE SECOND FORM's CARD OF 'archivistlaw08.AstOps'. -/
def astOpsUptoCard : Claim7 := { stood := { row := astOpsUptoRow, standIns := [], harness := (true, "7a9ef312835a6f7c2fc9a61332bfe60e229d88cfbcd54350bad8aa1af6a3a0ed"), looks := true }, kinds := [], alts := [], laidByText := true, laidKinds := [.data, .data, .data, .sentinel, .sentinel], laidTests := true, laidLooks := .later }
def AstOpsUptoCardSaid : Prop := Claim7.holds Tryz.pinned (.plain (OpenSpec.upto astOpsSpec)) astOpsUptoCard
end Rows
end Go.Proofs.YtikpanghmcadoaaGreatDoor
