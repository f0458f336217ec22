/-
  DERIVED. GIVEN WITH THE SEED: THE CARDS: each row of YtanopbolgfcojaaGreatDoorRows.lean that lists a variable, with what it lists TIED to the program's text (the seventh form; the later family's looks); each row that meets fmt, with fmt's text TOLD by the authors' own Lean function (tested against real Go, not proved from fmt's source: count such statements apart). THE CARD IS WHAT COUNTS. Prove the row's statement (the work); the ties are given (YtanopbolgfcojaaGreatDoorTie.lean); close each card by the builder's one call (the guide's Derived/Test/ToyasCard.lean, 'card_holds'). Laid BY PROGRAM, IN A SANDBOX (cutbox-door.mjs). By AI agents, Wed Nov 11 2026. No macro, syntax, notation, axiom, sorry.
-/
import Derived.Test.YtanopbolgfcojaaGreatDoorRows
import GoSem.ClaimSeven
namespace Go.Proofs.YtanopbolgfcojaaGreatDoor
namespace Rows

/-- THE TIED CARD OF 'archivistlaw05.NfaWhole'. -/
def nfaWholeCard : Claim7 := { stood := { row := nfaWholeRow, standIns := [], harness := (true, "38175baeaadc0e950f8b7ef687ead75efdaf3618b1b2474384f1b056b26eeaed"), looks := true }, kinds := [], alts := [], laidByText := true, laidKinds := [.data, .data, .data, .sentinel, .sentinel], laidTests := true, laidLooks := .later }
def NfaWholeCardSaid : Prop := Claim7.holds Tryz.pinned (.plain (OpenSpec.ofChange nfaWholeSpec)) nfaWholeCard

/-- THE TIED CARD OF 'archivistlaw05.NfaJoins'. -/
def nfaJoinsCard : Claim7 := { stood := { row := nfaJoinsRow, standIns := [], harness := (true, "38175baeaadc0e950f8b7ef687ead75efdaf3618b1b2474384f1b056b26eeaed"), looks := true }, kinds := [], alts := [], laidByText := true, laidKinds := [.data, .data, .data, .sentinel, .sentinel], laidTests := true, laidLooks := .later }
def NfaJoinsCardSaid : Prop := Claim7.holds Tryz.pinned (.plain (OpenSpec.ofChange nfaJoinsSpec)) nfaJoinsCard

/-- THE TIED CARD OF 'archivistlaw05.NfaLetters'. -/
def nfaLettersCard : Claim7 := { stood := { row := nfaLettersRow, standIns := [], harness := (true, "38175baeaadc0e950f8b7ef687ead75efdaf3618b1b2474384f1b056b26eeaed"), looks := true }, kinds := [], alts := [], laidByText := true, laidKinds := [.data, .data, .data, .sentinel, .sentinel], laidTests := true, laidLooks := .later }
def NfaLettersCardSaid : Prop := Claim7.holds Tryz.pinned (.plain (OpenSpec.ofChange nfaLettersSpec)) nfaLettersCard

/-- THE TIED CARD OF 'archivistlaw05.NfaTimes'. -/
def nfaTimesCard : Claim7 := { stood := { row := nfaTimesRow, standIns := [], harness := (true, "38175baeaadc0e950f8b7ef687ead75efdaf3618b1b2474384f1b056b26eeaed"), looks := true }, kinds := [], alts := [], laidByText := true, laidKinds := [.data, .data, .data, .sentinel, .sentinel], laidTests := true, laidLooks := .later }
def NfaTimesCardSaid : Prop := Claim7.holds Tryz.pinned (.plain (OpenSpec.ofChange nfaTimesSpec)) nfaTimesCard

/-- THE TIED CARD OF 'archivistlaw05.NfaAnchors'. -/
def nfaAnchorsCard : Claim7 := { stood := { row := nfaAnchorsRow, standIns := [], harness := (true, "38175baeaadc0e950f8b7ef687ead75efdaf3618b1b2474384f1b056b26eeaed"), looks := true }, kinds := [], alts := [], laidByText := true, laidKinds := [.data, .data, .data, .sentinel, .sentinel], laidTests := true, laidLooks := .later }
def NfaAnchorsCardSaid : Prop := Claim7.holds Tryz.pinned (.plain (OpenSpec.ofChange nfaAnchorsSpec)) nfaAnchorsCard

/-- THE TIED CARD OF 'archivistlaw05.NfaNested'. -/
def nfaNestedCard : Claim7 := { stood := { row := nfaNestedRow, standIns := [], harness := (true, "38175baeaadc0e950f8b7ef687ead75efdaf3618b1b2474384f1b056b26eeaed"), looks := true }, kinds := [], alts := [], laidByText := true, laidKinds := [.data, .data, .data, .sentinel, .sentinel], laidTests := true, laidLooks := .later }
def NfaNestedCardSaid : Prop := Claim7.holds Tryz.pinned (.plain (OpenSpec.ofChange nfaNestedSpec)) nfaNestedCard

/-- THE SECOND FORM's CARD OF 'archivistlaw05.NfaWhole'. -/
def nfaWholeUptoCard : Claim7 := { stood := { row := nfaWholeUptoRow, standIns := [], harness := (true, "38175baeaadc0e950f8b7ef687ead75efdaf3618b1b2474384f1b056b26eeaed"), looks := true }, kinds := [], alts := [], laidByText := true, laidKinds := [.data, .data, .data, .sentinel, .sentinel], laidTests := true, laidLooks := .later }
def NfaWholeUptoCardSaid : Prop := Claim7.holds Tryz.pinned (.plain (OpenSpec.upto nfaWholeSpec)) nfaWholeUptoCard

/-- THE SECOND FORM's CARD OF 'archivistlaw05.NfaJoins'. -/
def nfaJoinsUptoCard : Claim7 := { stood := { row := nfaJoinsUptoRow, standIns := [], harness := (true, "38175baeaadc0e950f8b7ef687ead75efdaf3618b1b2474384f1b056b26eeaed"), looks := true }, kinds := [], alts := [], laidByText := true, laidKinds := [.data, .data, .data, .sentinel, .sentinel], laidTests := true, laidLooks := .later }
def NfaJoinsUptoCardSaid : Prop := Claim7.holds Tryz.pinned (.plain (OpenSpec.upto nfaJoinsSpec)) nfaJoinsUptoCard

/-- THE SECOND FORM's CARD OF 'archivistlaw05.NfaLetters'. -/
def nfaLettersUptoCard : Claim7 := { stood := { row := nfaLettersUptoRow, standIns := [], harness := (true, "38175baeaadc0e950f8b7ef687ead75efdaf3618b1b2474384f1b056b26eeaed"), looks := true }, kinds := [], alts := [], laidByText := true, laidKinds := [.data, .data, .data, .sentinel, .sentinel], laidTests := true, laidLooks := .later }
def NfaLettersUptoCardSaid : Prop := Claim7.holds Tryz.pinned (.plain (OpenSpec.upto nfaLettersSpec)) nfaLettersUptoCard

/-- THE SECOND FORM's CARD OF 'archivistlaw05.NfaTimes'. -/
def nfaTimesUptoCard : Claim7 := { stood := { row := nfaTimesUptoRow, standIns := [], harness := (true, "38175baeaadc0e950f8b7ef687ead75efdaf3618b1b2474384f1b056b26eeaed"), looks := true }, kinds := [], alts := [], laidByText := true, laidKinds := [.data, .data, .data, .sentinel, .sentinel], laidTests := true, laidLooks := .later }
def NfaTimesUptoCardSaid : Prop := Claim7.holds Tryz.pinned (.plain (OpenSpec.upto nfaTimesSpec)) nfaTimesUptoCard

/-- THE SECOND FORM's CARD OF 'archivistlaw05.NfaAnchors'. -/
def nfaAnchorsUptoCard : Claim7 := { stood := { row := nfaAnchorsUptoRow, standIns := [], harness := (true, "38175baeaadc0e950f8b7ef687ead75efdaf3618b1b2474384f1b056b26eeaed"), looks := true }, kinds := [], alts := [], laidByText := true, laidKinds := [.data, .data, .data, .sentinel, .sentinel], laidTests := true, laidLooks := .later }
def NfaAnchorsUptoCardSaid : Prop := Claim7.holds Tryz.pinned (.plain (OpenSpec.upto nfaAnchorsSpec)) nfaAnchorsUptoCard

/-- THE SECOND FORM's CARD OF 'archivistlaw05.NfaNested'. -/
def nfaNestedUptoCard : Claim7 := { stood := { row := nfaNestedUptoRow, standIns := [], harness := (true, "38175baeaadc0e950f8b7ef687ead75efdaf3618b1b2474384f1b056b26eeaed"), looks := true }, kinds := [], alts := [], laidByText := true, laidKinds := [.data, .data, .data, .sentinel, .sentinel], laidTests := true, laidLooks := .later }
def NfaNestedUptoCardSaid : Prop := Claim7.holds Tryz.pinned (.plain (OpenSpec.upto nfaNestedSpec)) nfaNestedUptoCard
end Rows
end Go.Proofs.YtanopbolgfcojaaGreatDoor
