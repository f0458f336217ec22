/-
  DERIVED. GIVEN WITH THE SEED: THE CARDS: each row of YtanopbolgfcojaaDoorRows.lean that lists a variable, with what it lists TIED to the program's text (the seventh form; the later family's looks); each row that meets fmt, with fmt's text TOLD by the authors' own Lean function (tested against real Go, not proved from fmt's source: count such statements apart). THE CARD IS WHAT COUNTS. Prove the row's statement (the work); the ties are given (YtanopbolgfcojaaDoorTie.lean); close each card by the builder's one call (the guide's Derived/Test/ToyasCard.lean, 'card_holds'). Laid BY PROGRAM, IN A SANDBOX (cutbox-door.mjs). By AI agents, Wed Nov 11 2026. No macro, syntax, notation, axiom, sorry.
-/
import Derived.Test.YtanopbolgfcojaaDoorRows
import GoSem.ClaimSeven
namespace Go.Proofs.YtanopbolgfcojaaDoor
namespace Rows

/-- THE TIED CARD OF 'archivistlaw04.RexSets'. -/
def rexSetsCard : Claim7 := { stood := { row := rexSetsRow, standIns := [], harness := (true, "f0053171790e29a48842c0356ceafb0c194f1390839f8d670ae71e370f937c19"), looks := true }, kinds := [], alts := [], laidByText := true, laidKinds := [.data, .data, .data, .sentinel, .sentinel], laidTests := true, laidLooks := .later }
def RexSetsCardSaid : Prop := Claim7.holds Tryd.pinned (.plain (OpenSpec.ofChange rexSetsSpec)) rexSetsCard

/-- THE TIED CARD OF 'archivistlaw04.RexBack'. -/
def rexBackCard : Claim7 := { stood := { row := rexBackRow, standIns := [], harness := (true, "f0053171790e29a48842c0356ceafb0c194f1390839f8d670ae71e370f937c19"), looks := true }, kinds := [], alts := [], laidByText := true, laidKinds := [.data, .data, .data, .sentinel, .sentinel], laidTests := true, laidLooks := .later }
def RexBackCardSaid : Prop := Claim7.holds Tryd.pinned (.plain (OpenSpec.ofChange rexBackSpec)) rexBackCard

/-- THE TIED CARD OF 'archivistlaw04.RexPlain'. -/
def rexPlainCard : Claim7 := { stood := { row := rexPlainRow, standIns := [], harness := (true, "f0053171790e29a48842c0356ceafb0c194f1390839f8d670ae71e370f937c19"), looks := true }, kinds := [], alts := [], laidByText := true, laidKinds := [.data, .data, .data, .sentinel, .sentinel], laidTests := true, laidLooks := .later }
def RexPlainCardSaid : Prop := Claim7.holds Tryd.pinned (.plain (OpenSpec.ofChange rexPlainSpec)) rexPlainCard

/-- THE TIED CARD OF 'archivistlaw04.RexWrong'. -/
def rexWrongCard : Claim7 := { stood := { row := rexWrongRow, standIns := [], harness := (true, "f0053171790e29a48842c0356ceafb0c194f1390839f8d670ae71e370f937c19"), looks := true }, kinds := [], alts := [], laidByText := true, laidKinds := [.data, .data, .data, .sentinel, .sentinel], laidTests := true, laidLooks := .later }
def RexWrongCardSaid : Prop := Claim7.holds Tryd.pinned (.plain (OpenSpec.ofChange rexWrongSpec)) rexWrongCard

/-- THE TIED CARD OF 'archivistlaw04.RexSizes'. -/
def rexSizesCard : Claim7 := { stood := { row := rexSizesRow, standIns := [], harness := (true, "f0053171790e29a48842c0356ceafb0c194f1390839f8d670ae71e370f937c19"), looks := true }, kinds := [], alts := [], laidByText := true, laidKinds := [.data, .data, .data, .sentinel, .sentinel], laidTests := true, laidLooks := .later }
def RexSizesCardSaid : Prop := Claim7.holds Tryd.pinned (.plain (OpenSpec.ofChange rexSizesSpec)) rexSizesCard

/-- THE TIED CARD OF 'archivistlaw04.RexForms'. -/
def rexFormsCard : Claim7 := { stood := { row := rexFormsRow, standIns := [], harness := (true, "f0053171790e29a48842c0356ceafb0c194f1390839f8d670ae71e370f937c19"), looks := true }, kinds := [], alts := [], laidByText := true, laidKinds := [.data, .data, .data, .sentinel, .sentinel], laidTests := true, laidLooks := .later }
def RexFormsCardSaid : Prop := Claim7.holds Tryd.pinned (.plain (OpenSpec.ofChange rexFormsSpec)) rexFormsCard

/-- THE TIED CARD OF 'archivistlaw04.RexClasses'. -/
def rexClassesCard : Claim7 := { stood := { row := rexClassesRow, standIns := [], harness := (true, "f0053171790e29a48842c0356ceafb0c194f1390839f8d670ae71e370f937c19"), looks := true }, kinds := [], alts := [], laidByText := true, laidKinds := [.data, .data, .data, .sentinel, .sentinel], laidTests := true, laidLooks := .later }
def RexClassesCardSaid : Prop := Claim7.holds Tryd.pinned (.plain (OpenSpec.ofChange rexClassesSpec)) rexClassesCard

/-- THE SECOND FORM's CARD OF 'archivistlaw04.RexSets'. -/
def rexSetsUptoCard : Claim7 := { stood := { row := rexSetsUptoRow, standIns := [], harness := (true, "f0053171790e29a48842c0356ceafb0c194f1390839f8d670ae71e370f937c19"), looks := true }, kinds := [], alts := [], laidByText := true, laidKinds := [.data, .data, .data, .sentinel, .sentinel], laidTests := true, laidLooks := .later }
def RexSetsUptoCardSaid : Prop := Claim7.holds Tryd.pinned (.plain (OpenSpec.upto rexSetsSpec)) rexSetsUptoCard

/-- THE SECOND FORM's CARD OF 'archivistlaw04.RexBack'. -/
def rexBackUptoCard : Claim7 := { stood := { row := rexBackUptoRow, standIns := [], harness := (true, "f0053171790e29a48842c0356ceafb0c194f1390839f8d670ae71e370f937c19"), looks := true }, kinds := [], alts := [], laidByText := true, laidKinds := [.data, .data, .data, .sentinel, .sentinel], laidTests := true, laidLooks := .later }
def RexBackUptoCardSaid : Prop := Claim7.holds Tryd.pinned (.plain (OpenSpec.upto rexBackSpec)) rexBackUptoCard

/-- THE SECOND FORM's CARD OF 'archivistlaw04.RexPlain'. -/
def rexPlainUptoCard : Claim7 := { stood := { row := rexPlainUptoRow, standIns := [], harness := (true, "f0053171790e29a48842c0356ceafb0c194f1390839f8d670ae71e370f937c19"), looks := true }, kinds := [], alts := [], laidByText := true, laidKinds := [.data, .data, .data, .sentinel, .sentinel], laidTests := true, laidLooks := .later }
def RexPlainUptoCardSaid : Prop := Claim7.holds Tryd.pinned (.plain (OpenSpec.upto rexPlainSpec)) rexPlainUptoCard

/-- THE SECOND FORM's CARD OF 'archivistlaw04.RexWrong'. -/
def rexWrongUptoCard : Claim7 := { stood := { row := rexWrongUptoRow, standIns := [], harness := (true, "f0053171790e29a48842c0356ceafb0c194f1390839f8d670ae71e370f937c19"), looks := true }, kinds := [], alts := [], laidByText := true, laidKinds := [.data, .data, .data, .sentinel, .sentinel], laidTests := true, laidLooks := .later }
def RexWrongUptoCardSaid : Prop := Claim7.holds Tryd.pinned (.plain (OpenSpec.upto rexWrongSpec)) rexWrongUptoCard

/-- THE SECOND FORM's CARD OF 'archivistlaw04.RexSizes'. -/
def rexSizesUptoCard : Claim7 := { stood := { row := rexSizesUptoRow, standIns := [], harness := (true, "f0053171790e29a48842c0356ceafb0c194f1390839f8d670ae71e370f937c19"), looks := true }, kinds := [], alts := [], laidByText := true, laidKinds := [.data, .data, .data, .sentinel, .sentinel], laidTests := true, laidLooks := .later }
def RexSizesUptoCardSaid : Prop := Claim7.holds Tryd.pinned (.plain (OpenSpec.upto rexSizesSpec)) rexSizesUptoCard

/-- THE SECOND FORM's CARD OF 'archivistlaw04.RexForms'. -/
def rexFormsUptoCard : Claim7 := { stood := { row := rexFormsUptoRow, standIns := [], harness := (true, "f0053171790e29a48842c0356ceafb0c194f1390839f8d670ae71e370f937c19"), looks := true }, kinds := [], alts := [], laidByText := true, laidKinds := [.data, .data, .data, .sentinel, .sentinel], laidTests := true, laidLooks := .later }
def RexFormsUptoCardSaid : Prop := Claim7.holds Tryd.pinned (.plain (OpenSpec.upto rexFormsSpec)) rexFormsUptoCard

/-- THE SECOND FORM's CARD OF 'archivistlaw04.RexClasses'. -/
def rexClassesUptoCard : Claim7 := { stood := { row := rexClassesUptoRow, standIns := [], harness := (true, "f0053171790e29a48842c0356ceafb0c194f1390839f8d670ae71e370f937c19"), looks := true }, kinds := [], alts := [], laidByText := true, laidKinds := [.data, .data, .data, .sentinel, .sentinel], laidTests := true, laidLooks := .later }
def RexClassesUptoCardSaid : Prop := Claim7.holds Tryd.pinned (.plain (OpenSpec.upto rexClassesSpec)) rexClassesUptoCard
end Rows
end Go.Proofs.YtanopbolgfcojaaDoor
