/-
  DERIVED. GIVEN WITH THE SEED: THE CARDS: each row of YtgbheglnmdnkoaaGreatDoorRows.lean that lists a variable, with what it lists TIED to the program's text (the seventh form; the later family's looks); each row that meets fmt, with fmt's text TOLD by the authors' own Lean function (tested against real Go, not proved from fmt's source: count such statements apart). THE CARD IS WHAT COUNTS. Prove the row's statement (the work); the ties are given (YtgbheglnmdnkoaaGreatDoorTie.lean); close each card by the builder's one call (the guide's Derived/Test/ToyasCard.lean, 'card_holds'). Laid BY PROGRAM, IN A SANDBOX (cutbox-door.mjs). By AI agents, Wed Nov 11 2026. No macro, syntax, notation, axiom, sorry.
-/
import Derived.Test.YtgbheglnmdnkoaaGreatDoorRows
import GoSem.ClaimSeven
namespace Go.Proofs.YtgbheglnmdnkoaaGreatDoor
namespace Rows

/-- THE TIED CARD OF 'archivistlaw11.MatchAll'. -/
def matchAllCard : Claim7 := { stood := { row := matchAllRow, standIns := [], harness := (true, "6357cff3d09d711a7da39d2c4a9daa87b4fce255b7fdcd7400b573e306f24684"), looks := true }, kinds := [], alts := [], laidByText := true, laidKinds := [.data, .data, .data, .sentinel, .sentinel], laidTests := true, laidLooks := .later }
def MatchAllCardSaid : Prop := Claim7.holds Tryz.pinned (.plain (OpenSpec.ofChange matchAllSpec)) matchAllCard

/-- THE TIED CARD OF 'archivistlaw11.MatchAbsent'. -/
def matchAbsentCard : Claim7 := { stood := { row := matchAbsentRow, standIns := [], harness := (true, "6357cff3d09d711a7da39d2c4a9daa87b4fce255b7fdcd7400b573e306f24684"), looks := true }, kinds := [], alts := [], laidByText := true, laidKinds := [.data, .data, .data, .sentinel, .sentinel], laidTests := true, laidLooks := .later }
def MatchAbsentCardSaid : Prop := Claim7.holds Tryz.pinned (.plain (OpenSpec.ofChange matchAbsentSpec)) matchAbsentCard

/-- THE TIED CARD OF 'archivistlaw14.StoreTells'. -/
def storeTellsCard : Claim7 := { stood := { row := storeTellsRow, standIns := [], harness := (true, "6357cff3d09d711a7da39d2c4a9daa87b4fce255b7fdcd7400b573e306f24684"), looks := true }, kinds := [], alts := [], laidByText := true, laidKinds := [.data, .data, .data, .sentinel, .sentinel], laidTests := true, laidLooks := .later }
def StoreTellsCardSaid : Prop := Claim7.holds Tryz.pinned (.plain (OpenSpec.ofChange storeTellsSpec)) storeTellsCard

/-- THE TIED CARD OF 'archivistlaw14.StoreFails'. -/
def storeFailsCard : Claim7 := { stood := { row := storeFailsRow, standIns := [], harness := (true, "6357cff3d09d711a7da39d2c4a9daa87b4fce255b7fdcd7400b573e306f24684"), looks := true }, kinds := [], alts := [], laidByText := true, laidKinds := [.data, .data, .data, .sentinel, .sentinel], laidTests := true, laidLooks := .later }
def StoreFailsCardSaid : Prop := Claim7.holds Tryz.pinned (.plain (OpenSpec.ofChange storeFailsSpec)) storeFailsCard

/-- THE TIED CARD OF 'archivistlaw14.StoreSplit'. -/
def storeSplitCard : Claim7 := { stood := { row := storeSplitRow, standIns := [], harness := (true, "6357cff3d09d711a7da39d2c4a9daa87b4fce255b7fdcd7400b573e306f24684"), looks := true }, kinds := [], alts := [], laidByText := true, laidKinds := [.data, .data, .data, .sentinel, .sentinel], laidTests := true, laidLooks := .later }
def StoreSplitCardSaid : Prop := Claim7.holds Tryz.pinned (.plain (OpenSpec.ofChange storeSplitSpec)) storeSplitCard

/-- THE TIED CARD OF 'archivistlaw14.StoreWhole'. -/
def storeWholeCard : Claim7 := { stood := { row := storeWholeRow, standIns := [], harness := (true, "6357cff3d09d711a7da39d2c4a9daa87b4fce255b7fdcd7400b573e306f24684"), looks := true }, kinds := [], alts := [], laidByText := true, laidKinds := [.data, .data, .data, .sentinel, .sentinel], laidTests := true, laidLooks := .later }
def StoreWholeCardSaid : Prop := Claim7.holds Tryz.pinned (.plain (OpenSpec.ofChange storeWholeSpec)) storeWholeCard

/-- THE TIED CARD OF 'archivistlaw20.FanTells'. -/
def fanTellsCard : Claim7 := { stood := { row := fanTellsRow, standIns := [], harness := (true, "6357cff3d09d711a7da39d2c4a9daa87b4fce255b7fdcd7400b573e306f24684"), looks := true }, kinds := [], alts := [], laidByText := true, laidKinds := [.data, .data, .data, .sentinel, .sentinel], laidTests := true, laidLooks := .later }
def FanTellsCardSaid : Prop := Claim7.holds Tryz.pinned (.plain (OpenSpec.ofChange fanTellsSpec)) fanTellsCard

/-- THE TIED CARD OF 'archivistlaw20.FanWhole'. -/
def fanWholeCard : Claim7 := { stood := { row := fanWholeRow, standIns := [], harness := (true, "6357cff3d09d711a7da39d2c4a9daa87b4fce255b7fdcd7400b573e306f24684"), looks := true }, kinds := [], alts := [], laidByText := true, laidKinds := [.data, .data, .data, .sentinel, .sentinel], laidTests := true, laidLooks := .later }
def FanWholeCardSaid : Prop := Claim7.holds Tryz.pinned (.plain (OpenSpec.ofChange fanWholeSpec)) fanWholeCard

/-- THE TIED CARD OF 'archivistlaw20.FanOrder'. -/
def fanOrderCard : Claim7 := { stood := { row := fanOrderRow, standIns := [], harness := (true, "6357cff3d09d711a7da39d2c4a9daa87b4fce255b7fdcd7400b573e306f24684"), looks := true }, kinds := [], alts := [], laidByText := true, laidKinds := [.data, .data, .data, .sentinel, .sentinel], laidTests := true, laidLooks := .later }
def FanOrderCardSaid : Prop := Claim7.holds Tryz.pinned (.plain (OpenSpec.ofChange fanOrderSpec)) fanOrderCard

/-- THE TIED CARD OF 'archivistlaw20.FanDown'. -/
def fanDownCard : Claim7 := { stood := { row := fanDownRow, standIns := [], harness := (true, "6357cff3d09d711a7da39d2c4a9daa87b4fce255b7fdcd7400b573e306f24684"), looks := true }, kinds := [], alts := [], laidByText := true, laidKinds := [.data, .data, .data, .sentinel, .sentinel], laidTests := true, laidLooks := .later }
def FanDownCardSaid : Prop := Claim7.holds Tryz.pinned (.plain (OpenSpec.ofChange fanDownSpec)) fanDownCard

/-- THE TIED CARD OF 'archivistlaw20.FanSame'. -/
def fanSameCard : Claim7 := { stood := { row := fanSameRow, standIns := [], harness := (true, "6357cff3d09d711a7da39d2c4a9daa87b4fce255b7fdcd7400b573e306f24684"), looks := true }, kinds := [], alts := [], laidByText := true, laidKinds := [.data, .data, .data, .sentinel, .sentinel], laidTests := true, laidLooks := .later }
def FanSameCardSaid : Prop := Claim7.holds Tryz.pinned (.plain (OpenSpec.ofChange fanSameSpec)) fanSameCard

/-- THE TIED CARD OF 'archivistlaw20.FanEnds'. -/
def fanEndsCard : Claim7 := { stood := { row := fanEndsRow, standIns := [], harness := (true, "6357cff3d09d711a7da39d2c4a9daa87b4fce255b7fdcd7400b573e306f24684"), looks := true }, kinds := [], alts := [], laidByText := true, laidKinds := [.data, .data, .data, .sentinel, .sentinel], laidTests := true, laidLooks := .later }
def FanEndsCardSaid : Prop := Claim7.holds Tryz.pinned (.plain (OpenSpec.ofChange fanEndsSpec)) fanEndsCard

/-- THE SECOND FORM's CARD OF 'archivistlaw11.MatchAll'. -/
def matchAllUptoCard : Claim7 := { stood := { row := matchAllUptoRow, standIns := [], harness := (true, "6357cff3d09d711a7da39d2c4a9daa87b4fce255b7fdcd7400b573e306f24684"), looks := true }, kinds := [], alts := [], laidByText := true, laidKinds := [.data, .data, .data, .sentinel, .sentinel], laidTests := true, laidLooks := .later }
def MatchAllUptoCardSaid : Prop := Claim7.holds Tryz.pinned (.plain (OpenSpec.upto matchAllSpec)) matchAllUptoCard

/-- THE SECOND FORM's CARD OF 'archivistlaw11.MatchAbsent'. -/
def matchAbsentUptoCard : Claim7 := { stood := { row := matchAbsentUptoRow, standIns := [], harness := (true, "6357cff3d09d711a7da39d2c4a9daa87b4fce255b7fdcd7400b573e306f24684"), looks := true }, kinds := [], alts := [], laidByText := true, laidKinds := [.data, .data, .data, .sentinel, .sentinel], laidTests := true, laidLooks := .later }
def MatchAbsentUptoCardSaid : Prop := Claim7.holds Tryz.pinned (.plain (OpenSpec.upto matchAbsentSpec)) matchAbsentUptoCard

/-- THE SECOND FORM's CARD OF 'archivistlaw14.StoreTells'. -/
def storeTellsUptoCard : Claim7 := { stood := { row := storeTellsUptoRow, standIns := [], harness := (true, "6357cff3d09d711a7da39d2c4a9daa87b4fce255b7fdcd7400b573e306f24684"), looks := true }, kinds := [], alts := [], laidByText := true, laidKinds := [.data, .data, .data, .sentinel, .sentinel], laidTests := true, laidLooks := .later }
def StoreTellsUptoCardSaid : Prop := Claim7.holds Tryz.pinned (.plain (OpenSpec.upto storeTellsSpec)) storeTellsUptoCard

/-- THE SECOND FORM's CARD OF 'archivistlaw14.StoreFails'. -/
def storeFailsUptoCard : Claim7 := { stood := { row := storeFailsUptoRow, standIns := [], harness := (true, "6357cff3d09d711a7da39d2c4a9daa87b4fce255b7fdcd7400b573e306f24684"), looks := true }, kinds := [], alts := [], laidByText := true, laidKinds := [.data, .data, .data, .sentinel, .sentinel], laidTests := true, laidLooks := .later }
def StoreFailsUptoCardSaid : Prop := Claim7.holds Tryz.pinned (.plain (OpenSpec.upto storeFailsSpec)) storeFailsUptoCard

/-- THE SECOND FORM's CARD OF 'archivistlaw14.StoreSplit'. -/
def storeSplitUptoCard : Claim7 := { stood := { row := storeSplitUptoRow, standIns := [], harness := (true, "6357cff3d09d711a7da39d2c4a9daa87b4fce255b7fdcd7400b573e306f24684"), looks := true }, kinds := [], alts := [], laidByText := true, laidKinds := [.data, .data, .data, .sentinel, .sentinel], laidTests := true, laidLooks := .later }
def StoreSplitUptoCardSaid : Prop := Claim7.holds Tryz.pinned (.plain (OpenSpec.upto storeSplitSpec)) storeSplitUptoCard

/-- THE SECOND FORM's CARD OF 'archivistlaw14.StoreWhole'. -/
def storeWholeUptoCard : Claim7 := { stood := { row := storeWholeUptoRow, standIns := [], harness := (true, "6357cff3d09d711a7da39d2c4a9daa87b4fce255b7fdcd7400b573e306f24684"), looks := true }, kinds := [], alts := [], laidByText := true, laidKinds := [.data, .data, .data, .sentinel, .sentinel], laidTests := true, laidLooks := .later }
def StoreWholeUptoCardSaid : Prop := Claim7.holds Tryz.pinned (.plain (OpenSpec.upto storeWholeSpec)) storeWholeUptoCard

/-- THE SECOND FORM's CARD OF 'archivistlaw20.FanTells'. -/
def fanTellsUptoCard : Claim7 := { stood := { row := fanTellsUptoRow, standIns := [], harness := (true, "6357cff3d09d711a7da39d2c4a9daa87b4fce255b7fdcd7400b573e306f24684"), looks := true }, kinds := [], alts := [], laidByText := true, laidKinds := [.data, .data, .data, .sentinel, .sentinel], laidTests := true, laidLooks := .later }
def FanTellsUptoCardSaid : Prop := Claim7.holds Tryz.pinned (.plain (OpenSpec.upto fanTellsSpec)) fanTellsUptoCard

/-- THE SECOND FORM's CARD OF 'archivistlaw20.FanWhole'. -/
def fanWholeUptoCard : Claim7 := { stood := { row := fanWholeUptoRow, standIns := [], harness := (true, "6357cff3d09d711a7da39d2c4a9daa87b4fce255b7fdcd7400b573e306f24684"), looks := true }, kinds := [], alts := [], laidByText := true, laidKinds := [.data, .data, .data, .sentinel, .sentinel], laidTests := true, laidLooks := .later }
def FanWholeUptoCardSaid : Prop := Claim7.holds Tryz.pinned (.plain (OpenSpec.upto fanWholeSpec)) fanWholeUptoCard

/-- THE SECOND FORM's CARD OF 'archivistlaw20.FanOrder'. -/
def fanOrderUptoCard : Claim7 := { stood := { row := fanOrderUptoRow, standIns := [], harness := (true, "6357cff3d09d711a7da39d2c4a9daa87b4fce255b7fdcd7400b573e306f24684"), looks := true }, kinds := [], alts := [], laidByText := true, laidKinds := [.data, .data, .data, .sentinel, .sentinel], laidTests := true, laidLooks := .later }
def FanOrderUptoCardSaid : Prop := Claim7.holds Tryz.pinned (.plain (OpenSpec.upto fanOrderSpec)) fanOrderUptoCard

/-- THE SECOND FORM's CARD OF 'archivistlaw20.FanDown'. -/
def fanDownUptoCard : Claim7 := { stood := { row := fanDownUptoRow, standIns := [], harness := (true, "6357cff3d09d711a7da39d2c4a9daa87b4fce255b7fdcd7400b573e306f24684"), looks := true }, kinds := [], alts := [], laidByText := true, laidKinds := [.data, .data, .data, .sentinel, .sentinel], laidTests := true, laidLooks := .later }
def FanDownUptoCardSaid : Prop := Claim7.holds Tryz.pinned (.plain (OpenSpec.upto fanDownSpec)) fanDownUptoCard

/-- THE SECOND FORM's CARD OF 'archivistlaw20.FanSame'. -/
def fanSameUptoCard : Claim7 := { stood := { row := fanSameUptoRow, standIns := [], harness := (true, "6357cff3d09d711a7da39d2c4a9daa87b4fce255b7fdcd7400b573e306f24684"), looks := true }, kinds := [], alts := [], laidByText := true, laidKinds := [.data, .data, .data, .sentinel, .sentinel], laidTests := true, laidLooks := .later }
def FanSameUptoCardSaid : Prop := Claim7.holds Tryz.pinned (.plain (OpenSpec.upto fanSameSpec)) fanSameUptoCard

/-- THE SECOND FORM's CARD OF 'archivistlaw20.FanEnds'. -/
def fanEndsUptoCard : Claim7 := { stood := { row := fanEndsUptoRow, standIns := [], harness := (true, "6357cff3d09d711a7da39d2c4a9daa87b4fce255b7fdcd7400b573e306f24684"), looks := true }, kinds := [], alts := [], laidByText := true, laidKinds := [.data, .data, .data, .sentinel, .sentinel], laidTests := true, laidLooks := .later }
def FanEndsUptoCardSaid : Prop := Claim7.holds Tryz.pinned (.plain (OpenSpec.upto fanEndsSpec)) fanEndsUptoCard
end Rows
end Go.Proofs.YtgbheglnmdnkoaaGreatDoor
