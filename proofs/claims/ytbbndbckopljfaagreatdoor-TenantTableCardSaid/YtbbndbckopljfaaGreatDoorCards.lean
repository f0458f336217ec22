/-
  DERIVED. GIVEN WITH THE SEED: THE CARDS: each row of YtbbndbckopljfaaGreatDoorRows.lean that lists a variable, with what it lists TIED to the program's text (the seventh form; the later family's looks); each row that meets fmt, with fmt's text TOLD by the authors' own Lean function (tested against real Go, not proved from fmt's source: count such statements apart). THE CARD IS WHAT COUNTS. Prove the row's statement (the work); the ties are given (YtbbndbckopljfaaGreatDoorTie.lean); close each card by the builder's one call (the guide's Derived/Test/ToyasCard.lean, 'card_holds'). Laid BY PROGRAM, IN A SANDBOX (cutbox-door.mjs). By AI agents, Wed Nov 11 2026. No macro, syntax, notation, axiom, sorry.
-/
import Derived.Test.YtbbndbckopljfaaGreatDoorRows
import GoSem.ClaimSeven
namespace Go.Proofs.YtbbndbckopljfaaGreatDoor
namespace Rows

/-- THE TIED CARD OF 'archivistlaw18.TenantTable'. -/
def tenantTableCard : Claim7 := { stood := { row := tenantTableRow, standIns := [], harness := (true, "0783f981522191f6a5ae93193736a6c372ac75d3b189046385a434063f4253a8"), looks := true }, kinds := [], alts := [], laidByText := true, laidKinds := [.data, .data, .data, .sentinel, .sentinel], laidTests := true, laidLooks := .later }
def TenantTableCardSaid : Prop := Claim7.holds Tryz.pinned (.plain (OpenSpec.ofChange tenantTableSpec)) tenantTableCard

/-- THE TIED CARD OF 'archivistlaw18.TenantMay'. -/
def tenantMayCard : Claim7 := { stood := { row := tenantMayRow, standIns := [], harness := (true, "0783f981522191f6a5ae93193736a6c372ac75d3b189046385a434063f4253a8"), looks := true }, kinds := [], alts := [], laidByText := true, laidKinds := [.data, .data, .data, .sentinel, .sentinel], laidTests := true, laidLooks := .later }
def TenantMayCardSaid : Prop := Claim7.holds Tryz.pinned (.plain (OpenSpec.ofChange tenantMaySpec)) tenantMayCard

/-- THE TIED CARD OF 'archivistlaw18.TenantQuota'. -/
def tenantQuotaCard : Claim7 := { stood := { row := tenantQuotaRow, standIns := [], harness := (true, "0783f981522191f6a5ae93193736a6c372ac75d3b189046385a434063f4253a8"), looks := true }, kinds := [], alts := [], laidByText := true, laidKinds := [.data, .data, .data, .sentinel, .sentinel], laidTests := true, laidLooks := .later }
def TenantQuotaCardSaid : Prop := Claim7.holds Tryz.pinned (.plain (OpenSpec.ofChange tenantQuotaSpec)) tenantQuotaCard

/-- THE TIED CARD OF 'archivistlaw18.TenantPrefix'. -/
def tenantPrefixCard : Claim7 := { stood := { row := tenantPrefixRow, standIns := [], harness := (true, "0783f981522191f6a5ae93193736a6c372ac75d3b189046385a434063f4253a8"), looks := true }, kinds := [], alts := [], laidByText := true, laidKinds := [.data, .data, .data, .sentinel, .sentinel], laidTests := true, laidLooks := .later }
def TenantPrefixCardSaid : Prop := Claim7.holds Tryz.pinned (.plain (OpenSpec.ofChange tenantPrefixSpec)) tenantPrefixCard

/-- THE TIED CARD OF 'archivistlaw18.TenantMust'. -/
def tenantMustCard : Claim7 := { stood := { row := tenantMustRow, standIns := [], harness := (true, "0783f981522191f6a5ae93193736a6c372ac75d3b189046385a434063f4253a8"), looks := true }, kinds := [], alts := [], laidByText := true, laidKinds := [.data, .data, .data, .sentinel, .sentinel], laidTests := true, laidLooks := .later }
def TenantMustCardSaid : Prop := Claim7.holds Tryz.pinned (.plain (OpenSpec.ofChange tenantMustSpec)) tenantMustCard

/-- THE SECOND FORM's CARD OF 'archivistlaw18.TenantTable'. -/
def tenantTableUptoCard : Claim7 := { stood := { row := tenantTableUptoRow, standIns := [], harness := (true, "0783f981522191f6a5ae93193736a6c372ac75d3b189046385a434063f4253a8"), looks := true }, kinds := [], alts := [], laidByText := true, laidKinds := [.data, .data, .data, .sentinel, .sentinel], laidTests := true, laidLooks := .later }
def TenantTableUptoCardSaid : Prop := Claim7.holds Tryz.pinned (.plain (OpenSpec.upto tenantTableSpec)) tenantTableUptoCard

/-- THE SECOND FORM's CARD OF 'archivistlaw18.TenantMay'. -/
def tenantMayUptoCard : Claim7 := { stood := { row := tenantMayUptoRow, standIns := [], harness := (true, "0783f981522191f6a5ae93193736a6c372ac75d3b189046385a434063f4253a8"), looks := true }, kinds := [], alts := [], laidByText := true, laidKinds := [.data, .data, .data, .sentinel, .sentinel], laidTests := true, laidLooks := .later }
def TenantMayUptoCardSaid : Prop := Claim7.holds Tryz.pinned (.plain (OpenSpec.upto tenantMaySpec)) tenantMayUptoCard

/-- THE SECOND FORM's CARD OF 'archivistlaw18.TenantQuota'. -/
def tenantQuotaUptoCard : Claim7 := { stood := { row := tenantQuotaUptoRow, standIns := [], harness := (true, "0783f981522191f6a5ae93193736a6c372ac75d3b189046385a434063f4253a8"), looks := true }, kinds := [], alts := [], laidByText := true, laidKinds := [.data, .data, .data, .sentinel, .sentinel], laidTests := true, laidLooks := .later }
def TenantQuotaUptoCardSaid : Prop := Claim7.holds Tryz.pinned (.plain (OpenSpec.upto tenantQuotaSpec)) tenantQuotaUptoCard

/-- THE SECOND FORM's CARD OF 'archivistlaw18.TenantPrefix'. -/
def tenantPrefixUptoCard : Claim7 := { stood := { row := tenantPrefixUptoRow, standIns := [], harness := (true, "0783f981522191f6a5ae93193736a6c372ac75d3b189046385a434063f4253a8"), looks := true }, kinds := [], alts := [], laidByText := true, laidKinds := [.data, .data, .data, .sentinel, .sentinel], laidTests := true, laidLooks := .later }
def TenantPrefixUptoCardSaid : Prop := Claim7.holds Tryz.pinned (.plain (OpenSpec.upto tenantPrefixSpec)) tenantPrefixUptoCard

/-- THE SECOND FORM's CARD OF 'archivistlaw18.TenantMust'. -/
def tenantMustUptoCard : Claim7 := { stood := { row := tenantMustUptoRow, standIns := [], harness := (true, "0783f981522191f6a5ae93193736a6c372ac75d3b189046385a434063f4253a8"), looks := true }, kinds := [], alts := [], laidByText := true, laidKinds := [.data, .data, .data, .sentinel, .sentinel], laidTests := true, laidLooks := .later }
def TenantMustUptoCardSaid : Prop := Claim7.holds Tryz.pinned (.plain (OpenSpec.upto tenantMustSpec)) tenantMustUptoCard
end Rows
end Go.Proofs.YtbbndbckopljfaaGreatDoor
