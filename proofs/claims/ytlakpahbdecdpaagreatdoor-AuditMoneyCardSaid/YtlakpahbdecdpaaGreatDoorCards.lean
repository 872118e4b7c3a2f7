/-
  DERIVED. GIVEN WITH THE SEED: THE CARDS: each row of YtlakpahbdecdpaaGreatDoorRows.lean that lists a variable, with what it lists TIED to the program's text (the seventh form; the later family's looks); each row that meets fmt, with fmt's text TOLD by the authors' own Lean function (tested against real Go, not proved from fmt's source: count such statements apart). THE CARD IS WHAT COUNTS. Prove the row's statement (the work); the ties are given (YtlakpahbdecdpaaGreatDoorTie.lean); close each card by the builder's one call (the guide's Derived/Test/ToyasCard.lean, 'card_holds'). Laid BY PROGRAM, IN A SANDBOX (cutbox-door.mjs). By AI agents, Wed Nov 11 2026. No macro, syntax, notation, axiom, sorry.
-/
import Derived.Test.YtlakpahbdecdpaaGreatDoorRows
import GoSem.ClaimSeven
namespace Go.Proofs.YtlakpahbdecdpaaGreatDoor
namespace Rows

/-- THE TIED CARD OF 'papermilllaw62.AuditBalance'. -/
def auditBalanceCard : Claim7 := { stood := { row := auditBalanceRow, standIns := [], harness := (true, "9444f3804505cc9aae2f8798667109f7fc78ecf00f6bbc75ba3f3d551aa54681"), looks := true }, kinds := [], alts := [], laidByText := true, laidKinds := [.data, .data, .data], laidTests := true, laidLooks := .later }
def AuditBalanceCardSaid : Prop := Claim7.holds Tryz.pinned (.plain (OpenSpec.ofChange auditBalanceSpec)) auditBalanceCard

/-- THE TIED CARD OF 'papermilllaw62.AuditWeb'. -/
def auditWebCard : Claim7 := { stood := { row := auditWebRow, standIns := [], harness := (true, "9444f3804505cc9aae2f8798667109f7fc78ecf00f6bbc75ba3f3d551aa54681"), looks := true }, kinds := [], alts := [], laidByText := true, laidKinds := [.data, .data, .data], laidTests := true, laidLooks := .later }
def AuditWebCardSaid : Prop := Claim7.holds Tryz.pinned (.plain (OpenSpec.ofChange auditWebSpec)) auditWebCard

/-- THE TIED CARD OF 'papermilllaw62.AuditRolls'. -/
def auditRollsCard : Claim7 := { stood := { row := auditRollsRow, standIns := [], harness := (true, "9444f3804505cc9aae2f8798667109f7fc78ecf00f6bbc75ba3f3d551aa54681"), looks := true }, kinds := [], alts := [], laidByText := true, laidKinds := [.data, .data, .data], laidTests := true, laidLooks := .later }
def AuditRollsCardSaid : Prop := Claim7.holds Tryz.pinned (.plain (OpenSpec.ofChange auditRollsSpec)) auditRollsCard

/-- THE TIED CARD OF 'papermilllaw62.AuditOrders'. -/
def auditOrdersCard : Claim7 := { stood := { row := auditOrdersRow, standIns := [], harness := (true, "9444f3804505cc9aae2f8798667109f7fc78ecf00f6bbc75ba3f3d551aa54681"), looks := true }, kinds := [], alts := [], laidByText := true, laidKinds := [.data, .data, .data], laidTests := true, laidLooks := .later }
def AuditOrdersCardSaid : Prop := Claim7.holds Tryz.pinned (.plain (OpenSpec.ofChange auditOrdersSpec)) auditOrdersCard

/-- THE TIED CARD OF 'papermilllaw62.AuditClaims'. -/
def auditClaimsCard : Claim7 := { stood := { row := auditClaimsRow, standIns := [], harness := (true, "9444f3804505cc9aae2f8798667109f7fc78ecf00f6bbc75ba3f3d551aa54681"), looks := true }, kinds := [], alts := [], laidByText := true, laidKinds := [.data, .data, .data], laidTests := true, laidLooks := .later }
def AuditClaimsCardSaid : Prop := Claim7.holds Tryz.pinned (.plain (OpenSpec.ofChange auditClaimsSpec)) auditClaimsCard

/-- THE TIED CARD OF 'papermilllaw62.AuditMoney'. -/
def auditMoneyCard : Claim7 := { stood := { row := auditMoneyRow, standIns := [], harness := (true, "9444f3804505cc9aae2f8798667109f7fc78ecf00f6bbc75ba3f3d551aa54681"), looks := true }, kinds := [], alts := [], laidByText := true, laidKinds := [.data, .data, .data], laidTests := true, laidLooks := .later }
def AuditMoneyCardSaid : Prop := Claim7.holds Tryz.pinned (.plain (OpenSpec.ofChange auditMoneySpec)) auditMoneyCard

/-- THE TIED CARD OF 'papermilllaw62.AuditTexts'. -/
def auditTextsCard : Claim7 := { stood := { row := auditTextsRow, standIns := [], harness := (true, "9444f3804505cc9aae2f8798667109f7fc78ecf00f6bbc75ba3f3d551aa54681"), looks := true }, kinds := [], alts := [], laidByText := true, laidKinds := [.data, .data, .data], laidTests := true, laidLooks := .later }
def AuditTextsCardSaid : Prop := Claim7.holds Tryz.pinned (.plain (OpenSpec.ofChange auditTextsSpec)) auditTextsCard

/-- THE TIED CARD OF 'papermilllaw62.AuditCredited'. -/
def auditCreditedCard : Claim7 := { stood := { row := auditCreditedRow, standIns := [], harness := (true, "9444f3804505cc9aae2f8798667109f7fc78ecf00f6bbc75ba3f3d551aa54681"), looks := true }, kinds := [], alts := [], laidByText := true, laidKinds := [.data, .data, .data], laidTests := true, laidLooks := .later }
def AuditCreditedCardSaid : Prop := Claim7.holds Tryz.pinned (.plain (OpenSpec.ofChange auditCreditedSpec)) auditCreditedCard

/-- THE SECOND FORM's CARD OF 'papermilllaw62.AuditBalance'. -/
def auditBalanceUptoCard : Claim7 := { stood := { row := auditBalanceUptoRow, standIns := [], harness := (true, "9444f3804505cc9aae2f8798667109f7fc78ecf00f6bbc75ba3f3d551aa54681"), looks := true }, kinds := [], alts := [], laidByText := true, laidKinds := [.data, .data, .data], laidTests := true, laidLooks := .later }
def AuditBalanceUptoCardSaid : Prop := Claim7.holds Tryz.pinned (.plain (OpenSpec.upto auditBalanceSpec)) auditBalanceUptoCard

/-- THE SECOND FORM's CARD OF 'papermilllaw62.AuditWeb'. -/
def auditWebUptoCard : Claim7 := { stood := { row := auditWebUptoRow, standIns := [], harness := (true, "9444f3804505cc9aae2f8798667109f7fc78ecf00f6bbc75ba3f3d551aa54681"), looks := true }, kinds := [], alts := [], laidByText := true, laidKinds := [.data, .data, .data], laidTests := true, laidLooks := .later }
def AuditWebUptoCardSaid : Prop := Claim7.holds Tryz.pinned (.plain (OpenSpec.upto auditWebSpec)) auditWebUptoCard

/-- THE SECOND FORM's CARD OF 'papermilllaw62.AuditRolls'. -/
def auditRollsUptoCard : Claim7 := { stood := { row := auditRollsUptoRow, standIns := [], harness := (true, "9444f3804505cc9aae2f8798667109f7fc78ecf00f6bbc75ba3f3d551aa54681"), looks := true }, kinds := [], alts := [], laidByText := true, laidKinds := [.data, .data, .data], laidTests := true, laidLooks := .later }
def AuditRollsUptoCardSaid : Prop := Claim7.holds Tryz.pinned (.plain (OpenSpec.upto auditRollsSpec)) auditRollsUptoCard

/-- THE SECOND FORM's CARD OF 'papermilllaw62.AuditOrders'. -/
def auditOrdersUptoCard : Claim7 := { stood := { row := auditOrdersUptoRow, standIns := [], harness := (true, "9444f3804505cc9aae2f8798667109f7fc78ecf00f6bbc75ba3f3d551aa54681"), looks := true }, kinds := [], alts := [], laidByText := true, laidKinds := [.data, .data, .data], laidTests := true, laidLooks := .later }
def AuditOrdersUptoCardSaid : Prop := Claim7.holds Tryz.pinned (.plain (OpenSpec.upto auditOrdersSpec)) auditOrdersUptoCard

/-- THE SECOND FORM's CARD OF 'papermilllaw62.AuditClaims'. -/
def auditClaimsUptoCard : Claim7 := { stood := { row := auditClaimsUptoRow, standIns := [], harness := (true, "9444f3804505cc9aae2f8798667109f7fc78ecf00f6bbc75ba3f3d551aa54681"), looks := true }, kinds := [], alts := [], laidByText := true, laidKinds := [.data, .data, .data], laidTests := true, laidLooks := .later }
def AuditClaimsUptoCardSaid : Prop := Claim7.holds Tryz.pinned (.plain (OpenSpec.upto auditClaimsSpec)) auditClaimsUptoCard

/-- THE SECOND FORM's CARD OF 'papermilllaw62.AuditMoney'. -/
def auditMoneyUptoCard : Claim7 := { stood := { row := auditMoneyUptoRow, standIns := [], harness := (true, "9444f3804505cc9aae2f8798667109f7fc78ecf00f6bbc75ba3f3d551aa54681"), looks := true }, kinds := [], alts := [], laidByText := true, laidKinds := [.data, .data, .data], laidTests := true, laidLooks := .later }
def AuditMoneyUptoCardSaid : Prop := Claim7.holds Tryz.pinned (.plain (OpenSpec.upto auditMoneySpec)) auditMoneyUptoCard

/-- THE SECOND FORM's CARD OF 'papermilllaw62.AuditTexts'. -/
def auditTextsUptoCard : Claim7 := { stood := { row := auditTextsUptoRow, standIns := [], harness := (true, "9444f3804505cc9aae2f8798667109f7fc78ecf00f6bbc75ba3f3d551aa54681"), looks := true }, kinds := [], alts := [], laidByText := true, laidKinds := [.data, .data, .data], laidTests := true, laidLooks := .later }
def AuditTextsUptoCardSaid : Prop := Claim7.holds Tryz.pinned (.plain (OpenSpec.upto auditTextsSpec)) auditTextsUptoCard

/-- THE SECOND FORM's CARD OF 'papermilllaw62.AuditCredited'. -/
def auditCreditedUptoCard : Claim7 := { stood := { row := auditCreditedUptoRow, standIns := [], harness := (true, "9444f3804505cc9aae2f8798667109f7fc78ecf00f6bbc75ba3f3d551aa54681"), looks := true }, kinds := [], alts := [], laidByText := true, laidKinds := [.data, .data, .data], laidTests := true, laidLooks := .later }
def AuditCreditedUptoCardSaid : Prop := Claim7.holds Tryz.pinned (.plain (OpenSpec.upto auditCreditedSpec)) auditCreditedUptoCard
end Rows
end Go.Proofs.YtlakpahbdecdpaaGreatDoor
