/-
  DERIVED. GIVEN WITH THE SEED: THE CARDS: each row of YtkiadljldlppbaaGreatDoorRows.lean that lists a variable, with what it lists TIED to the program's text (the seventh form; the later family's looks); each row that meets fmt, with fmt's text TOLD by the authors' own Lean function (tested against real Go, not proved from fmt's source: count such statements apart). THE CARD IS WHAT COUNTS. Prove the row's statement (the work); the ties are given (YtkiadljldlppbaaGreatDoorTie.lean); close each card by the builder's one call (the guide's Derived/Test/ToyasCard.lean, 'card_holds'). Laid BY PROGRAM, IN A SANDBOX (cutbox-door.mjs). By AI agents, Wed Nov 11 2026. No macro, syntax, notation, axiom, sorry.
-/
import Derived.Test.YtkiadljldlppbaaGreatDoorRows
import GoSem.ClaimSeven
namespace Go.Proofs.YtkiadljldlppbaaGreatDoor
namespace Rows

/-- THE TIED CARD OF 'quantumlaw32.AuditWalks'. -/
def auditWalksCard : Claim7 := { stood := { row := auditWalksRow, standIns := [], harness := (true, "6f28bfa1a14c27a73a4e58401190264fb0c04a62924f0d971bde1d2dbbceda4e"), looks := true }, kinds := [], alts := [], laidByText := true, laidKinds := [.data, .data, .data], laidTests := true, laidLooks := .later }
def AuditWalksCardSaid : Prop := Claim7.holds Tryz.pinned (.plain (OpenSpec.ofChange auditWalksSpec)) auditWalksCard

/-- THE TIED CARD OF 'quantumlaw32.AuditBack'. -/
def auditBackCard : Claim7 := { stood := { row := auditBackRow, standIns := [], harness := (true, "6f28bfa1a14c27a73a4e58401190264fb0c04a62924f0d971bde1d2dbbceda4e"), looks := true }, kinds := [], alts := [], laidByText := true, laidKinds := [.data, .data, .data], laidTests := true, laidLooks := .later }
def AuditBackCardSaid : Prop := Claim7.holds Tryz.pinned (.plain (OpenSpec.ofChange auditBackSpec)) auditBackCard

/-- THE TIED CARD OF 'quantumlaw32.AuditOne'. -/
def auditOneCard : Claim7 := { stood := { row := auditOneRow, standIns := [], harness := (true, "6f28bfa1a14c27a73a4e58401190264fb0c04a62924f0d971bde1d2dbbceda4e"), looks := true }, kinds := [], alts := [], laidByText := true, laidKinds := [.data, .data, .data], laidTests := true, laidLooks := .later }
def AuditOneCardSaid : Prop := Claim7.holds Tryz.pinned (.plain (OpenSpec.ofChange auditOneSpec)) auditOneCard

/-- THE TIED CARD OF 'quantumlaw32.AuditOther'. -/
def auditOtherCard : Claim7 := { stood := { row := auditOtherRow, standIns := [], harness := (true, "6f28bfa1a14c27a73a4e58401190264fb0c04a62924f0d971bde1d2dbbceda4e"), looks := true }, kinds := [], alts := [], laidByText := true, laidKinds := [.data, .data, .data], laidTests := true, laidLooks := .later }
def AuditOtherCardSaid : Prop := Claim7.holds Tryz.pinned (.plain (OpenSpec.ofChange auditOtherSpec)) auditOtherCard

/-- THE TIED CARD OF 'quantumlaw32.AuditRight'. -/
def auditRightCard : Claim7 := { stood := { row := auditRightRow, standIns := [], harness := (true, "6f28bfa1a14c27a73a4e58401190264fb0c04a62924f0d971bde1d2dbbceda4e"), looks := true }, kinds := [], alts := [], laidByText := true, laidKinds := [.data, .data, .data], laidTests := true, laidLooks := .later }
def AuditRightCardSaid : Prop := Claim7.holds Tryz.pinned (.plain (OpenSpec.ofChange auditRightSpec)) auditRightCard

/-- THE TIED CARD OF 'quantumlaw32.AuditTold'. -/
def auditToldCard : Claim7 := { stood := { row := auditToldRow, standIns := [], harness := (true, "6f28bfa1a14c27a73a4e58401190264fb0c04a62924f0d971bde1d2dbbceda4e"), looks := true }, kinds := [], alts := [], laidByText := true, laidKinds := [.data, .data, .data, .data, .sentinel, .sentinel, .pinned], laidTests := true, laidLooks := .later }
def AuditToldCardSaid : Prop := Claim7.holds Tryz.pinned (.plain (OpenSpec.ofChange auditToldSpec)) auditToldCard

/-- THE SECOND FORM's CARD OF 'quantumlaw32.AuditWalks'. -/
def auditWalksUptoCard : Claim7 := { stood := { row := auditWalksUptoRow, standIns := [], harness := (true, "6f28bfa1a14c27a73a4e58401190264fb0c04a62924f0d971bde1d2dbbceda4e"), looks := true }, kinds := [], alts := [], laidByText := true, laidKinds := [.data, .data, .data], laidTests := true, laidLooks := .later }
def AuditWalksUptoCardSaid : Prop := Claim7.holds Tryz.pinned (.plain (OpenSpec.upto auditWalksSpec)) auditWalksUptoCard

/-- THE SECOND FORM's CARD OF 'quantumlaw32.AuditBack'. -/
def auditBackUptoCard : Claim7 := { stood := { row := auditBackUptoRow, standIns := [], harness := (true, "6f28bfa1a14c27a73a4e58401190264fb0c04a62924f0d971bde1d2dbbceda4e"), looks := true }, kinds := [], alts := [], laidByText := true, laidKinds := [.data, .data, .data], laidTests := true, laidLooks := .later }
def AuditBackUptoCardSaid : Prop := Claim7.holds Tryz.pinned (.plain (OpenSpec.upto auditBackSpec)) auditBackUptoCard

/-- THE SECOND FORM's CARD OF 'quantumlaw32.AuditOne'. -/
def auditOneUptoCard : Claim7 := { stood := { row := auditOneUptoRow, standIns := [], harness := (true, "6f28bfa1a14c27a73a4e58401190264fb0c04a62924f0d971bde1d2dbbceda4e"), looks := true }, kinds := [], alts := [], laidByText := true, laidKinds := [.data, .data, .data], laidTests := true, laidLooks := .later }
def AuditOneUptoCardSaid : Prop := Claim7.holds Tryz.pinned (.plain (OpenSpec.upto auditOneSpec)) auditOneUptoCard

/-- THE SECOND FORM's CARD OF 'quantumlaw32.AuditOther'. -/
def auditOtherUptoCard : Claim7 := { stood := { row := auditOtherUptoRow, standIns := [], harness := (true, "6f28bfa1a14c27a73a4e58401190264fb0c04a62924f0d971bde1d2dbbceda4e"), looks := true }, kinds := [], alts := [], laidByText := true, laidKinds := [.data, .data, .data], laidTests := true, laidLooks := .later }
def AuditOtherUptoCardSaid : Prop := Claim7.holds Tryz.pinned (.plain (OpenSpec.upto auditOtherSpec)) auditOtherUptoCard

/-- THE SECOND FORM's CARD OF 'quantumlaw32.AuditRight'. -/
def auditRightUptoCard : Claim7 := { stood := { row := auditRightUptoRow, standIns := [], harness := (true, "6f28bfa1a14c27a73a4e58401190264fb0c04a62924f0d971bde1d2dbbceda4e"), looks := true }, kinds := [], alts := [], laidByText := true, laidKinds := [.data, .data, .data], laidTests := true, laidLooks := .later }
def AuditRightUptoCardSaid : Prop := Claim7.holds Tryz.pinned (.plain (OpenSpec.upto auditRightSpec)) auditRightUptoCard

/-- THE SECOND FORM's CARD OF 'quantumlaw32.AuditTold'. -/
def auditToldUptoCard : Claim7 := { stood := { row := auditToldUptoRow, standIns := [], harness := (true, "6f28bfa1a14c27a73a4e58401190264fb0c04a62924f0d971bde1d2dbbceda4e"), looks := true }, kinds := [], alts := [], laidByText := true, laidKinds := [.data, .data, .data, .data, .sentinel, .sentinel, .pinned], laidTests := true, laidLooks := .later }
def AuditToldUptoCardSaid : Prop := Claim7.holds Tryz.pinned (.plain (OpenSpec.upto auditToldSpec)) auditToldUptoCard
end Rows
end Go.Proofs.YtkiadljldlppbaaGreatDoor
