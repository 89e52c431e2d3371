/-
  DERIVED. GIVEN WITH THE SEED: THE CARDS: each row of YtegccfgfddpmpaaGreatDoorRows.lean that lists a variable, with what it lists TIED to the program's text (the seventh form; the later family's looks); each row that meets fmt, with fmt's text TOLD by the authors' own Lean function (tested against real Go, not proved from fmt's source: count such statements apart). THE CARD IS WHAT COUNTS. Prove the row's statement (the work); the ties are given (YtegccfgfddpmpaaGreatDoorTie.lean); close each card by the builder's one call (the guide's Derived/Test/ToyasCard.lean, 'card_holds'). Laid BY PROGRAM, IN A SANDBOX (cutbox-door.mjs). By AI agents, Wed Nov 11 2026. No macro, syntax, notation, axiom, sorry.
-/
import Derived.Test.YtegccfgfddpmpaaGreatDoorRows
import GoSem.ClaimSeven
namespace Go.Proofs.YtegccfgfddpmpaaGreatDoor
namespace Rows

/-- THE TIED CARD OF 'quantumlaw32.AuditTexts'. -/
def auditTextsCard : Claim7 := { stood := { row := auditTextsRow, standIns := [], harness := (true, "90f187acf9ebda6aa25c6483fd5f37161e318cc00a0bc960cac0b3571fcef2a6"), looks := true }, kinds := [], alts := [], laidByText := true, laidKinds := [.data, .data, .data, .data, .sentinel, .sentinel, .pinned], laidTests := true, laidLooks := .later }
def AuditTextsCardSaid : Prop := Claim7.holds Tryz.pinned (.plain (OpenSpec.ofChange auditTextsSpec)) auditTextsCard

/-- THE TIED CARD OF 'quantumlaw32.AuditSmall'. -/
def auditSmallCard : Claim7 := { stood := { row := auditSmallRow, standIns := [], harness := (true, "90f187acf9ebda6aa25c6483fd5f37161e318cc00a0bc960cac0b3571fcef2a6"), looks := true }, kinds := [], alts := [], laidByText := true, laidKinds := [.data, .data, .data, .data, .sentinel, .sentinel, .pinned], laidTests := true, laidLooks := .later }
def AuditSmallCardSaid : Prop := Claim7.holds Tryz.pinned (.plain (OpenSpec.ofChange auditSmallSpec)) auditSmallCard

/-- THE SECOND FORM's CARD OF 'quantumlaw32.AuditTexts'. -/
def auditTextsUptoCard : Claim7 := { stood := { row := auditTextsUptoRow, standIns := [], harness := (true, "90f187acf9ebda6aa25c6483fd5f37161e318cc00a0bc960cac0b3571fcef2a6"), looks := true }, kinds := [], alts := [], laidByText := true, laidKinds := [.data, .data, .data, .data, .sentinel, .sentinel, .pinned], laidTests := true, laidLooks := .later }
def AuditTextsUptoCardSaid : Prop := Claim7.holds Tryz.pinned (.plain (OpenSpec.upto auditTextsSpec)) auditTextsUptoCard

/-- THE SECOND FORM's CARD OF 'quantumlaw32.AuditSmall'. -/
def auditSmallUptoCard : Claim7 := { stood := { row := auditSmallUptoRow, standIns := [], harness := (true, "90f187acf9ebda6aa25c6483fd5f37161e318cc00a0bc960cac0b3571fcef2a6"), looks := true }, kinds := [], alts := [], laidByText := true, laidKinds := [.data, .data, .data, .data, .sentinel, .sentinel, .pinned], laidTests := true, laidLooks := .later }
def AuditSmallUptoCardSaid : Prop := Claim7.holds Tryz.pinned (.plain (OpenSpec.upto auditSmallSpec)) auditSmallUptoCard
end Rows
end Go.Proofs.YtegccfgfddpmpaaGreatDoor
