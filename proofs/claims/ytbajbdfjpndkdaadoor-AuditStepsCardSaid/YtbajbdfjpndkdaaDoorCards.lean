/-
  DERIVED. GIVEN WITH THE SEED: THE CARDS: each row of YtbajbdfjpndkdaaDoorRows.lean that lists a variable, with what it lists TIED to the program's text (the seventh form; the later family's looks); each row that meets fmt, with fmt's text TOLD by the authors' own Lean function (tested against real Go, not proved from fmt's source: count such statements apart). THE CARD IS WHAT COUNTS. Prove the row's statement (the work); the ties are given (YtbajbdfjpndkdaaDoorTie.lean); close each card by the builder's one call (the guide's Derived/Test/ToyasCard.lean, 'card_holds'). Laid BY PROGRAM, IN A SANDBOX (cutbox-door.mjs). By AI agents, Wed Nov 11 2026. No macro, syntax, notation, axiom, sorry.
-/
import Derived.Test.YtbajbdfjpndkdaaDoorRows
import GoSem.ClaimSeven
namespace Go.Proofs.YtbajbdfjpndkdaaDoor
namespace Rows

/-- THE TIED CARD OF 'quantumlaw32.AuditChecks'. -/
def auditChecksCard : Claim7 := { stood := { row := auditChecksRow, standIns := [], harness := (true, "6f74408bc6070aeb0b5aa4e11fe774b252c5691ccc886ad28bb2f6e6f3204f52"), looks := false }, kinds := [], alts := [], laidByText := true, laidKinds := [.data, .data, .data], laidTests := true, laidLooks := .later }
def AuditChecksCardSaid : Prop := Claim7.holds Tryd.pinned (.plain (OpenSpec.ofChange auditChecksSpec)) auditChecksCard

/-- THE TIED CARD OF 'quantumlaw32.AuditSteps'. -/
def auditStepsCard : Claim7 := { stood := { row := auditStepsRow, standIns := [], harness := (true, "6f74408bc6070aeb0b5aa4e11fe774b252c5691ccc886ad28bb2f6e6f3204f52"), looks := false }, kinds := [], alts := [], laidByText := true, laidKinds := [.data, .data, .data], laidTests := true, laidLooks := .later }
def AuditStepsCardSaid : Prop := Claim7.holds Tryd.pinned (.plain (OpenSpec.ofChange auditStepsSpec)) auditStepsCard

/-- THE SECOND FORM's CARD OF 'quantumlaw32.AuditChecks'. -/
def auditChecksUptoCard : Claim7 := { stood := { row := auditChecksUptoRow, standIns := [], harness := (true, "6f74408bc6070aeb0b5aa4e11fe774b252c5691ccc886ad28bb2f6e6f3204f52"), looks := false }, kinds := [], alts := [], laidByText := true, laidKinds := [.data, .data, .data], laidTests := true, laidLooks := .later }
def AuditChecksUptoCardSaid : Prop := Claim7.holds Tryd.pinned (.plain (OpenSpec.upto auditChecksSpec)) auditChecksUptoCard

/-- THE SECOND FORM's CARD OF 'quantumlaw32.AuditSteps'. -/
def auditStepsUptoCard : Claim7 := { stood := { row := auditStepsUptoRow, standIns := [], harness := (true, "6f74408bc6070aeb0b5aa4e11fe774b252c5691ccc886ad28bb2f6e6f3204f52"), looks := false }, kinds := [], alts := [], laidByText := true, laidKinds := [.data, .data, .data], laidTests := true, laidLooks := .later }
def AuditStepsUptoCardSaid : Prop := Claim7.holds Tryd.pinned (.plain (OpenSpec.upto auditStepsSpec)) auditStepsUptoCard
end Rows
end Go.Proofs.YtbajbdfjpndkdaaDoor
