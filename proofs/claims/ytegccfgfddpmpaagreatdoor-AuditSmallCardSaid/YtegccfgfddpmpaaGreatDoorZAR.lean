/-
  The law AuditSmall, a closed statement, returns true: a state with each thing wrong, alone and with each other one, steps between them, all rules and texts (P32.1 to P32.3). Conditions: none beyond the row's own (the listed package variables hold what the program's text lays).
-/
import Derived.Test.YtegccfgfddpmpaaGreatDoorZAQ
import Derived.Test.YtegccfgfddpmpaaGreatDoorTie
import Derived.Test.YtegccfgfddpmpaaGreatDoorCards
import Derived.SevenTiedAt

section
set_option linter.unusedVariables false
set_option linter.unusedSimpArgs false
namespace Go.Proofs.YtegccfgfddpmpaaGreatDoor
open Go
set_option maxRecDepth 100000
theorem auditSmall_card : Rows.AuditSmallCardSaid :=
  Claim7.holds_tied_plain_at .later [] [.data, .data, .data, .data, .sentinel, .sentinel, .pinned] true (true, "90f187acf9ebda6aa25c6483fd5f37161e318cc00a0bc960cac0b3571fcef2a6") true
    T.auditSmall_holds (fun _ h => by cases h) (by kernel_rfl) (fun _ h => by cases h) auditSmall_row_tie rfl ⟨rfl, rfl⟩ (by kernel_rfl) rfl
    (fun f fn hf hfn => by
      obtain rfl : f = 4 := Option.some.inj ((show Tryz.prog.funcNamed "quantum/quantumlaw32.AuditSmall" = some 4 by kernel_rfl).symm.trans hf) |>.symm
      obtain rfl : fn = Tryz.f4 := (Option.some.inj (Tryz.func4.symm.trans hfn)).symm
      exact ⟨by kernel_rfl, fun j t ht => by
        rw [Tryz.params4] at ht
        cases ht⟩)
    (by kernel_rfl)
#print axioms auditSmall_card
end Go.Proofs.YtegccfgfddpmpaaGreatDoor
end
