/-
  The law AuditOther of package quantumlaw32 (states of schedulers with other CPUs, Credit or groups are no step of one another, and nothing else is told; changed weights are none of these; of a state with faults nothing is told) returns true for every two configurations in numbers, every script in small numbers and every number; the listed variables of Go's library read as the program's text lays them.
-/
import Derived.Test.YtkiadljldlppbaaGreatDoorZAW
import Derived.Test.YtkiadljldlppbaaGreatDoorTie
import Derived.Test.YtkiadljldlppbaaGreatDoorCards
import Derived.SevenTiedAt
set_option linter.unusedVariables false
set_option linter.unusedSimpArgs false
section
namespace Go.Proofs.YtkiadljldlppbaaGreatDoor
open Go
set_option maxRecDepth 100000
theorem auditOther_card : Rows.AuditOtherCardSaid :=
  Claim7.holds_tied_plain_at .later [] [.data, .data, .data] true (true, "6f28bfa1a14c27a73a4e58401190264fb0c04a62924f0d971bde1d2dbbceda4e") true
    T.auditOther_holds (fun _ h => by cases h) (by kernel_rfl) (fun _ h => by cases h) auditOther_row_tie rfl ⟨rfl, rfl⟩ (by kernel_rfl) rfl
    (fun f fn hf hfn => by
      obtain rfl : f = 6 := Option.some.inj ((show Tryz.prog.funcNamed "quantum/quantumlaw32.AuditOther" = some 6 by kernel_rfl).symm.trans hf) |>.symm
      obtain rfl : fn = Tryz.f6 := (Option.some.inj (Tryz.func6.symm.trans hfn)).symm
      exact ⟨by kernel_rfl, fun j t ht => by
        rw [Tryz.params6] at ht
        have hm : t ∈ [27, 27, 28, 5] := by simpa using Array.mem_of_getElem? ht
        have hall : ([27, 27, 28, 5].all fun u => !Tryz.prog.wantsStandIn u) = true := by kernel_rfl
        exact (show Tryz.prog.wantsStandIn t = false by simpa using List.all_eq_true.1 hall t hm)⟩)
    (by kernel_rfl)
#print axioms auditOther_card
end Go.Proofs.YtkiadljldlppbaaGreatDoor
end
