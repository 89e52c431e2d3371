/-
  The law AuditOne returns true for every configuration, script and two numbers, as the statement says; no further conditions.
-/
import Derived.Test.YtkiadljldlppbaaGreatDoorZAU
import Derived.Test.YtkiadljldlppbaaGreatDoorTie
import Derived.Test.YtkiadljldlppbaaGreatDoorCards
import Derived.SevenTiedAt
set_option linter.unusedVariables false
set_option linter.unusedSimpArgs false
section
namespace Go.Proofs.YtkiadljldlppbaaGreatDoor
open Go
set_option maxRecDepth 100000
theorem auditOne_card : Rows.AuditOneCardSaid :=
  Claim7.holds_tied_plain_at .later [] [.data, .data, .data] true (true, "6f28bfa1a14c27a73a4e58401190264fb0c04a62924f0d971bde1d2dbbceda4e") true
    T.auditOne_holds (fun _ h => by cases h) (by kernel_rfl) (fun _ h => by cases h) auditOne_row_tie rfl ⟨rfl, rfl⟩ (by kernel_rfl) rfl
    (fun f fn hf hfn => by
      obtain rfl : f = 5 := Option.some.inj ((show Tryz.prog.funcNamed "quantum/quantumlaw32.AuditOne" = some 5 by kernel_rfl).symm.trans hf) |>.symm
      obtain rfl : fn = Tryz.f5 := (Option.some.inj (Tryz.func5.symm.trans hfn)).symm
      exact ⟨by kernel_rfl, fun j t ht => by
        rw [Tryz.params5] at ht
        have hm : t ∈ [27, 28, 5, 5] := by simpa using Array.mem_of_getElem? ht
        have hall : ([27, 28, 5, 5].all fun u => !Tryz.prog.wantsStandIn u) = true := by kernel_rfl
        exact (show Tryz.prog.wantsStandIn t = false by simpa using List.all_eq_true.1 hall t hm)⟩)
    (by kernel_rfl)
#print axioms auditOne_card
end Go.Proofs.YtkiadljldlppbaaGreatDoor
end
