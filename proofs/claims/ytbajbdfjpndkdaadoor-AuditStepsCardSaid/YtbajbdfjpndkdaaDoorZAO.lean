/-
  For every two states, the law AuditSteps returns true and leaves its arguments as they were: Step returns what the document specifies (P32.2). Conditions: none beyond the row's own (the listed package variables hold what the program's text lays).
-/
import Derived.Test.YtbajbdfjpndkdaaDoorZAN
import Derived.Test.YtbajbdfjpndkdaaDoorTie
import Derived.Test.YtbajbdfjpndkdaaDoorCards
import Derived.SevenTiedAt

section
set_option linter.unusedVariables false
set_option linter.unusedSimpArgs false
namespace Go.Proofs.YtbajbdfjpndkdaaDoor
open Go
set_option maxRecDepth 100000
theorem auditSteps_card : Rows.AuditStepsCardSaid :=
  Claim7.holds_tied_plain_at .later [] [.data, .data, .data] true (true, "6f74408bc6070aeb0b5aa4e11fe774b252c5691ccc886ad28bb2f6e6f3204f52") false
    T.auditSteps_holds (fun _ h => by cases h) (by kernel_rfl) (fun _ h => by cases h) auditSteps_row_tie rfl ⟨rfl, rfl⟩ (by kernel_rfl) rfl
    (fun f fn hf hfn => by
      obtain rfl : f = 4 := Option.some.inj ((show Tryd.prog.funcNamed "quantum/quantumlaw32.AuditSteps" = some 4 by kernel_rfl).symm.trans hf) |>.symm
      obtain rfl : fn = Tryd.f4 := (Option.some.inj (Tryd.func4.symm.trans hfn)).symm
      exact ⟨by kernel_rfl, fun j t ht => by
        rw [Tryd.params4] at ht
        have hm : t ∈ [30, 30] := by simpa using Array.mem_of_getElem? ht
        have hall : ([30, 30].all fun u => !Tryd.prog.wantsStandIn u) = true := by kernel_rfl
        exact (show Tryd.prog.wantsStandIn t = false by simpa using List.all_eq_true.1 hall t hm)⟩)
    (by kernel_rfl)
#print axioms auditSteps_card
end Go.Proofs.YtbajbdfjpndkdaaDoor
end
