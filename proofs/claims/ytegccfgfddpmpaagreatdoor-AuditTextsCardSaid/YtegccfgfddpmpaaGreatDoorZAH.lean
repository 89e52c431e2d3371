/-
  For every fault and every string, the law AuditTexts returns true and leaves its arguments as they were: Name, Text and Read return what the document specifies (P32.3). Conditions: none beyond the row's own (the listed package variables hold what the program's text lays).
-/
import Derived.Test.YtegccfgfddpmpaaGreatDoorZAG
import Derived.Test.YtegccfgfddpmpaaGreatDoorTie
import Derived.Test.YtegccfgfddpmpaaGreatDoorCards
import Derived.SevenTiedAt

section
set_option linter.unusedVariables false
set_option linter.unusedSimpArgs false
namespace Go.Proofs.YtegccfgfddpmpaaGreatDoor
open Go
set_option maxRecDepth 100000
theorem auditTexts_card : Rows.AuditTextsCardSaid :=
  Claim7.holds_tied_plain_at .later [] [.data, .data, .data, .data, .sentinel, .sentinel, .pinned] true (true, "90f187acf9ebda6aa25c6483fd5f37161e318cc00a0bc960cac0b3571fcef2a6") true
    T.auditTexts_holds (fun _ h => by cases h) (by kernel_rfl) (fun _ h => by cases h) auditTexts_row_tie rfl ⟨rfl, rfl⟩ (by kernel_rfl) rfl
    (fun f fn hf hfn => by
      obtain rfl : f = 3 := Option.some.inj ((show Tryz.prog.funcNamed "quantum/quantumlaw32.AuditTexts" = some 3 by kernel_rfl).symm.trans hf) |>.symm
      obtain rfl : fn = Tryz.f3 := (Option.some.inj (Tryz.func3.symm.trans hfn)).symm
      exact ⟨by kernel_rfl, fun j t ht => by
        rw [Tryz.params3] at ht
        have hm : t ∈ [23, 9] := by simpa using Array.mem_of_getElem? ht
        have hall : ([23, 9].all fun u => !Tryz.prog.wantsStandIn u) = true := by kernel_rfl
        exact (show Tryz.prog.wantsStandIn t = false by simpa using List.all_eq_true.1 hall t hm)⟩)
    (by kernel_rfl)
#print axioms auditTexts_card
end Go.Proofs.YtegccfgfddpmpaaGreatDoor
end
