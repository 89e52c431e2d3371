/-
  The law DeltaTells (Between returns what the document specifies; the states are not modified) returns true for every two states.
-/
import Derived.Test.YteimiejbhhgljaaGreatDoorZAQ
import Derived.Test.YteimiejbhhgljaaGreatDoorTie
import Derived.Test.YteimiejbhhgljaaGreatDoorCards
import Derived.SevenTiedAt
set_option linter.unusedVariables false
set_option linter.unusedSimpArgs false
section
namespace Go.Proofs.YteimiejbhhgljaaGreatDoor
open Go
set_option maxRecDepth 100000
theorem zc1 : Rows.deltaTellsRow.wfByText (OpenSpec.ofChange Rows.deltaTellsSpec) = true := by kernel_rfl
theorem zc2 : Tryz.prog.mainIs = some (true, "44a6086ac5184b85db2a6f52b8bbd8b1cc23ece8b5e7dc8b99e0be5dde0733a2".toList) := by kernel_rfl
theorem zc3 : true = Tryz.prog.looks [] := by kernel_rfl
theorem zc4 : false = Rows.deltaTellsRow.goesBy Tryz.prog := by kernel_rfl
theorem zc5 : Tryz.prog.funcNamed "quantum/quantumlaw35.DeltaTells" = some 3 := by kernel_rfl
theorem zc6 : ([30, 30].all fun u => !Tryz.prog.wantsStandIn u) = true := by kernel_rfl
theorem deltaTells_card : Rows.DeltaTellsCardSaid :=
  Claim7.holds_tied_plain_at .later [] [.data, .data, .data, .data, .sentinel, .sentinel, .pinned] true (true, "44a6086ac5184b85db2a6f52b8bbd8b1cc23ece8b5e7dc8b99e0be5dde0733a2") true
    T.deltaTells_holds (fun _ h => by cases h) zc1 (fun _ h => by cases h) deltaTells_row_tie rfl ⟨rfl, rfl⟩ zc2 rfl
    (fun f fn hf hfn => by
      obtain rfl : f = 3 := Option.some.inj (zc5.symm.trans hf) |>.symm
      obtain rfl : fn = Tryz.f3 := (Option.some.inj (Tryz.func3.symm.trans hfn)).symm
      exact ⟨zc3, fun j t ht => by
        rw [Tryz.params3] at ht
        have hm : t ∈ [30, 30] := by simpa using Array.mem_of_getElem? ht
        exact (show Tryz.prog.wantsStandIn t = false by simpa using List.all_eq_true.1 zc6 t hm)⟩)
    zc4
#print axioms deltaTells_card
end Go.Proofs.YteimiejbhhgljaaGreatDoor
end
