/-
  The law DeltaLines (Write and Read return what the document specifies; arguments are not modified) returns true for every delta and every list of strings.
-/
import Derived.Test.YteimiejbhhgljaaGreatDoorZAR
import Derived.Test.YteimiejbhhgljaaGreatDoorTie
import Derived.Test.YteimiejbhhgljaaGreatDoorCards
import Derived.SevenTiedAt
set_option linter.unusedVariables false
set_option linter.unusedSimpArgs false
section
namespace Go.Proofs.YteimiejbhhgljaaGreatDoor
open Go
set_option maxRecDepth 100000
theorem zc1 : Rows.deltaLinesRow.wfByText (OpenSpec.ofChange Rows.deltaLinesSpec) = true := by kernel_rfl
theorem zc2 : Tryz.prog.mainIs = some (true, "44a6086ac5184b85db2a6f52b8bbd8b1cc23ece8b5e7dc8b99e0be5dde0733a2".toList) := by kernel_rfl
theorem zc3 : true = Tryz.prog.looks [] := by kernel_rfl
theorem zc4 : false = Rows.deltaLinesRow.goesBy Tryz.prog := by kernel_rfl
theorem zc5 : Tryz.prog.funcNamed "quantum/quantumlaw35.DeltaLines" = some 4 := by kernel_rfl
theorem zc6 : ([36, 37].all fun u => !Tryz.prog.wantsStandIn u) = true := by kernel_rfl
theorem deltaLines_card : Rows.DeltaLinesCardSaid :=
  Claim7.holds_tied_plain_at .later [] [.data, .data, .data, .data, .sentinel, .sentinel, .pinned] true (true, "44a6086ac5184b85db2a6f52b8bbd8b1cc23ece8b5e7dc8b99e0be5dde0733a2") true
    T.deltaLines_holds (fun _ h => by cases h) zc1 (fun _ h => by cases h) deltaLines_row_tie rfl ⟨rfl, rfl⟩ zc2 rfl
    (fun f fn hf hfn => by
      obtain rfl : f = 4 := Option.some.inj (zc5.symm.trans hf) |>.symm
      obtain rfl : fn = Tryz.f4 := (Option.some.inj (Tryz.func4.symm.trans hfn)).symm
      exact ⟨zc3, fun j t ht => by
        rw [Tryz.params4] at ht
        have hm : t ∈ [36, 37] := by simpa using Array.mem_of_getElem? ht
        exact (show Tryz.prog.wantsStandIn t = false by simpa using List.all_eq_true.1 zc6 t hm)⟩)
    zc4
#print axioms deltaLines_card
end Go.Proofs.YteimiejbhhgljaaGreatDoor
end
