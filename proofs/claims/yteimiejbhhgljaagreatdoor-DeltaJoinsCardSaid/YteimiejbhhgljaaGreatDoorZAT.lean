/-
  The law DeltaJoins (deltas that are joined lead where both lead; their size is at most that of both together; with the delta back nothing is left) returns true for every configuration, script and two cuts.
-/
import Derived.Test.YteimiejbhhgljaaGreatDoorZAS
import Derived.Test.YteimiejbhhgljaaGreatDoorTie
import Derived.Test.YteimiejbhhgljaaGreatDoorCards
import Derived.SevenTiedAt
set_option linter.unusedVariables false
set_option linter.unusedSimpArgs false
set_option maxHeartbeats 0
set_option maxRecDepth 100000
open Array renaming mem_of_getElem?->SD
open Bool renaming false->aE,true->aB
open List renaming all_eq_true->aW,getD->oH,getD_eq_getElem?_getD->aR,getElem_mem->JR,map->rS,map_append->aM,map_cons->bI,map_map->jM,map_nil->bQ,range->aN
open Nat renaming add_assoc->gD,add_sub_cancel->a4V,add_sub_cancel_left->lE,mul_one->HW,sub_self->RX
open Option renaming some->aA
open Go.Proofs.Tryz renaming f10->oA,prog->aD
section
namespace Go.Proofs.YteimiejbhhgljaaGreatDoor
open Go
theorem zc1:Rows.deltaJoinsRow.wfByText (OpenSpec.ofChange Rows.deltaJoinsSpec)=aB:=by kernel_rfl
theorem zc2:aD.mainIs=aA (aB,"44a6086ac5184b85db2a6f52b8bbd8b1cc23ece8b5e7dc8b99e0be5dde0733a2".toList):=by kernel_rfl
theorem zc3:aB=aD.looks []:=by kernel_rfl
theorem zc4:aE=Rows.deltaJoinsRow.goesBy aD:=by kernel_rfl
theorem zc5:aD.funcNamed "quantum/quantumlaw35.DeltaJoins"=aA 10:=by kernel_rfl
theorem zc6:([55,56,5,5].all λ u=> !aD.wantsStandIn u)=aB:=by kernel_rfl
theorem deltaJoins_card:Rows.DeltaJoinsCardSaid:=
 Claim7.holds_tied_plain_at .later [] [.data,.data,.data,.data,.sentinel,.sentinel,.pinned] aB (aB,"44a6086ac5184b85db2a6f52b8bbd8b1cc23ece8b5e7dc8b99e0be5dde0733a2") aB
  T.deltaJoins_holds (λ _ h=>by cases h) zc1 (λ _ h=>by cases h) deltaJoins_row_tie rfl ⟨rfl,rfl⟩ zc2 rfl
  (λ f fn hf hfn=>by
    obtain rfl:f=10:=aA.inj (zc5.symm.trans hf)|>.symm;obtain rfl:fn=oA:=(aA.inj (Tryz.func10.symm.trans hfn)).symm
    exact⟨zc3,λ j t ht=>by
     rw[Tryz.params10]at ht;have hm:t∈[55,56,5,5]:=by simpa using SD ht
     exact(show aD.wantsStandIn t=aE by simpa using aW.1 zc6 t hm)⟩)
  zc4
#print axioms deltaJoins_card
end Go.Proofs.YteimiejbhhgljaaGreatDoor
end
