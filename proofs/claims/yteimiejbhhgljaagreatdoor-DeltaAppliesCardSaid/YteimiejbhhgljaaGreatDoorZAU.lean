/-
  The law DeltaApplies (Apply and Join return what the document specifies; arguments are not modified) returns true for every state and every two deltas.
-/
import Derived.Test.YteimiejbhhgljaaGreatDoorZAT
import Derived.Test.YteimiejbhhgljaaGreatDoorTie
import Derived.Test.YteimiejbhhgljaaGreatDoorCards
import Derived.SevenTiedAt
set_option linter.unusedVariables false
set_option linter.unusedSimpArgs false
set_option maxHeartbeats 0
set_option maxRecDepth 100000
open Array renaming mem_of_getElem?->bGD
open List renaming all_eq_true->aW,getD_eq_getElem?_getD->bD,getElem_mem->bKH,map->jL,map_append->aH,map_cons->bG,map_map->jD,map_nil->aV,range->aM,range_succ->CI
open Nat renaming add_assoc->fS,add_sub_cancel->rN,add_sub_cancel_left->iW,mul_one->bAM,sub_self->PG
open Option renaming some->mB
open Go.Proofs.Tryz renaming f5->vJ,prog->aA
section
namespace Go.Proofs.YteimiejbhhgljaaGreatDoor
open Go
theorem zc1:Rows.deltaAppliesRow.wfByText (OpenSpec.ofChange Rows.deltaAppliesSpec)=true:=by kernel_rfl
theorem zc2:aA.mainIs=some (true,"44a6086ac5184b85db2a6f52b8bbd8b1cc23ece8b5e7dc8b99e0be5dde0733a2".toList):=by kernel_rfl
theorem zc3:true=aA.looks []:=by kernel_rfl
theorem zc4:false=Rows.deltaAppliesRow.goesBy aA:=by kernel_rfl
theorem zc5:aA.funcNamed "quantum/quantumlaw35.DeltaApplies"=some 5:=by kernel_rfl
theorem zc6:([30,36,36].all λ u=> !aA.wantsStandIn u)=true:=by kernel_rfl
theorem deltaApplies_card:Rows.DeltaAppliesCardSaid:=
 Claim7.holds_tied_plain_at .later [] [.data,.data,.data,.data,.sentinel,.sentinel,.pinned] true (true,"44a6086ac5184b85db2a6f52b8bbd8b1cc23ece8b5e7dc8b99e0be5dde0733a2") true
  T.deltaApplies_holds (λ _ h=>by cases h) zc1 (λ _ h=>by cases h) deltaApplies_row_tie rfl ⟨rfl,rfl⟩ zc2 rfl
  (λ f fn hf hfn=>by
    obtain rfl:f=5:=mB.inj (zc5.symm.trans hf)|>.symm;obtain rfl:fn=vJ:=(mB.inj (Tryz.func5.symm.trans hfn)).symm
    exact⟨zc3,λ j t ht=>by
     rw[Tryz.params5]at ht;have hm:t∈[30,36,36]:=by simpa using bGD ht
     exact(show aA.wantsStandIn t=false by simpa using aW.1 zc6 t hm)⟩)
  zc4
#print axioms deltaApplies_card
end Go.Proofs.YteimiejbhhgljaaGreatDoor
end
