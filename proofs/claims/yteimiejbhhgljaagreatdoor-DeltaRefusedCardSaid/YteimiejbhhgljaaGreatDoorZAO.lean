/-
  The law DeltaRefused (a delta in which something is left out, twice, changed or moved leads nowhere, or to another state whose delta it is) returns true for every configuration, script, cut and way.
-/
import Derived.Test.YteimiejbhhgljaaGreatDoorZAN
import Derived.Test.YteimiejbhhgljaaGreatDoorTie
import Derived.Test.YteimiejbhhgljaaGreatDoorCards
import Derived.SevenTiedAt
set_option linter.unusedVariables false
set_option linter.defProp false
set_option linter.unusedSimpArgs false
set_option maxHeartbeats 0
set_option maxRecDepth 100000
open Array renaming mem_of_getElem?->bQU
open Bool renaming false->aF,true->aB
open List renaming all_eq_true->aY,getD->oZ,getD_eq_getElem?_getD->aU,getElem_mem->zY,map->tB,map_append->aQ,map_cons->bN,map_map->kT,map_nil->bV,range->aR
open Nat renaming add_assoc->gM,add_sub_cancel->a7O,add_sub_cancel_left->kJ,mul_one->JK,sub_self->TT
open Option renaming some->aA
open Go.Proofs.Tryz renaming f7->lI,prog->aG
section
namespace Go.Proofs.YteimiejbhhgljaaGreatDoor
open Go
def zc1:Rows.deltaRefusedRow.wfByText (OpenSpec.ofChange Rows.deltaRefusedSpec)=aB:=by kernel_rfl
def zc2:aG.mainIs=aA (aB,"44a6086ac5184b85db2a6f52b8bbd8b1cc23ece8b5e7dc8b99e0be5dde0733a2".toList):=by kernel_rfl
def zc3:aB=aG.looks []:=by kernel_rfl
def zc4:aF=Rows.deltaRefusedRow.goesBy aG:=by kernel_rfl
def zc5:aG.funcNamed "quantum/quantumlaw35.DeltaRefused"=aA 7:=by kernel_rfl
def zc6:([55,56,5,5].all λ u=> !aG.wantsStandIn u)=aB:=by kernel_rfl
theorem deltaRefused_card:Rows.DeltaRefusedCardSaid:=
 Claim7.holds_tied_plain_at .later [] [.data,.data,.data,.data,.sentinel,.sentinel,.pinned] aB (aB,"44a6086ac5184b85db2a6f52b8bbd8b1cc23ece8b5e7dc8b99e0be5dde0733a2") aB
  T.deltaRefused_holds (λ _ h=>by cases h) zc1 (λ _ h=>by cases h) deltaRefused_row_tie rfl ⟨rfl,rfl⟩ zc2 rfl
  (λ f fn hf hfn=>by
    obtain rfl:f=7:=aA.inj (zc5.symm.trans hf)|>.symm;obtain rfl:fn=lI:=(aA.inj (Tryz.func7.symm.trans hfn)).symm
    exact⟨zc3,λ j t ht=>by
     rw[Tryz.params7]at ht;have hm:t∈[55,56,5,5]:=by simpa using bQU ht
     exact(show aG.wantsStandIn t=aF by simpa using aY.1 zc6 t hm)⟩)
  zc4
#print axioms deltaRefused_card
end Go.Proofs.YteimiejbhhgljaaGreatDoor
end
