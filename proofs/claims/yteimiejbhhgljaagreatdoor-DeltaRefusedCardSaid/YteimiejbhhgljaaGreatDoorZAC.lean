import Derived.Test.YteimiejbhhgljaaGreatDoorZAB
import Derived.Lib.AppendZerosOnto
import Derived.Lib.Overlaps
import Derived.KernelRfl
import Derived.Test.YteimiejbhhgljaaGreatDoorProg
set_option linter.unusedVariables false
set_option linter.defProp false
set_option linter.unusedSimpArgs false
set_option maxHeartbeats 0
set_option maxRecDepth 100000
open Go.AM.AVal renaming lit->aD
open Array renaming append_assoc->BR,eq_empty_of_size_eq_zero->kH,getD_eq_getD_getElem?->aM,getElem?_append_left->fH,getElem?_append_right->xM,getElem?_eq_getElem->aW,getElem?_eq_some_iff->dK,getElem?_toList->bH,length_toList->qR,size_append->qQ
open Bool renaming and_eq_true->aO,and_false->MN,and_true->iE,false->aF,false_and->MM,false_eq_true->bP,not_eq_false'->jZ,not_eq_true'->dV,or_eq_false_iff->gA,or_eq_true->gQ,true->aB,true_or->BO
open Go.IntKind renaming i64->aH,u32->aT,u64->aI,u8->bM
open List renaming all_cons->gI,all_eq_true->aY,any_eq_true->aOB,append_assoc->dA,append_nil->cX,contains_iff_mem->bQS,getD->oZ,getD_eq_getElem?_getD->aU,getElem?_append->dQ,getElem?_cons_succ->fY,getElem?_cons_zero->lY,getElem?_drop->fJ,getElem?_eq_getElem->aN,getElem?_eq_some_iff->aL,getElem?_map->aV,getElem?_of_mem->pF,getElem?_set->dS,getElem?_take->fA,getElem?_toArray->cH,getElem_mem->zY,getElem_replicate->bEG,length_append->bT,length_cons->iI,length_drop->aOA,length_replicate->gP,length_set->jF,length_take->uB,map->tB,map_append->aQ,map_cons->bN,map_map->kT,map_nil->bV,map_toArray->uA,mem_cons->fO,mem_cons_of_mem->dZ,mem_map->dM,mem_of_getElem?->gL,mem_singleton->tA,not_mem_nil->pM,range->aR,replicate->bI,size_toArray->fE
open Nat renaming add_assoc->gM,add_mul->cW,add_sub_cancel->a7O,add_sub_cancel_left->kJ,add_zero->kG,div_add_mod->FJ,le_refl->aJ,le_succ->mG,le_trans->pL,lt_irrefl->oX,lt_of_lt_of_le->oW,lt_succ_self->cY,mul_comm->jN,mul_le_mul_right->bZ,mul_one->JK,sub_self->TT,zero_add->eQ,zero_le->bF,zero_mul->rT
open Option renaming map_eq_none_iff->dL,map_eq_some_iff->aK,map_none->lJ,map_some->bO,none->aC,some->aA
open Go.Result renaming andThen_ok->bJ
open Go.Sem renaming run_bind->bS,run_pure->dO
open Go.Proofs.Tryz renaming f21->a7K,prog->aG
open Go.Value renaming bool->bC,int->aE,slice->aP
section
namespace Go.AM
variable{X:Type}{ops:Array Oper}{x:Code}{L:List (List Nat×List Nat)}{tr:List Foot}{keep:List Nat}{l:List Oper}{cs os:List Orc}{id:Nat}{g:Nat->Nat}{A B G P0 P1 P10 P11 P12 P2 P3 P4 P5 P6 P7 P8 P9 Q p0 p1 p2 p3 p4 p5 p6:Prop}
structure Hd (G:Prop):Prop where
 o:G
structure Mk:Prop where
 o:True
structure Kp (l:List Nat) (g:Nat->Nat):Prop where
 o:True
structure Os (l:List Orc):Prop where
def HR(a1:Hd P1)(a2:Hd P2)(a3:Hd P3)(a4:Hd P4)(a5:Hd P5)(a6:Hd P6)(a7:Hd P7)(a8:Hd P8)(a9:Hd P9)(a10:Hd P10)(a11:Hd P11)(a12:Hd P12)(h:Hd P1->Hd P2->Hd P3->Hd P4->Hd P5->Hd P6->Hd P7->Hd P8->Hd P9->Hd P10->Hd P11->Hd P12->G:=by intro a1 a2 a3 a4 a5 a6 a7 a8 a9 a10 a11 a12;first|((fail_if_success(fail_if_success(have zz:Hd Mk:=a1)));exact Hd.o a1)|((fail_if_success(fail_if_success(have zz:Hd Mk:=a2)));exact Hd.o a2)|((fail_if_success(fail_if_success(have zz:Hd Mk:=a3)));exact Hd.o a3)|((fail_if_success(fail_if_success(have zz:Hd Mk:=a4)));exact Hd.o a4)|((fail_if_success(fail_if_success(have zz:Hd Mk:=a5)));exact Hd.o a5)|((fail_if_success(fail_if_success(have zz:Hd Mk:=a6)));exact Hd.o a6)|((fail_if_success(fail_if_success(have zz:Hd Mk:=a7)));exact Hd.o a7)|((fail_if_success(fail_if_success(have zz:Hd Mk:=a8)));exact Hd.o a8)|((fail_if_success(fail_if_success(have zz:Hd Mk:=a9)));exact Hd.o a9)|((fail_if_success(fail_if_success(have zz:Hd Mk:=a10)));exact Hd.o a10)|((fail_if_success(fail_if_success(have zz:Hd Mk:=a11)));exact Hd.o a11)|((fail_if_success(fail_if_success(have zz:Hd Mk:=a12)));exact Hd.o a12)):G:=h a1 a2 a3 a4 a5 a6 a7 a8 a9 a10 a11 a12
def HQ(a1:Hd P1)(a2:Hd P2)(a3:Hd P3)(a4:Hd P4)(a5:Hd P5)(a6:Hd P6)(a7:Hd P7)(a8:Hd P8)(a9:Hd P9)(a10:Hd P10)(a11:Hd P11)(a12:Hd P12)(h:Hd P1->Hd P2->Hd P3->Hd P4->Hd P5->Hd P6->Hd P7->Hd P8->Hd P9->Hd P10->Hd P11->Hd P12->True:=by intro a1 a2 a3 a4 a5 a6 a7 a8 a9 a10 a11 a12;(try have zz:Hd True:=a1);(try have zz:Hd True:=a2);(try have zz:Hd True:=a3);(try have zz:Hd True:=a4);(try have zz:Hd True:=a5);(try have zz:Hd True:=a6);(try have zz:Hd True:=a7);(try have zz:Hd True:=a8);(try have zz:Hd True:=a9);(try have zz:Hd True:=a10);(try have zz:Hd True:=a11);(try have zz:Hd True:=a12);exact trivial):True:=h a1 a2 a3 a4 a5 a6 a7 a8 a9 a10 a11 a12
def zM(h:G):Hd G:=⟨h⟩
def zN(h:G):Hd (Hd G):=⟨⟨h⟩⟩
def zs(h:G):Hd (Hd (Hd G)):=⟨⟨⟨h⟩⟩⟩
def zA{a b:Prop}(h:a)(k:b):a/\b:=⟨h,k⟩
def uT(h0:p0)(h1:p1)(h2:p2):p0/\p1/\p2:=⟨h0,h1,h2⟩
def pJ(h0:p0)(h1:p1)(h2:p2)(h3:p3):p0/\p1/\p2/\p3:=⟨h0,h1,h2,h3⟩
def GX(h0:p0)(h1:p1)(h2:p2)(h3:p3)(h4:p4):p0/\p1/\p2/\p3/\p4:=⟨h0,h1,h2,h3,h4⟩
def rY(h0:p0)(h1:p1)(h2:p2)(h3:p3)(h4:p4)(h5:p5):p0/\p1/\p2/\p3/\p4/\p5:=⟨h0,h1,h2,h3,h4,h5⟩
def yI(h0:p0)(h1:p1)(h2:p2)(h3:p3)(h4:p4)(h5:p5)(h6:p6):p0/\p1/\p2/\p3/\p4/\p5/\p6:=⟨h0,h1,h2,h3,h4,h5,h6⟩
def xG{p7:Prop}(h0:p0)(h1:p1)(h2:p2)(h3:p3)(h4:p4)(h5:p5)(h6:p6)(h7:p7):p0/\p1/\p2/\p3/\p4/\p5/\p6/\p7:=⟨h0,h1,h2,h3,h4,h5,h6,h7⟩
def fB{p7 p8:Prop}(h0:p0)(h1:p1)(h2:p2)(h3:p3)(h4:p4)(h5:p5)(h6:p6)(h7:p7)(h8:p8):p0/\p1/\p2/\p3/\p4/\p5/\p6/\p7/\p8:=⟨h0,h1,h2,h3,h4,h5,h6,h7,h8⟩
def iV:Hd True:=⟨trivial⟩
def uU:(aB&&aB)=aB:=rfl
abbrev zt1:=Hd True
abbrev zt2:=Hd True/\zt1
abbrev zt3:=Hd True/\zt2
abbrev zt4:=Hd True/\zt3
abbrev zt5:=Hd True/\zt4
abbrev zt6:=Hd True/\zt5
abbrev zt7:=Hd True/\zt6
abbrev zt8:=Hd True/\zt7
abbrev zt9:=Hd True/\zt8
abbrev aSN:=Hd True/\zt9
abbrev aSM:=Hd True/\aSN
abbrev bEI:=Hd True/\aSM
def zf1:zt1:=iV
def zf2:zt2:=⟨iV,zf1⟩
def zf3:zt3:=⟨iV,zf2⟩
def zf4:zt4:=⟨iV,zf3⟩
def zf5:zt5:=⟨iV,zf4⟩
def zf6:zt6:=⟨iV,zf5⟩
def zf7:zt7:=⟨iV,zf6⟩
def zf8:zt8:=⟨iV,zf7⟩
def zf9:zt9:=⟨iV,zf8⟩
def bEM:aSN:=⟨iV,zf9⟩
def bEL:aSM:=⟨iV,bEM⟩
def bKP:bEI:=⟨iV,bEL⟩
def zq0:bEI:=bKP
def kB(a0:Hd P0):Hd P0/\aSM:=⟨a0,bEL⟩
def WS(a0:Hd P0)(a1:Hd P1):Hd P0/\Hd P1/\aSN:=⟨a0,a1,bEM⟩
def kS(a0:Hd P0)(a1:Hd P1)(a2:Hd P2):Hd P0/\Hd P1/\Hd P2/\zt9:=⟨a0,a1,a2,zf9⟩
def FN(a0:Hd P0)(a1:Hd P1)(a2:Hd P2)(a3:Hd P3):Hd P0/\Hd P1/\Hd P2/\Hd P3/\zt8:=⟨a0,a1,a2,a3,zf8⟩
def zq5(a0:Hd P0)(a1:Hd P1)(a2:Hd P2)(a3:Hd P3)(a4:Hd P4):Hd P0/\Hd P1/\Hd P2/\Hd P3/\Hd P4/\zt7:=⟨a0,a1,a2,a3,a4,zf7⟩
def zq6(a0:Hd P0)(a1:Hd P1)(a2:Hd P2)(a3:Hd P3)(a4:Hd P4)(a5:Hd P5):Hd P0/\Hd P1/\Hd P2/\Hd P3/\Hd P4/\Hd P5/\zt6:=⟨a0,a1,a2,a3,a4,a5,zf6⟩
def zq7(a0:Hd P0)(a1:Hd P1)(a2:Hd P2)(a3:Hd P3)(a4:Hd P4)(a5:Hd P5)(a6:Hd P6):Hd P0/\Hd P1/\Hd P2/\Hd P3/\Hd P4/\Hd P5/\Hd P6/\zt5:=⟨a0,a1,a2,a3,a4,a5,a6,zf5⟩
def zq8(a0:Hd P0)(a1:Hd P1)(a2:Hd P2)(a3:Hd P3)(a4:Hd P4)(a5:Hd P5)(a6:Hd P6)(a7:Hd P7):Hd P0/\Hd P1/\Hd P2/\Hd P3/\Hd P4/\Hd P5/\Hd P6/\Hd P7/\zt4:=⟨a0,a1,a2,a3,a4,a5,a6,a7,zf4⟩
def zq9(a0:Hd P0)(a1:Hd P1)(a2:Hd P2)(a3:Hd P3)(a4:Hd P4)(a5:Hd P5)(a6:Hd P6)(a7:Hd P7)(a8:Hd P8):Hd P0/\Hd P1/\Hd P2/\Hd P3/\Hd P4/\Hd P5/\Hd P6/\Hd P7/\Hd P8/\zt3:=⟨a0,a1,a2,a3,a4,a5,a6,a7,a8,zf3⟩
def bRV(a0:Hd P0)(a1:Hd P1)(a2:Hd P2)(a3:Hd P3)(a4:Hd P4)(a5:Hd P5)(a6:Hd P6)(a7:Hd P7)(a8:Hd P8)(a9:Hd P9):Hd P0/\Hd P1/\Hd P2/\Hd P3/\Hd P4/\Hd P5/\Hd P6/\Hd P7/\Hd P8/\Hd P9/\zt2:=⟨a0,a1,a2,a3,a4,a5,a6,a7,a8,a9,zf2⟩
def bRU(a0:Hd P0)(a1:Hd P1)(a2:Hd P2)(a3:Hd P3)(a4:Hd P4)(a5:Hd P5)(a6:Hd P6)(a7:Hd P7)(a8:Hd P8)(a9:Hd P9)(a10:Hd P10):Hd P0/\Hd P1/\Hd P2/\Hd P3/\Hd P4/\Hd P5/\Hd P6/\Hd P7/\Hd P8/\Hd P9/\Hd P10/\zt1:=⟨a0,a1,a2,a3,a4,a5,a6,a7,a8,a9,a10,zf1⟩
def bEJ(a0:Hd P0)(a1:Hd P1)(a2:Hd P2)(a3:Hd P3)(a4:Hd P4)(a5:Hd P5)(a6:Hd P6)(a7:Hd P7)(a8:Hd P8)(a9:Hd P9)(a10:Hd P10)(a11:Hd P11):Hd P0/\Hd P1/\Hd P2/\Hd P3/\Hd P4/\Hd P5/\Hd P6/\Hd P7/\Hd P8/\Hd P9/\Hd P10/\Hd P11:=⟨a0,a1,a2,a3,a4,a5,a6,a7,a8,a9,a10,a11⟩
def zqa(h:G):Hd (Hd (Hd G))/\aSM:=kB (zs h)
def zqb{X:Sort _}{G:X->Prop}(h:∀t,G t):Hd (∀t,Hd (Hd (G t)))/\aSM:=kB ⟨λ t=>zN (h t)⟩
def iA{F:Prop}(h:G)(f:F):Hd (Hd (Hd G))/\Hd (Hd (Hd F))/\aSN:=WS (zs h) (zs f)
def pN{X Y:Sort _}{G:X->Prop}{F:Y->Prop}(h:∀t,G t)(f:∀t,F t):Hd (∀t,Hd (Hd (G t)))/\Hd (∀t,Hd (Hd (F t)))/\aSN:=WS ⟨λ t=>zN (h t)⟩ ⟨λ t=>zN (f t)⟩
def gZ{Y0:Sort _}{G:Y0->Prop}(h:∀y0,G y0):Hd (Hd (∀y0,Hd (G y0))):=⟨⟨λ y0=>⟨h y0⟩⟩⟩
def yB{Y0 Y1:Sort _}{G:Y0->Y1->Prop}(h:∀y0 y1,G y0 y1):Hd (Hd (∀y0 y1,Hd (G y0 y1))):=⟨⟨λ y0 y1=>⟨h y0 y1⟩⟩⟩
def MO{Y0 Y1 Y2:Sort _}{G:Y0->Y1->Y2->Prop}(h:∀y0 y1 y2,G y0 y1 y2):Hd (Hd (∀y0 y1 y2,Hd (G y0 y1 y2))):=⟨⟨λ y0 y1 y2=>⟨h y0 y1 y2⟩⟩⟩
def aOE{Y0 Y1 Y2 Y3:Sort _}{G:Y0->Y1->Y2->Y3->Prop}(h:∀y0 y1 y2 y3,G y0 y1 y2 y3):Hd (Hd (∀y0 y1 y2 y3,Hd (G y0 y1 y2 y3))):=⟨⟨λ y0 y1 y2 y3=>⟨h y0 y1 y2 y3⟩⟩⟩
def aOD{Y0 Y1 Y2 Y3 Y4:Sort _}{G:Y0->Y1->Y2->Y3->Y4->Prop}(h:∀y0 y1 y2 y3 y4,G y0 y1 y2 y3 y4):Hd (Hd (∀y0 y1 y2 y3 y4,Hd (G y0 y1 y2 y3 y4))):=⟨⟨λ y0 y1 y2 y3 y4=>⟨h y0 y1 y2 y3 y4⟩⟩⟩
def rX{X0:Sort _}{G:X0->Prop}(h:∀x0,G x0):Hd (∀x0,Hd (Hd (G x0))):=⟨λ x0=>⟨⟨h x0⟩⟩⟩
def HA{X0 Y0:Sort _}{G:X0->Y0->Prop}(h:∀x0 y0,G x0 y0):Hd (∀x0,Hd (∀y0,Hd (G x0 y0))):=⟨λ x0=>⟨λ y0=>⟨h x0 y0⟩⟩⟩
def bKO{X0 Y0 Y1:Sort _}{G:X0->Y0->Y1->Prop}(h:∀x0 y0 y1,G x0 y0 y1):Hd (∀x0,Hd (∀y0 y1,Hd (G x0 y0 y1))):=⟨λ x0=>⟨λ y0 y1=>⟨h x0 y0 y1⟩⟩⟩
def a9H{X0 Y0 Y1 Y2:Sort _}{G:X0->Y0->Y1->Y2->Prop}(h:∀x0 y0 y1 y2,G x0 y0 y1 y2):Hd (∀x0,Hd (∀y0 y1 y2,Hd (G x0 y0 y1 y2))):=⟨λ x0=>⟨λ y0 y1 y2=>⟨h x0 y0 y1 y2⟩⟩⟩
def bRY{X0 Y0 Y1 Y2 Y3:Sort _}{G:X0->Y0->Y1->Y2->Y3->Prop}(h:∀x0 y0 y1 y2 y3,G x0 y0 y1 y2 y3):Hd (∀x0,Hd (∀y0 y1 y2 y3,Hd (G x0 y0 y1 y2 y3))):=⟨λ x0=>⟨λ y0 y1 y2 y3=>⟨h x0 y0 y1 y2 y3⟩⟩⟩
def bRX{X0 Y0 Y1 Y2 Y3 Y4:Sort _}{G:X0->Y0->Y1->Y2->Y3->Y4->Prop}(h:∀x0 y0 y1 y2 y3 y4,G x0 y0 y1 y2 y3 y4):Hd (∀x0,Hd (∀y0 y1 y2 y3 y4,Hd (G x0 y0 y1 y2 y3 y4))):=⟨λ x0=>⟨λ y0 y1 y2 y3 y4=>⟨h x0 y0 y1 y2 y3 y4⟩⟩⟩
def gB{X0 X1:Sort _}{G:X0->X1->Prop}(h:∀x0 x1,G x0 x1):Hd (∀x0 x1,Hd (Hd (G x0 x1))):=⟨λ x0 x1=>⟨⟨h x0 x1⟩⟩⟩
def qS{X0 X1 Y0:Sort _}{G:X0->X1->Y0->Prop}(h:∀x0 x1 y0,G x0 x1 y0):Hd (∀x0 x1,Hd (∀y0,Hd (G x0 x1 y0))):=⟨λ x0 x1=>⟨λ y0=>⟨h x0 x1 y0⟩⟩⟩
def aOC{X0 X1 Y0 Y1:Sort _}{G:X0->X1->Y0->Y1->Prop}(h:∀x0 x1 y0 y1,G x0 x1 y0 y1):Hd (∀x0 x1,Hd (∀y0 y1,Hd (G x0 x1 y0 y1))):=⟨λ x0 x1=>⟨λ y0 y1=>⟨h x0 x1 y0 y1⟩⟩⟩
def bRW{X0 X1 Y0 Y1 Y2 Y3 Y4:Sort _}{G:X0->X1->Y0->Y1->Y2->Y3->Y4->Prop}(h:∀x0 x1 y0 y1 y2 y3 y4,G x0 x1 y0 y1 y2 y3 y4):Hd (∀x0 x1,Hd (∀y0 y1 y2 y3 y4,Hd (G x0 x1 y0 y1 y2 y3 y4))):=⟨λ x0 x1=>⟨λ y0 y1 y2 y3 y4=>⟨h x0 x1 y0 y1 y2 y3 y4⟩⟩⟩
def aAO{X0 X1 X2:Sort _}{G:X0->X1->X2->Prop}(h:∀x0 x1 x2,G x0 x1 x2):Hd (∀x0 x1 x2,Hd (Hd (G x0 x1 x2))):=⟨λ x0 x1 x2=>⟨⟨h x0 x1 x2⟩⟩⟩
def bKN{X0 X1 X2 Y0:Sort _}{G:X0->X1->X2->Y0->Prop}(h:∀x0 x1 x2 y0,G x0 x1 x2 y0):Hd (∀x0 x1 x2,Hd (∀y0,Hd (G x0 x1 x2 y0))):=⟨λ x0 x1 x2=>⟨λ y0=>⟨h x0 x1 x2 y0⟩⟩⟩
def aFG{X0 X1 X2 X3:Sort _}{G:X0->X1->X2->X3->Prop}(h:∀x0 x1 x2 x3,G x0 x1 x2 x3):Hd (∀x0 x1 x2 x3,Hd (Hd (G x0 x1 x2 x3))):=⟨λ x0 x1 x2 x3=>⟨⟨h x0 x1 x2 x3⟩⟩⟩
def bEK{X0 X1 X2 X3 Y0:Sort _}{G:X0->X1->X2->X3->Y0->Prop}(h:∀x0 x1 x2 x3 y0,G x0 x1 x2 x3 y0):Hd (∀x0 x1 x2 x3,Hd (∀y0,Hd (G x0 x1 x2 x3 y0))):=⟨λ x0 x1 x2 x3=>⟨λ y0=>⟨h x0 x1 x2 x3 y0⟩⟩⟩
def two(x:Q)(_:True):Q:=x
def oR{l:List Nat}{g:Nat->Nat}:Kp l g:=⟨trivial⟩
def kN(k:Nat)(L:List Nat):Kp L (λ i=>i-k):=oR
def kpb(k h:Nat)(L:List Nat):Kp L (λ i=>if h<=i then i-h+10 else i-k):=oR
section
variable{P:Program}{Γ:dW}{nt kb:Nat}{Q:AQ}{k:Nat}{fr:Fr}{H:aS}{c:Code}{p:List Nat}{keep:List Nat}{g:Nat->Nat}
def ZZ(_:Kp keep g)(hc:gV c p= .region id l.toArray aF)(hn:(l.all λ o=> !wF o&& !aKR o)=aB)(hd:nL nt l.toArray=aB)
 (h:∀K:List Foot->Nat->Fr->aS->Prop,(∀tr k' fr' H',(kb<=k'->Q .normal k' (lM keep fr') H')->K tr k' fr' H')->GU P Γ l.toArray l [] k fr H K .mk):W P Γ nt kb (gV c p) Q k fr H:=qM hc keep hn hd h
def aAA(_:Kp keep g)(hc:gV c p= .region id l.toArray aB)(hn:(l.all λ o=> !wF o&& !aKR o)=aB)(hm:P.follows .mixedOrders=aB)(hd:nL nt l.toArray=aB)
 (h:∀K:List Foot->Nat->Fr->aS->Prop,(∀tr k' fr' H',lE l.toArray tr=aB->(kb<=k'->Q .normal k' (lM keep fr') H')->K tr k' fr' H')->GU P Γ l.toArray l [] k fr H K .mk):W P Γ nt kb (gV c p) Q k fr H:=bDL hc keep hn hm hd h
def aJS(_:Kp keep g)(_:Os cs)(hc:gV c p= .region id l.toArray aF)(hd:nL nt l.toArray=aB)
 (h:∀K:List Foot->Nat->Fr->aS->Prop,(∀tr k' fr' H',(kb<=k'->Q .normal k' (lM keep fr') H')->K tr k' fr' H')->GU P Γ l.toArray l cs k fr H K .mk):W P Γ nt kb (gV c p) Q k fr H:=MK hc keep cs hd h
def aJT(_:Kp keep g)(_:Os cs)(hc:gV c p= .region id l.toArray aB)(hm:P.follows .mixedOrders=aB)(hd:nL nt l.toArray=aB)
 (h:∀K:List Foot->Nat->Fr->aS->Prop,(∀tr k' fr' H',lE l.toArray tr=aB->(kb<=k'->Q .normal k' (lM keep fr') H')->K tr k' fr' H')->GU P Γ l.toArray l cs k fr H K .mk):W P Γ nt kb (gV c p) Q k fr H:=aNY hc keep cs hm hd h
def bJZ(_:Kp keep g)(hc:gV c p= .loop x)(kx:Nat)(u:X->Fr)(Hx:X->aS)(inv:X->Prop)(μ:X->Nat)(x0:X)(hs:Mv kb k fr H kx (EN keep (u x0) fr) (Hx x0))(h0:inv x0)
 (round:∀x,inv x->W P Γ nt kb (gV c (0::p)) (mW (λ k' fr' H'=>∃y,inv y/\μ y<μ x/\Mv kb k' fr' H' kx (EN keep (u y) fr) (Hx y)) Q) kx (EN keep (u x) fr) (Hx x)):W P Γ nt kb (gV c p) Q k fr H:=cD hc keep kx u Hx inv μ x0 hs h0 round
def bJY(_:Kp keep g){y:Code}(hc:gV c p= .seq x y)(kx:Nat)(u:X->Fr)(Hx:X->aS)(inv:X->Prop)
 (h1:W P Γ nt kb (gV c (0::p)) (mW (λ k' fr' H'=>∃z,inv z/\Mv kb k' fr' H' kx (EN keep (u z) fr) (Hx z)) Q) k fr H) (h2:∀z,inv z->W P Γ nt kb (gV c (1::p)) Q kx (EN keep (u z) fr) (Hx z)):W P Γ nt kb (gV c p) Q k fr H:=EB hc keep kx u Hx inv h1 h2
def bKA(_:Kp keep g)(kx:Nat)(u:Fr)(Hx:aS)(h1:W P Γ nt kb c (λ e k' fr' H'=>e= .normal/\Mv kb k' fr' H' kx (EN keep u fr) Hx) k fr H)(h2:Q .normal kx (EN keep u fr) Hx):W P Γ nt kb c Q k fr H:=lO keep kx u Hx h1 h2
end
def aYD(_:Kp keep g)(hL:tr.map (shG g)=L)(h:FT ops L=aB)(hm:(tr.all λ f=>f.mods.all λ x=>decide (x<f.k'))=aB):lE ops tr=aB:=IR g hL h hm
def wl(p:Hd P1/\Hd P2/\Hd P3/\Hd P4/\Hd P5/\Hd P6/\Hd P7/\Hd P8/\Hd P9/\Hd P10/\Hd P11/\Hd P12)
 (h:Hd P1->Hd P2->Hd P3->Hd P4->Hd P5->Hd P6->Hd P7->Hd P8->Hd P9->Hd P10->Hd P11->Hd P12->Q:=by
 intro a1 a2 a3 a4 a5 a6 a7 a8 a9 a10 a11 a12;refine two ?_ ?_;·(repeat'(first|(refine iG rfl ?_)|(refine BN rfl ?_)|(refine BM rfl ?_;(try simp-dsimp-implicitDefEqProofs only[go_sem,uU,↓reduceIte]))|(refine GW rfl ?_;(try simp-dsimp-implicitDefEqProofs only[go_sem,uU,↓reduceIte]))|(refine uQ rfl _ rfl (λ zt=>?_) (λ zt=>?_)<;>(try(simp only[nf]at zt))<;>(try(exfalso;omega)))|((first|(refine ZZ kp rfl rfl rfl (λ zK hK=>?_))|(refine aAA kp rfl rfl kRf rfl (λ zK hK=>?_)));simp-dsimp-implicitDefEqProofs only[go_sem,uU,↓reduceIte];(repeat'(first|(refine And.intro ?_ ?_)|(refine lR (λ hb=>?_) (λ hb=>?_)<;>(have zg:=hb;(try simp only[nfb]at zg);simp-dsimp-implicitDefEqProofs only[go_sem,uU,hb,zg,↓reduceIte];clear hb;(try simp only[nfe]at zg)))));any_goals ((first|refine hK _ _ _ _ (λ hx=>?_)|refine hK _ _ _ _ (aYD kp (by simp only[bN,bV,shG,uU,↓reduceIte,kJ,TT];rfl) (by decide+kernel) (sV @uU)) (λ hx=>?_)|refine hK _ _ _ _ (KV kRf (sV @uU)) (λ hx=>?_));clear hx hK;simp-dsimp-implicitDefEqProofs only[go_sem,uU,↓reduceIte];(try simp(disch:=omega)only[wrap_i64,wrap_u64,wrap_u32,oS])))|omega));all_goals(refine Hd.o ?_;(repeat revert zg);refine Hd.o ?_;(repeat revert zt);exact HR a1 a2 a3 a4 a5 a6 a7 a8 a9 a10 a11 a12)
 exact HQ a1 a2 a3 a4 a5 a6 a7 a8 a9 a10 a11 a12):Q:=h p.1 p.2.1 p.2.2.1 p.2.2.2.1 p.2.2.2.2.1 p.2.2.2.2.2.1 p.2.2.2.2.2.2.1 p.2.2.2.2.2.2.2.1 p.2.2.2.2.2.2.2.2.1 p.2.2.2.2.2.2.2.2.2.1 p.2.2.2.2.2.2.2.2.2.2.1 p.2.2.2.2.2.2.2.2.2.2.2
def clK(ox:Os os)(p:Hd P1/\Hd P2/\Hd P3/\Hd P4/\Hd P5/\Hd P6/\Hd P7/\Hd P8/\Hd P9/\Hd P10/\Hd P11/\Hd P12)
 (h:Os os->Hd P1->Hd P2->Hd P3->Hd P4->Hd P5->Hd P6->Hd P7->Hd P8->Hd P9->Hd P10->Hd P11->Hd P12->Q:=by
 intro oo a1 a2 a3 a4 a5 a6 a7 a8 a9 a10 a11 a12;refine two ?_ ?_;·(refine aJS kp oo rfl rfl (λ zK hK=>?_));simp-dsimp-implicitDefEqProofs only[go_sem,uU,↓reduceIte];(repeat'(first|(refine And.intro ?_ ?_)|(refine lR (λ hb=>?_) (λ hb=>?_)<;>(have zg:=hb;(try simp only[nfb]at zg);simp-dsimp-implicitDefEqProofs only[go_sem,uU,hb,zg,↓reduceIte];clear hb;(try simp only[nfe]at zg)))));(any_goals ((refine hK _ _ _ _ (λ hx=>?_));clear hx hK;simp-dsimp-implicitDefEqProofs only[go_sem,uU,↓reduceIte];(try simp(disch:=omega)only[wrap_i64,wrap_u64,wrap_u32,oS])));(all_goals(try omega));all_goals(refine Hd.o ?_;(repeat revert zg);refine Hd.o ?_;(repeat revert zt);exact HR a1 a2 a3 a4 a5 a6 a7 a8 a9 a10 a11 a12)
 exact HQ a1 a2 a3 a4 a5 a6 a7 a8 a9 a10 a11 a12):Q:=h ox p.1 p.2.1 p.2.2.1 p.2.2.2.1 p.2.2.2.2.1 p.2.2.2.2.2.1 p.2.2.2.2.2.2.1 p.2.2.2.2.2.2.2.1 p.2.2.2.2.2.2.2.2.1 p.2.2.2.2.2.2.2.2.2.1 p.2.2.2.2.2.2.2.2.2.2.1 p.2.2.2.2.2.2.2.2.2.2.2
def dlK(ox:Os os)(p:Hd P1/\Hd P2/\Hd P3/\Hd P4/\Hd P5/\Hd P6/\Hd P7/\Hd P8/\Hd P9/\Hd P10/\Hd P11/\Hd P12)
 (h:Os os->Hd P1->Hd P2->Hd P3->Hd P4->Hd P5->Hd P6->Hd P7->Hd P8->Hd P9->Hd P10->Hd P11->Hd P12->Q:=by
 intro oo a1 a2 a3 a4 a5 a6 a7 a8 a9 a10 a11 a12;refine two ?_ ?_;·(refine aJT kp oo rfl kRf rfl (λ zK hK=>?_));simp-dsimp-implicitDefEqProofs only[go_sem,uU,↓reduceIte];(repeat'(first|(refine And.intro ?_ ?_)|(refine lR (λ hb=>?_) (λ hb=>?_)<;>(have zg:=hb;(try simp only[nfb]at zg);simp-dsimp-implicitDefEqProofs only[go_sem,uU,hb,zg,↓reduceIte];clear hb;(try simp only[nfe]at zg)))));(any_goals ((first|refine hK _ _ _ _ (aYD kp (by simp only[bN,bV,shG,uU,↓reduceIte,kJ,TT];rfl) (by decide+kernel) (sV @uU)) (λ hx=>?_)|refine hK _ _ _ _ (KV kRf (sV @uU)) (λ hx=>?_));clear hx hK;simp-dsimp-implicitDefEqProofs only[go_sem,uU,↓reduceIte];(try simp(disch:=omega)only[wrap_i64,wrap_u64,wrap_u32,oS])));(all_goals(try omega));all_goals(refine Hd.o ?_;(repeat revert zg);refine Hd.o ?_;(repeat revert zt);exact HR a1 a2 a3 a4 a5 a6 a7 a8 a9 a10 a11 a12)
 exact HQ a1 a2 a3 a4 a5 a6 a7 a8 a9 a10 a11 a12):Q:=h ox p.1 p.2.1 p.2.2.1 p.2.2.2.1 p.2.2.2.2.1 p.2.2.2.2.2.1 p.2.2.2.2.2.2.1 p.2.2.2.2.2.2.2.1 p.2.2.2.2.2.2.2.2.1 p.2.2.2.2.2.2.2.2.2.1 p.2.2.2.2.2.2.2.2.2.2.1 p.2.2.2.2.2.2.2.2.2.2.2
def jI(b:B)(h:Hd B->Q:=by intro b1;refine wl ?_;exact zqa (Hd.o b1)):Q:=h ⟨b⟩
def sP{X:Sort _}{G:X->Prop}(b:∀t,G t)(h:Hd (∀t,G t)->Q:=by intro b1;refine wl ?_;exact zqb (Hd.o b1)):Q:=h ⟨b⟩
def cl(os:List Orc)(b:B)(h:Os os->Hd B->Q:=by intro oo b1;refine clK oo ?_;exact Hd.o b1):Q:=h ⟨⟩ ⟨b⟩
def clA(os:List Orc)(b:B)(h:Os os->Hd B->Q:=by intro oo b1;refine clK oo ?_;exact zqa (Hd.o b1)):Q:=h ⟨⟩ ⟨b⟩
def dl(os:List Orc)(b:B)(h:Os os->Hd B->Q:=by intro oo b1;refine dlK oo ?_;exact Hd.o b1):Q:=h ⟨⟩ ⟨b⟩
def dlA(os:List Orc)(b:B)(h:Os os->Hd B->Q:=by intro oo b1;refine dlK oo ?_;exact zqa (Hd.o b1)):Q:=h ⟨⟩ ⟨b⟩
def cR(b:B)(h:B->A:=by intro b1;refine cB rfl ?_;simp-dsimp-implicitDefEqProofs only[go_sem,uU,↓reduceIte];refine⟨_,rfl,?_⟩;exact b1):A:=h b
def rR(b:Hd B)(h:Hd B->A:=by
 intro b1;refine two ?_ ?_;·(simp-dsimp-implicitDefEqProofs only[go_sem,uU,↓reduceIte])<;>exact Hd.o (Hd.o b1)
 (try have zz:Hd True:=b1);exact trivial):A:=h b
def gG(b:B)(h:Hd B->A:=by intro b1;refine rR ?_;exact⟨b1⟩):A:=h ⟨b⟩
end Go.AM
end
section
namespace Go.AM
open Go
variable{α:Type}{v:AVal}{ops:Array Oper}{ty:Array TypeId}{C z:Array Value}{B:Blk}{p:Bool}{h l:Int}{L:List (List Nat×List Nat)}{args zrow:List AVal}{tr:List Foot}{a b by' c id k kk m n q r s t:Nat}{gv:Nat->Nat->Value}{G:Nat->Prop}{x y:Operand}{hi lo:Option Operand}{cv:Value}{w:World}{RH:aS}{A A':cF}{ρ:dH}{H:mP}
def deS:AVal->AVal
 | .slc id r m _=> .sl id r m
 |v=>v
def IV(h:V w G ρ A v cv):V w G ρ A (deS v) cv:=by
 cases h with
 |dangc h1 h2=>exact .dangs h1 h2
 |slc h1 h2 h3 h4 h5 h6 h7=>exact .sl h1 h2 h3 h4 h5 h6 h7
 |junk=>exact .junk
 |lit=>exact .lit
 |dang h1 h2=>exact .dang h1 h2
 |dangs h1 h2=>exact .dangs h1 h2
 |ptr h1 h2 h3=>exact .ptr h1 h2 h3
 |dangm h1 h2=>exact .dangm h1 h2
 |mp h1 h2 h3=>exact .mp h1 h2 h3
 |dangi h1 h2=>exact .dangi h1 h2
 |it h1 h2 h3=>exact .it h1 h2 h3
 |sl h1 h2 h3 h4 h5 h6 h7=>exact .sl h1 h2 h3 h4 h5 h6 h7
 |sl0 h1 h2=>exact .sl0 h1 h2
 |rp g h1 h2 h3=>exact .rp g h1 h2 h3
 |rd0=>exact .rd0
 |rd g h1 h2 h3 h4 h5 h6=>exact .rd g h1 h2 h3 h4 h5 h6
 |agg h1 h2=>exact .agg h1 h2
 |tup h1 h2=>exact .tup h1 h2
 |fn h1 h2=>exact .fn h1 h2
 |nn=>exact .nn
 |bfn h=>exact .bfn h
def VLe.slc (id r n c:Nat):VLe (.slc id r n c) (.sl id r n):=λ _ _ _ _ _ h=>IV h
section
variable{P:Program}{Γ:dW}{nt kb:Nat}{Q:AQ}{k:Nat}{fr:Fr}{H:aS}{c:Code}
def aNT(t:Nat)(hf:look fr t=aA (.sl id r n))(hB:look H id=aA B)(h0:n=0->W P Γ nt kb c Q k ((t,.lit (.slice aC 0 0))::del fr t) H)(h:∀cap,n<=cap->cap<=9223372036854775807->W P Γ nt kb c Q k ((t,.slc id r n cap)::del fr t) H):
 W P Γ nt kb c Q k fr H:=λ A0 hA0 hk w G ρ a hi=>by
 have hv:=hi.frm t _ hf
 obtain⟨_,b,hb,_⟩:=hi.rel.blk id B (kI A0 kb k) (by simp[bK,hB])
 generalize hev:a.tmps.getD t undef=cv at hv
 cases hv with
 |dangs _ hn=>rw[hb]at hn;cases hn
 | sl0 h1 h2=>
   refine h0 rfl A0 hA0 hk w G ρ a ⟨hi.rel,hi.size,hi.defers,λ t' v hv'=>?_⟩
   simp only[look]at hv'
   split at hv'
   · rename_i he;subst he;cases hv';rw[hev];exact .lit
   · rw[iK]at hv'
     split at hv'
     · cases hv'
     · exact hi.frm t' v hv'
 | sl h1 h2 h3 h4 h5 h6 h7=>
   refine h _ h5 h6 A0 hA0 hk w G ρ a ⟨hi.rel,hi.size,hi.defers,λ t' v hv'=>?_⟩
   simp only[look]at hv'
   split at hv'
   · rename_i he;subst he;cases hv';rw[hev];exact .slc h1 h2 h3 h4 h5 h6 h7
   · rw[iK]at hv'
     split at hv'
     · cases hv'
     · exact hi.frm t' v hv'
end
def gH(rows new:List (List AVal))(r:Nat):List (List AVal):=rows.take r++new++rows.drop (r+new.length)
def LM{rows new:List (List AVal)}(hr:r<=rows.length){row:List AVal}(h:(gH rows new r)[q]? =aA row):
 (q<r/\rows[q]? =aA row)\/(r<=q/\q<r+new.length/\new[q-r]? =aA row)\/(r+new.length<=q/\rows[q]? =aA row):=by
 unfold gH at h;rw[dA,dQ]at h;have hl:(rows.take r).length=r:=by simp;omega
 rw[hl]at h;split at h;.rename_i hlt;rw[fA,iP hlt]at h;exact .inl ⟨hlt,h⟩
 rename_i hge;rw[dQ]at h;split at h;.rename_i h2;exact .inr (.inl ⟨oO,oO,h⟩)
 rename_i h2;rw[fJ]at h;have e:r+new.length+(q-r-new.length)=q:=oO;rw[e]at h;exact .inr (.inr ⟨oO,h⟩)
section
variable{P:Program}{Γ:dW}{o:Oper}{ev:Operand->Option AVal}{get:Nat->Option Blk}{k:Nat}
def JT(hr:HRel Γ w G ρ H){ty:TypeId}(hAid:A id)(hAA:∀i,A' i->A i)(hb:ρ id=aA (b,B.sz))(hC:w.heap[b]? =aA (.cells C ty (0,0)))
 (hrows:∀r row c v,B.rows[r]? =aA row->row[c]? =aA v->∃cv,C[r*B.sz+c]? =aA cv/\V w G (if B.pure then bX else ρ) (if B.pure then cQ else A') v cv) (hlen:∀(r:Nat) row,B.rows[r]? =aA row->row.length=B.sz)
 (r m:Nat) (src:List (List AVal)) (ps:Bool) (gv:Nat->Nat->Value) (hsl:src.length=m) (hsrl:∀(q:Nat) row,src[q]? =aA row->row.length=B.sz)
 (hgv:∀q row c v,src[q]? =aA row->row[c]? =aA v->V w G (if ps then bX else ρ) (if ps then cQ else A) v (gv q c)) (hr0:r<=B.rows.length) (hfit:(r+m)*B.sz<=C.size):
 HRel Γ (w.setRow b (C.toList.take (r*B.sz)++news B.sz m gv++C.toList.drop (r*B.sz+(news B.sz m gv).length)).toArray) G ρ (jT H (λ i=>A i\/(k<=i/\i<k)) [(id,aA ⟨B.sz,B.pure&&ps,gH B.rows src r⟩)])∧
   Step (λ i=>¬(k<=i/\i<k)) w G ρ (w.setRow b (C.toList.take (r*B.sz)++news B.sz m gv++C.toList.drop (r*B.sz+(news B.sz m gv).length)).toArray) G ρ:=by
 have hnl:=tK B.sz m gv;have hfit':r*B.sz+m*B.sz<=C.size:=by rw[<-cW];exact hfit
 have hseg:=EL (l:=C.toList) (vs:=news B.sz m gv) (o:=r*B.sz) (by rw[hnl];simpa using hfit');have hl2:(C.toList.take (r*B.sz)++news B.sz m gv++C.toList.drop (r*B.sz+(news B.sz m gv).length)).toArray.size=C.size:=by simp only[fE,bT,uB,aOA,qR];omega
 have hold:∀(v:AVal) (cv:Value),V w G (if B.pure then bX else ρ) (if B.pure then cQ else A') v cv->V w G (if(B.pure&&ps)then bX else ρ) (if(B.pure&&ps)then cQ else A) v cv:=λ v cv h=>by
  cases hp:B.pure with
  |true=>
   rw[hp]at h;simp only[if_true]at h
   cases ps with
   |true=>simpa using h
   |false=>simp only[MN,bP,if_false];exact h.weaken
  |false=>
   rw[hp]at h;simp only[MM,bP,if_false]at h⊢
   exact h.mono (λ _ h=>h) (λ _ _=>rfl) (λ _ _=>rfl) hAA (λ _ _=> .inr rfl)
 have hnew:∀(v:AVal) (cv:Value),V w G (if ps then bX else ρ) (if ps then cQ else A) v cv->V w G (if(B.pure&&ps)then bX else ρ) (if(B.pure&&ps)then cQ else A) v cv:=λ v cv h=>by
  cases ps with
  |true=>
   simp only[if_true]at h
   cases B.pure with
   |true=>simpa using h
   |false=>simp only[MM,bP,if_false];exact h.weaken
  |false=>simpa using h
 have hrw:=uC hr hb id (.inl rfl) ⟨B.sz,B.pure&&ps,gH B.rows src r⟩ rfl
  (C.toList.take (r*B.sz)++news B.sz m gv++C.toList.drop (r*B.sz+(news B.sz m gv).length)).toArray ty A (λ i=>A i\/(k<=i/\i<k)) (.inl rfl) (λ _ h=> .inl h) (.inl hAid)
  (w.setRow b (C.toList.take (r*B.sz)++news B.sz m gv++C.toList.drop (r*B.sz+(news B.sz m gv).length)).toArray)
  (setRow_heap w b C _ ty _ hC) (λ j hj=>setRow_other w b j _ hj) (size_setRow _ _ _)
  (by unfold World.shape?;rw[setRow_heap w b C _ ty _ hC,hC];simp only[hl2])
  rfl rfl rfl (λ q row h=>by
    rcases LM hr0 h with⟨_,h⟩|⟨_,_,h⟩|⟨_,h⟩;.exact hlen q row h
    .exact hsrl _ row h
    exact hlen q row h)
  (λ q row c v h1 h2=>by
    show ∃cv,(C.toList.take (r*B.sz)++news B.sz m gv++C.toList.drop (r*B.sz+(news B.sz m gv).length)).toArray[q*B.sz+c]? =aA cv/\V w G (if(B.pure&&ps)then bX else ρ) (if(B.pure&&ps)then cQ else A) v cv;rw[cH,hseg];rcases LM hr0 h1 with⟨hq,h⟩|⟨hq,hq',h⟩|⟨hq,h⟩
    .obtain⟨cu,h3,h4⟩:=hrows q row c v h h2;have hc:c<B.sz:=by have:=(aL.1 h2).1;have:=hlen q row h;omega
     have h6:q*B.sz+c<r*B.sz:=by have:(q+1)*B.sz<=r*B.sz:=bZ _ hq;rw[cW]at this;omega
     rw[iP h6];exact⟨cu,by rw[bH];exact h3,hold v cu h4⟩
    .have hc:c<B.sz:=by have:=(aL.1 h2).1;have:=hsrl _ row h;omega
     have h9:=pO (gv:=gv) (by omega:q-r<m) hc;have h10:=(aL.1 h9).1
     have e1:q*B.sz+c=r*B.sz+((q-r)*B.sz+c):=by
      have:q*B.sz=r*B.sz+(q-r)*B.sz:=by rw[<-cW];congr 1;omega
      omega
     rw[e1,iN oO,iP oO];have e2:r*B.sz+((q-r)*B.sz+c)-r*B.sz=(q-r)*B.sz+c:=oO;rw[e2];exact⟨_,h9,hnew v _ (hgv _ row c v h h2)⟩
    obtain⟨cu,h3,h4⟩:=hrows q row c v h h2;have h6:r*B.sz+(news B.sz m gv).length<=q*B.sz+c:=by have:(r+m)*B.sz<=q*B.sz:=bZ _ oO;rw[cW]at this;omega
    rw[iN oO,iN oO];exact⟨cu,by rw[bH];exact h3,hold v cu h4⟩)
 obtain⟨hrel,hst⟩:=hrw
 have hnm:fQ (fQ ρ id aC) id (aA (b,B.sz))=ρ:=funext λ i=>by
  simp only[fQ];split;.rename_i he;rw[he,hb]
  rfl
 rw[hnm]at hrel hst;have hup:jT H (λ i=>A i\/(k<=i/\i<k)) [(id,aA ⟨B.sz,B.pure&&ps,gH B.rows src r⟩),(id,aC)]=jT H (λ i=>A i\/(k<=i/\i<k)) [(id,aA ⟨B.sz,B.pure&&ps,gH B.rows src r⟩)]:=funext λ i=>by simp only[jT];split<;>rfl
 rw[hup]at hrel;exact⟨hrel,⟨hst.size,hst.keep,hst.shape,hst.g,hst.g',hst.own,λ i _=>hst.ids i (.inr rfl),hst.os,hst.tape,hst.output⟩⟩
end
section
variable{P:Program}{Γ:dW}{o:Oper}{ev:Operand->Option AVal}{get:Nat->Option Blk}{k:Nat}
def qT(hr:HRel Γ w G ρ H)(hH:H id=aA (B,A'))(hv:V w G ρ A (.slc id r n c) cv):
 ∃ b off C ty,cv= .slice (aA ⟨b,off,aC⟩) n c/\A id/\ρ id=aA (b,B.sz)/\w.heap[b]? =aA (.cells C ty (0,0))/\(r+c)*B.sz<=C.size/\n<=c/\c<=maxLen/\(c=0\/off=r*B.sz)∧
   (∀r row c v,B.rows[r]? =aA row->row[c]? =aA v->∃cv,C[r*B.sz+c]? =aA cv/\V w G (if B.pure then bX else ρ) (if B.pure then cQ else A') v cv)/\(∀(r:Nat) row,B.rows[r]? =aA row->row.length=B.sz):=by
 obtain⟨_,b,hb,_,hBR⟩:=hr.blk id B A' hH
 cases hv with
 |dangc _ hn=>rw[hb]at hn;cases hn
 |slc h1 h2 h3 h4 h5 h6 h7=>rw[hb]at h2;cases h2;obtain⟨⟨C,ty,hC,hrows⟩,hlen⟩:=hBR.old h3;have e:=h3;unfold World.shape? at e;rw[hC]at e;simp at e;obtain⟨rfl,rfl⟩:=e;exact⟨_,_,C,_,rfl,h1,hb,hC,h4,h5,h6,h7,hrows,hlen⟩
def aZI(ho:o.op= .call {callee:= .builtin .cap,args:= #[x],argTypes:= #[t]})(ht:gK P t=aB)(hx:ev x=aA (.slc id r n c))(hB:get id=aA B):
 Good P Γ o ev get k ⟨.lit (.int .i64 c),k,[],[id]⟩:=by
 refine⟨cL λ w G ρ H A a hr hrd hop=>?_,λ id' hid=>by simp at hid;rw[hid,hB];rfl,aJ _⟩;have hvx:=hop x pC _ hx;obtain⟨B',A',h3,hH,_⟩:=hrd id sS;rw[hB]at h3;cases h3;obtain⟨b,off,C,ty,hev,_⟩:=qT hr hH hvx;unfold gK at ht;split at ht;.rename_i e hu;refine⟨.int .i64 c,?_,.lit⟩;simp[execOp,ho,resolve,invoke,builtin,Builtin.cap_,hev,underlying,hu,goInt]
 cases ht
def SU(ht:DQ P t=aA s)(lo hi:Option Value)(base:Option Addr)(len cap:Nat)(l h:Int)(hl:lo=aC/\l=0\/∃kk,lo=aA (.int kk l))(hh:hi=aC/\h=len\/∃kk,hi=aA (.int kk h))
 (h0:0<=l) (h1:l<=h) (h2:h<=cap) (w:World):
 (Instr.sliceAt t (.slice base len cap) lo hi aC).run P w= .ok (.slice (if cap=l.toNat then base else base.map (·.add (l.toNat*s))) (h.toNat-l.toNat) (cap-l.toNat)) w:=by
 obtain⟨e,i,hu,hi',rfl⟩:=IN ht
 have hb:(Instr.sliceBounds aB len cap lo hi aC).run P w= .ok (l.toNat,h.toNat,cap) w:=by
  have q1:(0:Int)<=h/\h<=(cap:Int):=⟨oO,oO⟩;have q3:(0:Int)<=l/\l<=(h.toNat:Int):=⟨h0,oO⟩;rcases hl with⟨rfl,rfl⟩|⟨kl,rfl⟩<;>rcases hh with⟨rfl,rfl⟩|⟨kh,rfl⟩;.simp[Instr.sliceBounds]
  .simp[Instr.sliceBounds,Instr.sliceBound,asIntOf,q1]
  .have q2:(0:Int)<=l/\l<=(len:Int):=⟨h0,h1⟩;simp[Instr.sliceBounds,Instr.sliceBound,asIntOf,q2]
  simp only[Instr.sliceBounds,Instr.sliceBound,asIntOf,bS,dO,bJ,q1,and_self,if_true,q3]
 simp only[Instr.sliceAt,underlying,bS,run_program,bJ,hu,dO,Instr.slice,hb,sizeOf,typeInfo,hi']
def aKI(ho:o.op= .slice t x lo hi aC)(ht:DQ P t=aA B.sz)(hx:ev x=aA (.slc id r n c))
 (hl:bound ev lo 0=aA l) (hh:bound ev hi n=aA h) (h0:0<=l) (h1:l<=h) (h2:h<=c)      {a:Act} (hr:HRel Γ w G ρ H) (hH:H id=aA (B,A'))
 (hop:∀x,x∈o.op.operands->∀v,ev x=aA v->V w G ρ A v (a.eval x)):
 ∃cv,(execOp a.eval o).run P w= .ok (.value cv) w/\V w G ρ A (.slc id (r+l.toNat) (h.toNat-l.toNat) (c-l.toNat)) cv:=by
 have hvx:=hop x pS _ hx;have el:=oC (w:=w) (G:=G) (ρ:=ρ) (A:=A) (a:=a) hl (λ y hy v hv=>hop y (by simp[ho,Op.operands,hy]) v hv);have eh:=oC (w:=w) (G:=G) (ρ:=ρ) (A:=A) (a:=a) hh (λ y hy v hv=>hop y (by simp[ho,Op.operands,hy]) v hv);obtain⟨b,off,C,ty,hev,hA,hb,hC,hm,hn,hmx,hoff,_⟩:=qT hr hH hvx;have hrun:=SU ht (lo.map a.eval) (hi.map a.eval) (aA ⟨b,off,aC⟩) n c l h el eh h0 h1 h2 w;have hsh:w.shape? b=aA (ty,C.size):=by unfold World.shape?;rw[hC]
 have hm':(r+l.toNat+(c-l.toNat))*B.sz<=C.size:=by have:r+l.toNat+(c-l.toNat)=r+c:=oO;rw[this];exact hm
 refine⟨_,by simp only[execOp,ho,hev,lJ,bS,hrun,bJ,dO];rfl,?_⟩;by_cases hcl:c=l.toNat;.rw[iP hcl];exact .slc hA hb hsh hm' oO oO (.inl oO)
 rw[iN hcl,bO,Addr.add_mid];refine .slc hA hb hsh hm' oO oO (.inr ?_);rcases hoff with h4|h4;.omega
 rw[h4,cW]
def aTO(ho:o.op= .slice t x lo hi aC)(hB:get id=aA B)(ht:DQ P t=aA B.sz)(hx:ev x=aA (.slc id r n c))
 (hl:bound ev lo 0=aA l) (hh:bound ev hi n=aA h) (h0:0<=l) (h1:l<=h) (h2:h<=c):Good P Γ o ev get k ⟨.slc id (r+l.toNat) (h.toNat-l.toNat) (c-l.toNat),k,[],[id]⟩:=by refine⟨cL λ w G ρ H A a hr hrd hop=>?_,λ id' hid=>by simp at hid;rw[hid,hB];rfl,aJ _⟩;obtain⟨B',A',h3,hH,_⟩:=hrd id sS;rw[hB]at h3;cases h3;exact aKI ho ht hx hl hh h0 h1 h2 hr hH hop
def aTN{e:Nat}(ho:o.op= .slice t x lo hi aC)(hB:get id=aA B)(ht:DQ P t=aA B.sz)(hx:ev x=aA (.slc id r n c))
 (hl:bound ev lo 0=aA l) (hh:bound ev hi n=aA h) (h0:0<=l) (h1:l<=h) (h2:h<=c) (he:B.rows.length+e<=r+c):
 Good P Γ o ev get k ⟨.slc id (r+l.toNat) (h.toNat-l.toNat) (c-l.toNat),k,[(id,aA ⟨B.sz,B.pure,B.rows++bI e (bI B.sz .junk)⟩)],[id]⟩:=by
 refine⟨?_,λ id' hid=>by simp at hid;rw[hid,hB];rfl,aJ _⟩;intro w G ρ H A a hr hA hf hrd hop next Q hn
 obtain⟨B',A',h3,hH,hAA⟩:=hrd id sS;rw[hB]at h3;cases h3;obtain⟨cv,hrun,hV⟩:=aKI ho ht hx hl hh h0 h1 h2 hr hH hop;have hvx:=hop x pS _ hx;obtain⟨b,off,C,ty,_,hAid,hb,hC,hm,_,_,_,hrows,hlen⟩:=qT hr hH hvx;unfold Oper.wp;rw[hrun]
 have hw:∀(q:Nat) row,(B.rows++bI e (bI B.sz AVal.junk))[q]? =aA row->B.rows[q]? =aA row\/(q<r+c/\row=bI B.sz AVal.junk):=λ q row h=>by
  rw[dQ]at h;split at h;.exact .inl h
  right;obtain⟨h4,h5⟩:=aL.1 h;rw[gP]at h4;rw[bEG]at h5;exact⟨oO,h5.symm⟩
 have hrw:=uC hr hb id (.inl rfl) ⟨B.sz,B.pure,B.rows++bI e (bI B.sz .junk)⟩ rfl C ty A (λ i=>A i\/(k<=i/\i<k)) (.inl rfl) (λ _ h=> .inl h) (.inl hAid) w hC (λ _ _=>rfl) rfl rfl rfl rfl rfl
  (λ q row h=>by
    rcases hw q row h with h|⟨_,rfl⟩;.exact hlen q row h
    simp)
  (λ q row c v h4 h5=>by
    rcases hw q row h4 with h|⟨hq,rfl⟩
    .obtain⟨cu,h6,h7⟩:=hrows q row c v h h5;refine⟨cu,h6,?_⟩
     cases hp:B.pure with
     |true=>rw[hp]at h7;simpa using h7
     |false=>
      rw[hp]at h7;simp only[bP,if_false]at h7⊢
      exact h7.mono (λ _ h=>h) (λ _ _=>rfl) (λ _ _=>rfl) hAA (λ _ _=> .inr rfl)
    have hc:c<B.sz:=by simpa using(aL.1 h5).1
    have hv:v= .junk:=by have:=(aL.1 h5).2;rw[bEG]at this;exact this.symm
    have hlt:q*B.sz+c<C.size:=by have:(q+1)*B.sz<=(r+_)*B.sz:=bZ _ hq;rw[cW]at this;omega
    subst hv;exact⟨C[q*B.sz+c],aW hlt,.junk⟩)
 obtain⟨hrel,hst⟩:=hrw
 have hnm:fQ (fQ ρ id aC) id (aA (b,B.sz))=ρ:=funext λ i=>by
  simp only[fQ];split;.rename_i he;rw[he,hb]
  rfl
 rw[hnm]at hrel hst;have hup:jT H (λ i=>A i\/(k<=i/\i<k)) [(id,aA ⟨B.sz,B.pure,B.rows++bI e (bI B.sz .junk)⟩),(id,aC)]=jT H (λ i=>A i\/(k<=i/\i<k)) [(id,aA ⟨B.sz,B.pure,B.rows++bI e (bI B.sz .junk)⟩)]:=funext λ i=>by simp only[jT];split<;>rfl
 rw[hup]at hrel;exact hn w G ρ cv hrel (hV.mono (λ _ h=>h) (λ _ _=>rfl) (λ _ _=>rfl) (λ _ h=> .inl h) (λ _ _=> .inr rfl)) ⟨hst.size,hst.keep,hst.shape,hst.g,hst.g',hst.own,λ i _=>hst.ids i (.inr rfl),hst.os,hst.tape,hst.output⟩
def aBE{mx:Option Operand}{q:Int}(ho:o.op= .slice t x lo hi mx)(hB:get id=aA B)(ht:DQ P t=aA B.sz)(hx:ev x=aA (.slc id r n m))
 (hl:∃y kk,lo=aA y/\ev y=aA (.lit (.int kk l))) (hh:∃y kk,hi=aA y/\ev y=aA (.lit (.int kk h))) (hq:∃y kk,mx=aA y/\ev y=aA (.lit (.int kk q)))
 (h0:0<=l) (h1:l<=h) (h2:h<=q) (h3:q<=m):Good P Γ o ev get k ⟨.junk,k,[],[id]⟩:=by
 refine⟨cL λ w G ρ H A a hr hrd hop=>?_,λ id' hid=>by simp at hid;rw[hid,hB];rfl,aJ _⟩;obtain⟨B',A',h4,hH,_⟩:=hrd id sS;rw[hB]at h4;cases h4;have hvx:=hop x pS _ hx;obtain⟨b,off,C,ty,hev,_⟩:=qT hr hH hvx;obtain⟨y1,k1,rfl,e1⟩:=hl;obtain⟨y2,k2,rfl,e2⟩:=hh;obtain⟨y3,k3,rfl,e3⟩:=hq;have v1:=iB (hop y1 pS _ e1);have v2:=iB (hop y2 pS _ e2);have v3:=iB (hop y3 pS _ e3);obtain⟨e,i,hu,hi',hsz⟩:=IN ht;have q1:(0:Int)<=q/\q<=(m:Int):=⟨oO,oO⟩;have q2:(0:Int)<=h/\h<=(q.toNat:Int):=⟨oO,oO⟩;have q3:(0:Int)<=l/\l<=(h.toNat:Int):=⟨oO,oO⟩;have hb:(Instr.sliceBounds aB n m (aA (.int k1 l)) (aA (.int k2 h)) (aA (.int k3 q))).run P w= .ok (l.toNat,h.toNat,q.toNat) w:=by simp only[Instr.sliceBounds,Instr.sliceBound,asIntOf,bS,dO,bJ,q1,q2,q3,and_self,if_true]
 obtain⟨cv,hcv⟩:∃cv,(execOp a.eval o).run P w= .ok (.value cv) w:=⟨_,by simp only[execOp,ho,hev,v1,v2,v3,bO,Instr.sliceAt,underlying,bS,run_program,bJ,hu,dO,Instr.slice,hb,sizeOf,typeInfo,hi'];rfl⟩
 exact⟨cv,hcv,.junk⟩
end
section
variable{P:Program}{Γ:dW}{o:Oper}{ev:Operand->Option AVal}{get:Nat->Option Blk}{k:Nat}
def SV(w:World)(dT sT ty elem:TypeId)(g o dLen dCap:Nat)(a:Addr)(sLen sCap:Nat)(cur:Array Value)(t:TypeId)(cs:List Value)(i:TypeInfo)(n:Nat)
 (hu:P.underlying dT=aA (.slice elem)) (hi:P.info? elem=aA i) (hg:w.heap[g]? =aA (.cells cur t (0,0))) (hn:n=Nat.min sLen dLen) (hl:cs.length=n*i.size)
 (hsrc:∀j v,cs[j]? =aA v->w.cell? (a.add j)=aA v) (hfit:o+cs.length<=cur.size) (h1:∀v∈cs,v.oneCell'=aB):
 (Builtin.copy_ #[dT,sT] ty #[.slice (aA ⟨g,o,aC⟩) dLen dCap,.slice (aA a) sLen sCap]).run P w=
   .ok (goInt n) (w.setRow g (cur.toList.take o++cs++cur.toList.drop (o+cs.length)).toArray):=by have hld:=run_firstCells_some (P:=P) w i.size n a sLen sCap cs hl hsrc;have hst:=run_storeCells_at P g o t cs 0 cur w hg (by simpa using hfit) h1;simp only[kG]at hst;simp[Builtin.copy_,run_underlying hu,Builtin.lenOf,sizeOf,typeInfo,hi,<-hn,hld,hst]
def UB{rows:List (List AVal)}(hs:0<s){cnt:Nat}(hcnt:cnt<=m){off:Nat}(hl:rows.length=m)(hrl:∀(r:Nat) row,rows[r]? =aA row->row.length=s)
 (hgv:∀r row c v,rows[r]? =aA row->row[c]? =aA v->w.cell? ⟨b,off+r*s+c,aC⟩=aA (gv r c)/\V w G (if p then bX else ρ) (if p then cQ else A) v (gv r c)) (hone:NH rows):
 (∀j u,(news s cnt gv)[j]? =aA u->w.cell? ((⟨b,off,aC⟩:Addr).add j)=aA u)/\(∀u∈news s cnt gv,u.oneCell'=aB):=by
 refine⟨λ j u hj=>?_,λ u hu=>?_⟩
 .obtain⟨h1,h2,rfl⟩:=tL hj hs;obtain⟨row,v,h3,h4⟩:=xR hrl (by omega:j/s<rows.length) h2;have h5:=(hgv _ row _ v h3 h4).1;rw[Addr.add_mid,<-h5];have:off+j=off+j/s*s+j%s:=by have:=FJ j s;rw[jN]at this;omega
  rw[this]
 obtain⟨j,hj⟩:=pF hu;obtain⟨h1,h2,rfl⟩:=tL hj hs;obtain⟨row,v,h3,h4⟩:=xR hrl (by omega:j/s<rows.length) h2;exact aBX (hgv _ row _ v h3 h4).2 (hone _ row _ v h3 h4)
def CK{l:List α}{x:α}(h:(l.take n)[q]? =aA x):q<n/\l[q]? =aA x:=by
 rw[fA]at h;split at h;.exact⟨‹_›,h⟩
 cases h
def SrcA.some{rows:List (List AVal)}{ids:List Nat}(h:SrcA get v s m rows p ids):∀i,i∈ids->(get i).isSome=aB:=λ i hi=>by
 cases h with
 |rd=>simp at hi
 |nil=>simp at hi
 |sl h1 _=>rw[tA]at hi;rw[hi,h1];rfl
def HM{ids:List Nat}(hB:get id=aA B)(h:∀i,i∈ids->(get i).isSome=aB):∀i,i∈id::ids->(get i).isSome=aB:=λ i hi=>by
 rcases fO.1 hi with e|e;.rw[e,hB];rfl
 exact h i e
def aJD{rows:List (List AVal)}{ids:List Nat}
 (ho:o.op= .call {callee:= .builtin .append,args:= #[x,y],argTypes:= #[t,t]}) (hz:iD P t=aA (s,by',zrow)) (hx:ev x=aA (.slc id 0 n c)) (hB:get id=aA B) (hBs:B.sz=s) (hy:ev y=aA v) (hs:SrcA get (deS v) s m rows p ids)
 (hone:(rows.all λ row=>row.all one)=aB) (hm:0<m) (hroom:n+m<=c) (hr:n<=B.rows.length):
 Good P Γ o ev get k ⟨.slc id 0 (n+m) c,k,[(id,aA ⟨B.sz,B.pure&&p,gH B.rows rows n⟩)],id::ids⟩:=by
 refine⟨?_,HM hB hs.some,aJ _⟩;intro w G ρ H A a hrl hA hf hrd hop next Q hn
 unfold iD at hz;split at hz;case h_2=>cases hz
 rename_i e hu;split at hz;case h_2=>cases hz
 rename_i i hi;split at hz;case h_2=>cases hz
 rename_i z hzz;split at hz;case isFalse=>cases hz
 rename_i hsz;cases hz;obtain⟨B',A',h3,hH,hAA⟩:=hrd id sS;rw[hB]at h3;cases h3;have hvx:=hop x pC _ hx;have hvy:=IV (hop y pC _ hy);obtain⟨hsl,hsrl,hsex⟩:=hs.src hrl (λ id' hid=>hrd id' (dZ _ hid)) hvy;obtain⟨sb,soff,scap,hsv,gv,hgv⟩:=hsex oO;obtain⟨hcell,h1⟩:=UB (cnt:=m) hsz.2 (aJ _) hsl hsrl hgv (tJ hone);obtain⟨b,off,C,ty,hev,h4,hb,hC,h7,h8,h9,h10,hrows,hlen⟩:=qT hrl hH hvx;have hoff:=h10.resolve_left oO;rw[rT]at hoff;subst hoff;rw[eQ]at h7;have hfit:(n+m)*B.sz<=C.size:=pL (bZ _ oO) h7;have hnl:=tK i.size m gv;have hrun:=yM (P:=P) w t o.type e i hu hi b n c C ty hC ⟨sb,soff,aC⟩ m scap (news i.size m gv) hnl hcell h1 hroom (by rw[hnl,<-cW,<-hBs];exact hfit);have hrun':(execOp a.eval o).run P w= .ok (.value (.slice (aA ⟨b,0,aC⟩) (n+m) c)) (w.setRow b (C.toList.take (n*i.size)++news i.size m gv++C.toList.drop (n*i.size+(news i.size m gv).length)).toArray):=by simp only[execOp,ho,resolve,invoke,builtin];simp only[uA,bN,bV,bS,dO,bJ,hev,hsv,hrun]
 unfold Oper.wp;rw[hrun'];rw[<-hBs];have hw:=JT (k:=k) hrl h4 hAA hb hC hrows hlen n m rows p gv hsl (λ q row h=>by rw[hBs];exact hsrl q row h) (λ q row c v h h'=>(hgv q row c v h h').2) hr hfit;refine hn _ G ρ _ hw.1 (.slc (b:=b) (s:=B.sz) (ty:=ty) (m:=C.size) (.inl h4) hb ?_ (by rw[eQ];exact h7) hroom h9 (.inr sS)) hw.2;unfold World.shape?;rw[setRow_heap w b C _ ty _ hC];have hl2:(C.toList.take (n*B.sz)++news B.sz m gv++C.toList.drop (n*B.sz+(news B.sz m gv).length)).toArray.size=C.size:=by rw[cW]at hfit;simp only[fE,bT,uB,aOA,qR,tK];omega
 simp only[hl2]
end
section
variable{P:Program}{Γ:dW}{o:Oper}{ev:Operand->Option AVal}{get:Nat->Option Blk}{k:Nat}
def TW(z:Array Value)(n:Nat):(Builtin.zeroCells z n).toList=news z.size n (λ _ c=>z[c]!):=by simp[Builtin.zeroCells,news]
def aSO(hq:q<n)(hc:c<z.size):(Builtin.zeroCells z n)[q*z.size+c]? =aA z[c]:=by rw[<-bH,TW,pO hq hc];simp[hc]
def HL{x y:α}(h:(bI n x)[q]? =aA y):q<n/\y=x:=by obtain⟨h1,h2⟩:=aL.1 h;rw[gP]at h1;rw[bEG]at h2;exact⟨h1,h2.symm⟩
def RA(hz:iD P t=aA (s,by',zrow)):∃e i z,P.underlying t=aA (.slice e)/\P.info? e=aA i/\i.zero=aA z/\z.cells.size=i.size/\0<i.size/\s=i.size/\by'=i.bytes/\zrow=z.cells.toList.map .lit:=by
 unfold iD at hz;split at hz;case h_2=>cases hz
 rename_i e hu;split at hz;case h_2=>cases hz
 rename_i i hi;split at hz;case h_2=>cases hz
 rename_i z hzz;split at hz;case isFalse=>cases hz
 rename_i hsz;cases hz;exact⟨e,i,z,hu,hi,hzz,hsz.1,hsz.2,rfl,rfl,rfl⟩
def aIT
 (ho:o.op= .call {callee:= .builtin .clear,args:= #[x],argTypes:= #[t]}) (hz:iD P t=aA (s,by',zrow)) (hz1:zrow.all one=aB) (hx:ev x=aA (.slc id r n c)) (hB:get id=aA B) (hBs:B.sz=s) (hn0:0<n) (hr:r+n<=B.rows.length):
 Good P Γ o ev get k ⟨.junk,k,[(id,aA ⟨B.sz,B.pure&&aB,gH B.rows (bI n zrow) r⟩)],[id]⟩:=by
 refine⟨?_,λ id' hid=>by simp at hid;rw[hid,hB];rfl,aJ _⟩;intro w G ρ H A a hrl hA hf hrd hop next Q hn
 obtain⟨e,i,z,hu,hi,hzz,hsz,hs0,rfl,rfl,rfl⟩:=RA hz;obtain⟨B',A',h3,hH,hAA⟩:=hrd id sS;rw[hB]at h3;cases h3;have hvx:=hop x pC _ hx;obtain⟨b,off,C,ty,hev,h4,hb,hC,h7,h8,h9,h10,hrows,hlen⟩:=qT hrl hH hvx;have hoff:=h10.resolve_left oO;subst hoff;have hfit:(r+n)*B.sz<=C.size:=pL (bZ _ oO) h7;have hnl:=tK i.size n (λ _ c=>z.cells[c]!);have hzl:=TW z.cells n;rw[hsz]at hzl;have hone:∀u∈news i.size n (λ _ c=>z.cells[c]!),u.oneCell'=aB:=λ u hu=>by obtain⟨j,hj⟩:=pF hu;obtain⟨h1,h2,rfl⟩:=tL hj hs0;have:j%i.size<z.cells.size:=oO;have hm:(aD z.cells[j%i.size])∈z.cells.toList.map aD:=dM.2 ⟨_,sS,rfl⟩;have:=aY.1 hz1 _ hm;simpa [one, *]using this
 have hst:=run_storeCells_at P b (r*B.sz) ty (news i.size n (λ _ c=>z.cells[c]!)) 0 C w hC (by rw[hnl,<-hBs];simp only[kG];rw[<-cW];exact hfit) hone;simp only[kG]at hst;have hrun':(execOp a.eval o).run P w= .ok (.value (.tuple #[])) (w.setRow b (C.toList.take (r*B.sz)++news i.size n (λ _ c=>z.cells[c]!)++C.toList.drop (r*B.sz+(news i.size n (λ _ c=>z.cells[c]!)).length)).toArray):=by obtain⟨m,rfl⟩:∃m,n=m+1:=⟨n-1,oO⟩;simp only[execOp,ho,resolve,invoke,builtin,Builtin.clear_];simp[hev,run_underlying hu,zeroValue,typeInfo,hi,hzz,hzl,hst]
 unfold Oper.wp;rw[hrun'];rw[<-hBs]
 have hw:=JT (k:=k) hrl h4 hAA hb hC hrows hlen r n (bI n (z.cells.toList.map .lit)) aB (λ _ c=>z.cells[c]!) sS (λ q row h=>by rw[(HL h).2];simp;omega)
  (λ q row c v h h'=>by
    obtain⟨_,rfl⟩:=HL h;rw[aV,aK]at h';obtain⟨u,hu',rfl⟩:=h';rw[bH]at hu';have:z.cells[c]! =u:=by obtain⟨hc,hue⟩:=dK.1 hu';rw[getElem!_pos z.cells c hc];exact hue
    show V w G (if aB then bX else ρ) (if aB then cQ else A) (.lit u) z.cells[c]!;rw[this];exact .lit) oO hfit
 exact hn _ G ρ _ hw.1 .junk hw.2
def aRO{tn:Nat}{kn kq:IntKind}
 (ho:o.op= .call {callee:= .builtin .append,args:= #[x,y],argTypes:= #[t,tn]}) (hz:iD P t=aA (s,by',zrow)) (htn:P.underlying tn=aA (.int kn)) (hx:ev x=aA (.slc id r n c)) (hB:get id=aA B) (hBs:B.sz=s)
 (hy:ev y=aA (.lit (.int kq (m:Int)))) (hm:0<m) (hroom:c<n+m) (hby:(n+m)*by'<=140737488355328) (hlen0:n+m<=9223372036854775807) (hr:r+n<=B.rows.length):
 Good P Γ o ev get k ⟨.sl k 0 (n+m),k+1,[(k,aA ⟨s,B.pure&&aB,(B.rows.drop r).take n++bI m zrow⟩)],[id]⟩:=by
 refine⟨?_,λ id' hid=>by simp at hid;rw[hid,hB];rfl,mG _⟩;intro w G ρ H A a hrl hA hf hrd hop next Q hn
 obtain⟨e,i,z,hu,hi,hzz,hsz,hs0,rfl,rfl,rfl⟩:=RA hz;obtain⟨B',A',h3,hH,hAA⟩:=hrd id sS;rw[hB]at h3;cases h3;have hkA:¬A k:=λ hk=>oX _ (hA k hk);obtain⟨hρk,hfr⟩:=hf k (aJ _) (cY _);have hvx:=hop x pC _ hx;have hvy:=iB (hop y pC _ hy);obtain⟨b,off,C,ty,hev,h4,hb,hC,h7,h8,h9,h10,hrows,hlen⟩:=qT hrl hH hvx;have hget:∀(q:Nat) row,((B.rows.drop r).take n)[q]? =aA row->q<n/\B.rows[r+q]? =aA row:=λ q row h=>by obtain⟨h1,h2⟩:=CK h;rw[fJ]at h2;exact⟨h1,h2⟩
 have hfit:(r+n)*B.sz<=C.size:=pL (bZ _ oO) h7;have hnl:=tK i.size n (λ q c=>C.getD ((r+q)*B.sz+c) undef)
 have holds:∀j v,(news i.size n (λ q c=>C.getD ((r+q)*B.sz+c) undef))[j]? =aA v->w.cell? ((⟨b,off,aC⟩:Addr).add j)=aA v:=λ j v hj=>by
  obtain⟨h1,h2,rfl⟩:=tL hj hs0;have hn0:0<n:=Nat.lt_of_le_of_lt (bF _) h1;have hoff:=h10.resolve_left oO;subst hoff;rw[Addr.add_mid,cell_of_row w b _ C ty (0,0) hC];have e1:r*B.sz+j=(r+j/i.size)*B.sz+j%i.size:=by have:=FJ j i.size;rw[cW,hBs];rw[jN]at this;omega
  have e2:(r+j/i.size)*B.sz+j%i.size<C.size:=by have:(r+j/i.size+1)*B.sz<=(r+n)*B.sz:=bZ _ oO;rw[cW (r+j/i.size)]at this;omega
  rw[e1,aW e2,aM,aW e2];rfl
 have hfirst:(Builtin.firstCells i.size n (.slice (aA ⟨b,off,aC⟩) n c)).run P w.drew= .ok (news i.size n (λ q c=>C.getD ((r+q)*B.sz+c) undef)).toArray w.drew:=
  run_firstCells_some (P:=P) w.drew i.size n ⟨b,off,aC⟩ n c _ hnl (λ j v hj=>holds j v hj)
 have hrun:=Lib.run_append_grow_zeros (P:=P) w t tn o.type e i z kq kn hu htn hi hzz (aA ⟨b,off,aC⟩) n c _ hfirst m hm hs0 hroom oO (by have:m*i.bytes<=(n+m)*i.bytes:=bZ _ oO;omega) (growslice_fits hroom hby)
 have hge:=grownCap_ge w (n+m) c e;have hcm:=grownCap_le_maxLen w (n+m) c e (by unfold maxLen;omega);have hrun':(execOp a.eval o).run P w= .ok (.value (.slice (aA ⟨w.heap.size,0,aC⟩) (n+m) (grownCap w (n+m) c e))) (w.drew.alloc (.cells ((news i.size n (λ q c=>C.getD ((r+q)*B.sz+c) undef)).toArray++Builtin.zeroCells z.cells m++Builtin.zeroCells z.cells (grownCap w (n+m) c e-(n+m))) e)):=by simp only[execOp,ho,resolve,invoke,builtin];simp only[uA,bN,bV,bS,dO,bJ,hev,hvy,hrun]
 unfold Oper.wp;rw[hrun']
 have hV:∀(v:AVal) (cv:Value),V w G (if B.pure then bX else ρ) (if B.pure then cQ else A') v cv->V w G (if(B.pure&&aB)then bX else ρ) (if(B.pure&&aB)then cQ else A) v cv:=λ v cv h=>by
  rw[iE]
  cases hp:B.pure with
  |true=>rw[hp]at h;simpa using h
  |false=>rw[hp]at h;simp only[bP,if_false]at h⊢;exact h.mono (λ _ h=>h) (λ _ _=>rfl) (λ _ _=>rfl) hAA (λ _ _=> .inr rfl)
 have hl1:((B.rows.drop r).take n).length=n:=by simp;omega
 have hrel:=hrl.alloc k hρk hfr ⟨i.size,B.pure&&aB,(B.rows.drop r).take n++bI m (z.cells.toList.map .lit)⟩
  ((news i.size n (λ q c=>C.getD ((r+q)*B.sz+c) undef)).toArray++Builtin.zeroCells z.cells m++Builtin.zeroCells z.cells (grownCap w (n+m) c e-(n+m))) e A (λ i=>A i\/(k<=i/\i<k+1)) hkA (λ _ h=> .inl h) (.inr ⟨aJ _,cY _⟩)
  (λ q row h=>by
    have h':((B.rows.drop r).take n++bI m (z.cells.toList.map .lit))[q]? =aA row:=h;rw[dQ]at h';split at h';.rw[<-hBs];exact hlen _ row (hget q row h').2
    rw[(HL h').2];simp;omega)
  (λ q row cc v h h2=>by
    have h':((B.rows.drop r).take n++bI m (z.cells.toList.map .lit))[q]? =aA row:=h;show ∃cv,((news i.size n (λ q c=>C.getD ((r+q)*B.sz+c) undef)).toArray++Builtin.zeroCells z.cells m++Builtin.zeroCells z.cells (grownCap w (n+m) c e-(n+m)))[q*i.size+cc]? =aA cv/\V w G (if(B.pure&&aB)then bX else ρ) (if(B.pure&&aB)then cQ else A) v cv;rw[dQ]at h';split at h'
    .obtain⟨hq,h5⟩:=hget q row h';obtain⟨cu,h6,h7⟩:=hrows _ row cc v h5 h2;have hc:cc<i.size:=by have:=(aL.1 h2).1;have:=hlen _ row h5;omega
     have hlt:=(aL.1 (pO (gv:=λ q c=>C.getD ((r+q)*B.sz+c) undef) hq hc)).1;refine⟨cu,?_,hV v cu h7⟩;rw[BR,fH (by simpa using hlt),cH,pO hq hc,aM,h6];rfl
    rename_i hge';rw[hl1]at h' hge';obtain⟨hq,rfl⟩:=HL h';rw[aV,aK]at h2;obtain⟨u,hu',rfl⟩:=h2;rw[bH]at hu';obtain⟨hc,hue⟩:=dK.1 hu';refine⟨u,?_,.lit⟩;have hsz1:(news i.size n (λ q c=>C.getD ((r+q)*B.sz+c) undef)).toArray.size=n*i.size:=by rw[fE];exact hnl
    have hz1:(Builtin.zeroCells z.cells m).size=m*i.size:=by rw[size_zeroCells,hsz]
    have e1:q*i.size+cc-n*i.size=(q-n)*i.size+cc:=by
     have:q*i.size=n*i.size+(q-n)*i.size:=by rw[<-cW];congr 1;omega
     omega
    have e2:(q-n)*i.size+cc<m*i.size:=by have:(q-n+1)*i.size<=m*i.size:=bZ _ hq;rw[cW]at this;omega
    have e3:n*i.size<=q*i.size+cc:=by have:n*i.size<=q*i.size:=bZ _ oO;omega
    rw[BR,xM (by rw[hsz1];exact e3),hsz1,e1,fH (by rw[hz1];exact e2)];have:=aSO (z:=z.cells) hq hc;rw[hsz]at this;rw[this,hue])
  w.drew rfl rfl rfl rfl
 have hst:=mB (w:=w) (G:=G) (ρ:=ρ) k i.size (.cells ((news i.size n (λ q c=>C.getD ((r+q)*B.sz+c) undef)).toArray++Builtin.zeroCells z.cells m++Builtin.zeroCells z.cells (grownCap w (n+m) c e-(n+m))) e) w.drew rfl rfl rfl rfl;refine hn _ G _ _ hrel ?_ ⟨hst.size,hst.keep,hst.shape,hst.g,hst.g',hst.own,λ id hid=>hst.ids id (λ he=>hid (oO:k<=id/\id<k+1)),hst.os,hst.tape,hst.output⟩;refine .sl (b:=w.heap.size) (s:=i.size) (ty:=e) (m:=((news i.size n (λ q c=>C.getD ((r+q)*B.sz+c) undef)).toArray++Builtin.zeroCells z.cells m++Builtin.zeroCells z.cells (grownCap w (n+m) c e-(n+m))).size) (.inr ⟨aJ _,cY _⟩) (by simp[fQ]) ?_ ?_ hge hcm (.inr sS);.have:=jD w.drew (.cells ((news i.size n (λ q c=>C.getD ((r+q)*B.sz+c) undef)).toArray++Builtin.zeroCells z.cells m++Builtin.zeroCells z.cells (grownCap w (n+m) c e-(n+m))) e);have e1:w.drew.heap.size=w.heap.size:=rfl;rw[e1]at this;unfold World.shape?;rw[this]
 rw[qQ,qQ,fE,hnl,size_zeroCells,size_zeroCells,hsz,<-cW,<-cW];exact bZ _ oO
end
section
variable{P:Program}{Γ:dW}{o:Oper}{ev:Operand->Option AVal}{get:Nat->Option Blk}{k:Nat}
def aBF(hr:HRel Γ w G ρ H)(hH:H id=aA (B,A'))(h0:0<n)(hv:V w G ρ A (.sl id r n) cv):
 ∃b off c C ty,cv= .slice (aA ⟨b,off,aC⟩) n c/\ρ id=aA (b,B.sz)/\w.heap[b]? =aA (.cells C ty (0,0))/\B.rows.length*B.sz<=C.size:=by
 obtain⟨_,b,hb,_,hBR⟩:=hr.blk id B A' hH
 cases hv with
 |dangs _ hn=>rw[hb]at hn;cases hn
 |sl0=>omega
 |sl h1 h2 h3 h4 h5 h6 h7=>rw[hb]at h2;cases h2;obtain⟨⟨C,ty,hC,hrows⟩,hlen⟩:=hBR.old h3;exact⟨b,_,_,C,ty,rfl,hb,hC,PI hrows hlen⟩
def TB{f:Operand}{g tS tR e:Nat}{fn:Func}{i1 r1 n1 i2 r2 n2:Nat}{B1 B2:Blk}
 (ho:o.op= .call {callee:= .value f,args:= #[x,y],argTypes:=ty}) (hf:ev f=aA (.fn g [])) (hfn:P.funcs[g]? =aA fn) (hname:(fn.name== "runtime.NumGoroutine")=aF) (hb:fn.body.isNone=aB) (hn:Extern.findNext fn=aC)
 (he:Extern.find fn=aA (Extern.SlicesOverlaps.overlaps #[tS,tS] #[tR])) (hu:P.underlying tS=aA (.slice e)) (hs:pG P e=aA s)
 (hx:ev x=aA (.sl i1 r1 n1)) (hy:ev y=aA v) (hv:deS v= .sl i2 r2 n2) (hne:i1≠i2) (hB1:get i1=aA B1) (hB2:get i2=aA B2) (hn1:0<n1) (hn2:0<n2) (h2:0<B2.rows.length) (h3:0<B2.sz):
 Good P Γ o ev get k ⟨.lit (.bool aF),k,[],[i1,i2]⟩:=by
 refine⟨cL λ w G ρ H A a hr hrd hop=>⟨.bool aF,?_,.lit⟩,λ id hid=>by
  simp only[fO,pM,or_false]at hid;rcases hid with rfl|rfl;.rw[hB1];rfl
  rw[hB2];rfl,aJ _⟩
 obtain⟨C1,A1,h4,hH1,_⟩:=hrd i1 sS;rw[hB1]at h4;cases h4;obtain⟨C2,A2,h4,hH2,_⟩:=hrd i2 sS;rw[hB2]at h4;cases h4;have hvx:=hop x pC _ hx;have hvy:=IV (hop y pC _ hy);rw[hv]at hvy;have hvf:=hop f pC _ hf;obtain⟨b1,o1,c1,D1,t1,e1,g1,w1,_⟩:=aBF hr hH1 hn1 hvx;obtain⟨b2,o2,c2,D2,t2,e2,g2,w2,k2⟩:=aBF hr hH2 hn2 hvy;have hbne:b1≠b2:=λ hh=>hne (by subst hh;exact hr.inj _ _ _ _ _ g1 g2);have hfz:∀q,w.frozen? ⟨b1,q,aC⟩=aF:=λ q=>by unfold World.frozen?;simp[w1]
 have hov:=Lib.run_overlaps_apart (P:=P) w tS tR e hu s (λ w=>by simp only[pG,aK]at hs;obtain⟨i,hi,rfl⟩:=hs;simp[sizeOf,typeInfo,hi]) ⟨b1,o1,aC⟩ ⟨b2,o2,aC⟩ n1 c1 n2 c2 hbne t1 t2 D1.size D2.size (by unfold World.shape?;rw[w1]) (by unfold World.shape?;rw[w2]) (λ h0=>by have:1*1<=B2.rows.length*B2.sz:=Nat.mul_le_mul h2 h3;omega) (hfz _) (hfz _)
 have hcall:(callFunc g #[.slice (aA ⟨b1,o1,aC⟩) n1 c1,.slice (aA ⟨b2,o2,aC⟩) n2 c2]).run P w= .ok (.value (.bool aF)) w:=by rw[run_callFunc_extern hfn hname hb hn he,hov];rfl
 generalize hev:a.eval f=cv at hvf
 cases hvf with
 |fn h5 h6=>rename_i cs;have:cs= #[]:=kH (by simpa using h5.symm);subst this;simp only[execOp,ho,resolve,hev,Deferred.ofValue,bS,dO,bJ,invoke,uA,bN,bV,e1,e2,Array.append_empty,Array.empty_append];exact hcall
end
def iO(h:a≠b):(a=b)=False:=eq_false h
def nA(f s:Nat):Nat->(Nat->List (List AVal))->aS
 |0,_=>[]
 |n+1,R=>(f,⟨s,aB,R 0⟩)::nA (f+1) s n (λ j=>R (j+1))
variable{H:aS}
section
variable{f s n g i:Nat}{R R':Nat->List (List AVal)}
def wE(h:g<n):AM.look (nA f s n R) (f+g)=aA ⟨s,aB,R g⟩:=by
 induction n generalizing f g R with
 |zero=>omega
 |succ n ih=>
  simp only[nA,AM.look]
  cases g with
  |zero=>simp
  |succ g=>rw[iN oO];have:=ih (f:=f+1) (g:=g) (R:=λ j=>R (j+1)) oO;rw[<-this];congr 1;omega
def UZ(h:i<f\/f+n<=i):AM.look (nA f s n R) i=aC:=by
 induction n generalizing f R with
 |zero=>rfl
 |succ n ih=>simp only[nA,AM.look];rw[iN oO];exact ih oO
def KJ(h:AM.look (nA f s n R) i=aA B):f<=i/\i<f+n:=by
 by_cases hc:i<f\/f+n<=i;.rw[UZ hc]at h;cases h
 omega
def RI(h:i<f\/f+n<=i):del (nA f s n R) i=nA f s n R:=by
 induction n generalizing f R with
 |zero=>rfl
 |succ n ih=>simp only[nA,del];rw[iN oO,ih oO]
def PH{rows:List (List AVal)}(h:g<n):yL (nA f s n R) (f+g) ⟨s,aB,rows⟩=nA f s n (λ j=>if j=g then rows else R j):=by
 induction n generalizing f g R with
 |zero=>omega
 |succ n ih=>
  simp only[nA,yL]
  cases g with
  |zero=>simp
  |succ g=>rw[iN oO];have:=ih (f:=f+1) (g:=g) (R:=λ j=>R (j+1)) oO;have e:f+1+g=f+(g+1):=oO;rw[e]at this;rw[this];simp
def fam_congr(h:∀g,g<n->R g=R' g):nA f s n R=nA f s n R':=by
 induction n generalizing f R R' with
 |zero=>rfl
 |succ n ih=>simp only[nA];rw[h 0 oO,ih (λ g hg=>h (g+1) oO)]
def zD(H:aS)(f s n:Nat)(R:Nat->List (List AVal)):Prop:=∀g,g<n->AM.look H (f+g)=aA ⟨s,aB,R g⟩
def QZ(h:i<f\/f+n<=i):zD ((i,B)::H) f s n R=zD H f s n R:=by
 unfold zD;refine propext ⟨λ h1 g hg=>?_,λ h1 g hg=>?_⟩;.have:=h1 g hg;simp only[AM.look]at this;rwa [iN oO]at this
 simp only[AM.look];rw[iN oO];exact h1 g hg
def aHT:zD (nA f s n R) f s n R=True:=eq_true λ g hg=>wE hg
def a4L:IA H (nA f s n R)=zD H f s n R:=by
 unfold zD
 induction n generalizing f R with
 |zero=>simp[nA,IA]
 |succ n ih=>
  simp only[nA,IA];rw[ih];refine propext ⟨λ⟨h1,h2⟩ g hg=>?_,λ h=>⟨h 0 oO,λ g hg=>?_⟩⟩
  .cases g with
   |zero=>exact h1
   |succ g=>have:=h2 g oO;rw[<-this];congr 1;omega
  have:=h (g+1) oO;rw[<-this];congr 1;omega
def BD(h:f+n<=k):oU (kC k) (nA f s n R)=aB:=by
 induction n generalizing f R with
 |zero=>rfl
 |succ n ih=>simp only[nA,oU,gI,BO,iE,aO];refine⟨by simp[kC];omega,?_⟩;exact ih oO
def a2C(h:(a<f\/f+n<=a)/\(b<f\/f+n<=b)):swH a b (nA f s n R)=nA f s n R:=by
 induction n generalizing f R with
 |zero=>rfl
 |succ n ih=>have h1:sw a b f=f:=aAX oO oO;simp only[nA];have e:swH a b ((f,⟨s,aB,R 0⟩)::nA (f+1) s n λ j=>R (j+1))=(sw a b f,swB a b ⟨s,aB,R 0⟩)::swH a b (nA (f+1) s n λ j=>R (j+1)):=rfl;rw[e,h1,ih oO];rfl
end
attribute [go_sem] wE UZ RI PH QZ aHT a4L BD a2C
section
variable{P:Program}{Γ:dW}{nt kb:Nat}{Q:AQ}{k:Nat}{fr:Fr}{H:aS}{c:Code}
def WQ(id s:Nat)(hB:AM.look H id=aA B)(hk:id<k):Mv kb k fr H (k+1) fr ((k,⟨s,aB,[]⟩)::del H id):=λ hkb=>⟨oO,λ Γ nt A0 w G ρ ac hA hi=>by
 have hAk:¬kI A0 kb k k:=λ h=>by
  rcases h with h|h;.have:=hA _ h;omega
  omega
 have hal:∀i,kI A0 kb k i->kI A0 kb (k+1) i:=λ i h=>h.imp (λ h=>h) (λ h=>⟨h.1,oO⟩);obtain⟨hAid,b,hb,hg,hBR⟩:=hi.rel.blk id B (kI A0 kb k) (by simp[bK,hB]);have hne:id≠k:=oO
 have hρk:ρ k=aC:=by
  cases hl:look H k with
  |none=>exact hi.rel.dom k (by simp[bK,hl])
  |some B=>exact absurd (hi.rel.blk k B (kI A0 kb k) (by simp only[bK,hl,bO])).1 hAk
 have hρ:∀i,kI A0 kb k i->fQ (fQ ρ id aC) k (aA (b,s)) i=aC\/fQ (fQ ρ id aC) k (aA (b,s)) i=ρ i:=λ i h=>by
  simp only[fQ];by_cases h1:i=k;.subst h1;exact absurd h hAk
  rw[iN h1];split;.exact .inl rfl
  exact .inr rfl
 have hV:∀v cv,V w G ρ (kI A0 kb k) v cv->V w G (fQ (fQ ρ id aC) k (aA (b,s))) (kI A0 kb (k+1)) v cv:=λ v cv h=>
  h.mono (λ _ h=>h) (λ _ _=>rfl) (λ _ _=>rfl) hal hρ
 refine⟨G,fQ (fQ ρ id aC) k (aA (b,s)),⟨⟨λ i h=>?_,λ i B' A h=>?_,λ i j x y z h1 h2=>?_,hi.rel.ro,hi.rel.glob⟩,hi.size,hi.defers,λ t v hv=>hV v _ (hi.frm t v hv)⟩,⟨aJ _,λ _ _ _=>rfl,λ _ _=>rfl,λ _ h=>h,λ _ h=> .inl h,?_,λ i h=>?_,rfl,rfl,rfl⟩⟩
 .simp only[bK,dL,look]at h;split at h;.cases h
  rename_i h1;simp only[fQ];rw[iN (λ e=>h1 e.symm)];split;.rfl
  rename_i h2;rw[iK,iN h2]at h;exact hi.rel.dom i (by simp[bK,h])
 .simp only[bK,aK,look]at h;obtain⟨B1,h,he⟩:=h;cases he;split at h;.rename_i h1;subst h1;cases h;obtain⟨C,ty,hC,_⟩:=hBR.ex;refine⟨.inr ⟨hkb,cY _⟩,b,by simp[fQ],hg,⟨⟨C,ty,hC,λ r row c v h1 _=>by simp at h1⟩,λ r row h1=>by simp at h1⟩⟩
  rename_i h1;rw[iK]at h;split at h;.cases h
  rename_i h2;obtain⟨h3,x,h4,h5,⟨⟨C,ty,hC,hrows⟩,hlen⟩⟩:=hi.rel.blk i B' (kI A0 kb k) (by simp[bK,h]);refine⟨hal i h3,x,by simp only[fQ];rw[iN (λ e=>h1 e.symm),iN h2];exact h4,h5,⟨⟨C,ty,hC,λ r row c v h6 h7=>?_⟩,hlen⟩⟩;obtain⟨cv,h8,h9⟩:=hrows r row c v h6 h7;refine⟨cv,h8,?_⟩;by_cases hp:B'.pure=aB;.simp only[hp,if_true]at h9⊢;exact h9
  simp only[hp]at h9⊢;exact hV _ _ h9
 .have side:∀i s',fQ (fQ ρ id aC) k (aA (b,s)) i=aA (x,s')->(i=k/\x=b)\/(i≠k/\i≠id/\ρ i=aA (x,s')):=λ i s' h=>by
   simp only[fQ]at h;split at h;.rename_i hq;cases h;exact .inl ⟨hq,rfl⟩
   rename_i hq;split at h;.cases h
   rename_i hq2;exact .inr ⟨hq,hq2,h⟩
  rcases side i y h1 with⟨e1,e2⟩|⟨e1,e2,e3⟩<;>rcases side j z h2 with⟨f1,f2⟩|⟨f1,f2,f3⟩;.rw[e1,f1]
  .subst e2;exact absurd (hi.rel.inj j id _ _ _ f3 hb) f2
  .subst f2;exact absurd (hi.rel.inj i id _ _ _ e3 hb) e2
  exact hi.rel.inj i j x y z e3 f3
 .rintro x ⟨i,s',hx⟩;simp only[fQ]at hx;split at hx;.cases hx;exact .inl ⟨id,_,hb⟩
  split at hx;.cases hx
  exact .inl ⟨i,s',hx⟩
 have h':i<kb:=h;simp only[fQ];rw[iN oO];split;.exact .inl rfl
 exact .inr rfl⟩
end
def nq3(h:a<=b):(a<=b)=True:=eq_true h
def nq4(h:b<a):(a<=b)=False:=eq_false oO
def TC(h:a<b):(a<b)=True:=eq_true h
def ltB_iff{i:Nat}:kC k i=decide (i<k):=rfl
def iC{kb:Nat}{fr:Fr}{k1:Nat}{fr1:Fr}{H1:aS}(hb:kb<=k1:=by omega)(hf:leF fr fr1:=by simp-dsimp-implicitDefEqProofs (disch:=omega)only[go_sem,iO,aQ,↓reduceIte])(hH:IA H H1:=by simp-dsimp-implicitDefEqProofs (disch:=omega)only[go_sem,iO,aQ,↓reduceIte])(h:bdF (kC k1) fr1=aB:=by simp-dsimp-implicitDefEqProofs (disch:=omega)only[go_sem,iO,TC,ltB_iff,aQ,↓reduceIte])(h':oU (kC k1) H1=aB:=by simp-dsimp-implicitDefEqProofs (disch:=omega)only[go_sem,iO,TC,ltB_iff,aQ,↓reduceIte]):Mv kb k fr H k1 fr1 H1:=
 nC (sA hb hf hH h h')
def bIH(g:Nat->Nat)(hL:tr.map (shG g)=L:=by(simp-dsimp (disch:=omega)only[bN,bV,shG,iO,nq3,nq4,eq_self,↓reduceIte,kJ,TT];rfl))(h:FT ops L=aB:=by decide+kernel)(hm:(tr.all λ f=>f.mods.all λ x=>decide (x<f.k'))=aB:=by simp-dsimp-implicitDefEqProofs (disch:=omega)only[go_sem,iO,TC,ltB_iff,aQ,↓reduceIte]):lE ops tr=aB:=IR g hL h hm
def a8X(h:aYC ops (tr.map sh)=aB:=by kernel_rfl)(hm:(tr.all λ f=>f.mods.all λ x=>decide (x<f.k'))=aB:=by simp-dsimp-implicitDefEqProofs (disch:=omega)only[go_sem,iO,TC,ltB_iff,aQ,↓reduceIte]):lE ops tr=aB:=KV h hm
section
variable{P:Program}{Γ:dW}{nt kb:Nat}{Q:AQ}{k:Nat}{fr:Fr}{H:aS}{c:Code}
def aFA(id j tk r n:Nat){T:Blk}{row:List AVal}(hB:AM.look H id=aA B)(hT:AM.look H tk=aA T)(hne:tk≠id)(hp:B.pure=aF)(hrow:B.rows[r]? =aA row)(hj:row[j]? =aA (.lit (.slice aC 0 0))):
 Mv kb k fr H k fr ((id,⟨B.sz,aF,B.rows.set r (row.set j (.sl tk n 0))⟩)::del H id):=λ hkb=>⟨hkb,λ Γ nt A0 w G ρ ac hA hi=>by
 obtain⟨hAid,b,hb,hg,hBR⟩:=hi.rel.blk id B (kI A0 kb k) (by simp[bK,hB])
 obtain⟨hAt,bt,hbt,_,_⟩:=hi.rel.blk tk T (kI A0 kb k) (by simp[bK,hT])
 obtain⟨⟨C,ty,hC,hrows⟩,hlen⟩:=hBR
 refine⟨G,ρ,⟨⟨λ i h=>?_,λ i B' A h=>?_,hi.rel.inj,hi.rel.ro,hi.rel.glob⟩,hi.size,hi.defers,hi.frm⟩,lF _ _ _ _⟩
 · simp only[bK,dL,look]at h
   split at h
   · cases h
   · rename_i h1
     rw[iK,iN (λ e=>h1 e.symm)]at h
     exact hi.rel.dom i (by simp[bK,h])
 · simp only[bK,aK,look]at h
   obtain⟨B1,h,he⟩:=h
   cases he
   split at h
   · rename_i h1
     subst h1
     cases h
     refine⟨hAid,b,hb,hg,⟨⟨C,ty,hC,λ q row' cc v h1 h2=>?_⟩,λ q row' h1=>?_⟩⟩
     · have h1':(B.rows.set r (row.set j (.sl tk n 0)))[q]? =aA row':=h1
       rw[dS]at h1'
       simp only[bP,if_false]
       split at h1'
       · rename_i hq
         subst hq
         split at h1'
         · cases h1'
           rw[dS]at h2
           split at h2
           · rename_i hc
             subst hc
             split at h2
             · cases h2
               obtain⟨cv,h3,h4⟩:=hrows r row j _ hrow hj
               rw[hp]at h4
               cases h4
               exact⟨_,h3,.sl0 hAt hbt⟩
             · cases h2
           · obtain⟨cv,h3,h4⟩:=hrows r row cc v hrow h2
             rw[hp]at h4
             exact⟨cv,h3,by simpa using h4⟩
         · cases h1'
       · obtain⟨cv,h3,h4⟩:=hrows q row' cc v h1' h2
         rw[hp]at h4
         exact⟨cv,h3,by simpa using h4⟩
     · have h1':(B.rows.set r (row.set j (.sl tk n 0)))[q]? =aA row':=h1
       rw[dS]at h1'
       split at h1'
       · split at h1'
         · cases h1';rw[jF];exact hlen r row hrow
         · cases h1'
       · exact hlen q row' h1'
   · rename_i h1
     rw[iK]at h
     split at h
     · cases h
     · exact hi.rel.blk i B' (kI A0 kb k) (by simp[bK,h])⟩
def mO{f:FuncId}{k:Nat}{H:aS}{V:AVal}(hk:k<=kk)(hb:bd (kC kk) V=aB)(hB:oU (kC kk) RH=aB)(h:Tr P Γ f k args H (λ _ r1 H1=>r1=V/\IA H1 RH)):
 Tr P Γ f k args H (λ k1 r1 H1=>k1=kk/\r1=V/\H1=RH):=
 Tr.weaken h λ k' r H' _ hq=>⟨kk,V,RH,hk,hq.1▸bL _,λ id B hid=>⟨B,QG hq.2 id B hid,nN B⟩,.inr ⟨hb,hB⟩,rfl,rfl,rfl⟩
def uG{P:Program}{Γ:dW}{f:FuncId}{k:Nat}{H R:aS}{V RV:AVal}(eV:RV=V)(eH:RH=R)(hb:bd (kC kk) V=aB)(hB:oU (kC kk) R=aB)(h:Tr P Γ f k args H (λ _ r1 H1=>r1=RV/\IA H1 RH))(hk:k<=kk:=by omega):Tr P Γ f k args H (λ k1 r1 H1=>k1=kk/\r1=V/\H1=R):=by subst eV eH;exact mO hk hb hB h
end
end Go.AM
end
section
namespace Go.AM
variable{ops:Array Oper}{L:List (List Nat×List Nat)}{tr:List Foot}{keep:List Nat}{os:List Orc}{g:Nat->Nat}{A B P1 P10 P11 P12 P2 P3 P4 P5 P6 P7 P8 P9 Q:Prop}
def apN{α:Type}(l:List α):l++[]=l:=cX l
def ssN{α:Type}(l:List α)(i:Nat)(a b:α):(l.set i a).set i b=l.set i b:=List.set_set ..
def lrN{α:Type}{n:Nat}{a:α}:(bI n a).length=n:=gP
def lcN{α:Type}{a:α}{l:List α}:(a::l).length=l.length+1:=iI
def ZA(_:Kp keep g)(hL:tr.map (shG g)=L:=by(simp-dsimp (disch:=omega)only[bN,bV,shG,iO,nq3,nq4,eq_self,↓reduceIte,kJ,TT];rfl))(h:FT ops L=aB:=by decide+kernel)(hm:(tr.all λ f=>f.mods.all λ x=>decide (x<f.k'))=aB:=by simp-dsimp-implicitDefEqProofs (disch:=omega)only[go_sem,iO,TC,ltB_iff,aQ,bN,bV,↓reduceIte]):lE ops tr=aB:=bIH g hL h hm
def vI(p:Hd P1/\Hd P2/\Hd P3/\Hd P4/\Hd P5/\Hd P6/\Hd P7/\Hd P8/\Hd P9/\Hd P10/\Hd P11/\Hd P12)
 (h:Hd P1->Hd P2->Hd P3->Hd P4->Hd P5->Hd P6->Hd P7->Hd P8->Hd P9->Hd P10->Hd P11->Hd P12->Q:=by
 intro a1 a2 a3 a4 a5 a6 a7 a8 a9 a10 a11 a12;refine two ?_ ?_;·(repeat'(first|(refine iG rfl ?_)|(refine BN rfl ?_)|(refine BM rfl ?_;(try simp-dsimp-implicitDefEqProofs (disch:=omega)only[go_sem,iO,uU,↓reduceIte]))|(refine GW rfl ?_;(try simp-dsimp-implicitDefEqProofs (disch:=omega)only[go_sem,iO,uU,↓reduceIte]))|(refine uQ rfl _ rfl (λ zt=>?_) (λ zt=>?_)<;>(try(simp only[nf]at zt))<;>(try(exfalso;omega)))|((first|(refine ZZ kp rfl rfl rfl (λ zK hK=>?_))|(refine aAA kp rfl rfl kRf rfl (λ zK hK=>?_)));simp-dsimp-implicitDefEqProofs (disch:=omega)only[go_sem,iO,uU,↓reduceIte];(repeat'(first|(refine And.intro ?_ ?_)|(refine lR (λ hb=>?_) (λ hb=>?_)<;>(have zg:=hb;(try simp only[nfb]at zg);simp-dsimp-implicitDefEqProofs (disch:=omega)only[go_sem,iO,uU,hb,zg,↓reduceIte];clear hb;(try simp only[nfe]at zg)))));any_goals ((first|refine hK _ _ _ _ (λ hx=>?_)|refine hK _ _ _ _ (ZA kp) (λ hx=>?_)|refine hK _ _ _ _ a8X (λ hx=>?_));clear hx hK;simp-dsimp-implicitDefEqProofs (disch:=omega)only[go_sem,iO,uU,↓reduceIte];(try simp(disch:=omega)only[wrap_i64,wrap_u64,wrap_u32,oS])))|omega));all_goals(refine Hd.o ?_;(repeat revert zg);refine Hd.o ?_;(repeat revert zt);exact HR a1 a2 a3 a4 a5 a6 a7 a8 a9 a10 a11 a12)
 exact HQ a1 a2 a3 a4 a5 a6 a7 a8 a9 a10 a11 a12):Q:=h p.1 p.2.1 p.2.2.1 p.2.2.2.1 p.2.2.2.2.1 p.2.2.2.2.2.1 p.2.2.2.2.2.2.1 p.2.2.2.2.2.2.2.1 p.2.2.2.2.2.2.2.2.1 p.2.2.2.2.2.2.2.2.2.1 p.2.2.2.2.2.2.2.2.2.2.1 p.2.2.2.2.2.2.2.2.2.2.2
def bIR(ox:Os os)(p:Hd P1/\Hd P2/\Hd P3/\Hd P4/\Hd P5/\Hd P6/\Hd P7/\Hd P8/\Hd P9/\Hd P10/\Hd P11/\Hd P12)
 (h:Os os->Hd P1->Hd P2->Hd P3->Hd P4->Hd P5->Hd P6->Hd P7->Hd P8->Hd P9->Hd P10->Hd P11->Hd P12->Q:=by
 intro oo a1 a2 a3 a4 a5 a6 a7 a8 a9 a10 a11 a12;refine two ?_ ?_;·(refine aJS kp oo rfl rfl (λ zK hK=>?_));simp-dsimp-implicitDefEqProofs (disch:=omega)only[go_sem,iO,uU,↓reduceIte];(repeat'(first|(refine And.intro ?_ ?_)|(refine lR (λ hb=>?_) (λ hb=>?_)<;>(have zg:=hb;(try simp only[nfb]at zg);simp-dsimp-implicitDefEqProofs (disch:=omega)only[go_sem,iO,uU,hb,zg,↓reduceIte];clear hb;(try simp only[nfe]at zg)))));(any_goals ((refine hK _ _ _ _ (λ hx=>?_));clear hx hK;simp-dsimp-implicitDefEqProofs (disch:=omega)only[go_sem,iO,uU,↓reduceIte];(try simp(disch:=omega)only[wrap_i64,wrap_u64,wrap_u32,oS])));(all_goals(try omega));all_goals(refine Hd.o ?_;(repeat revert zg);refine Hd.o ?_;(repeat revert zt);exact HR a1 a2 a3 a4 a5 a6 a7 a8 a9 a10 a11 a12)
 exact HQ a1 a2 a3 a4 a5 a6 a7 a8 a9 a10 a11 a12):Q:=h ox p.1 p.2.1 p.2.2.1 p.2.2.2.1 p.2.2.2.2.1 p.2.2.2.2.2.1 p.2.2.2.2.2.2.1 p.2.2.2.2.2.2.2.1 p.2.2.2.2.2.2.2.2.1 p.2.2.2.2.2.2.2.2.2.1 p.2.2.2.2.2.2.2.2.2.2.1 p.2.2.2.2.2.2.2.2.2.2.2
def bIJ(ox:Os os)(p:Hd P1/\Hd P2/\Hd P3/\Hd P4/\Hd P5/\Hd P6/\Hd P7/\Hd P8/\Hd P9/\Hd P10/\Hd P11/\Hd P12)
 (h:Os os->Hd P1->Hd P2->Hd P3->Hd P4->Hd P5->Hd P6->Hd P7->Hd P8->Hd P9->Hd P10->Hd P11->Hd P12->Q:=by
 intro oo a1 a2 a3 a4 a5 a6 a7 a8 a9 a10 a11 a12;refine two ?_ ?_;·(refine aJT kp oo rfl kRf rfl (λ zK hK=>?_));simp-dsimp-implicitDefEqProofs (disch:=omega)only[go_sem,iO,uU,↓reduceIte];(repeat'(first|(refine And.intro ?_ ?_)|(refine lR (λ hb=>?_) (λ hb=>?_)<;>(have zg:=hb;(try simp only[nfb]at zg);simp-dsimp-implicitDefEqProofs (disch:=omega)only[go_sem,iO,uU,hb,zg,↓reduceIte];clear hb;(try simp only[nfe]at zg)))));(any_goals ((first|refine hK _ _ _ _ (ZA kp) (λ hx=>?_)|refine hK _ _ _ _ a8X (λ hx=>?_));clear hx hK;simp-dsimp-implicitDefEqProofs (disch:=omega)only[go_sem,iO,uU,↓reduceIte];(try simp(disch:=omega)only[wrap_i64,wrap_u64,wrap_u32,oS])));(all_goals(try omega));all_goals(refine Hd.o ?_;(repeat revert zg);refine Hd.o ?_;(repeat revert zt);exact HR a1 a2 a3 a4 a5 a6 a7 a8 a9 a10 a11 a12)
 exact HQ a1 a2 a3 a4 a5 a6 a7 a8 a9 a10 a11 a12):Q:=h ox p.1 p.2.1 p.2.2.1 p.2.2.2.1 p.2.2.2.2.1 p.2.2.2.2.2.1 p.2.2.2.2.2.2.1 p.2.2.2.2.2.2.2.1 p.2.2.2.2.2.2.2.2.1 p.2.2.2.2.2.2.2.2.2.1 p.2.2.2.2.2.2.2.2.2.2.1 p.2.2.2.2.2.2.2.2.2.2.2
def gO(b:B)(h:Hd B->Q:=by intro b1;refine vI ?_;exact zqa (Hd.o b1)):Q:=h ⟨b⟩
def gJ{X:Sort _}{G:X->Prop}(b:∀t,G t)(h:Hd (∀t,G t)->Q:=by intro b1;refine vI ?_;exact zqb (Hd.o b1)):Q:=h ⟨b⟩
def xJ(os:List Orc)(b:B)(h:Os os->Hd B->Q:=by intro oo b1;refine bIR oo ?_;exact Hd.o b1):Q:=h ⟨⟩ ⟨b⟩
def sK(os:List Orc)(b:B)(h:Os os->Hd B->Q:=by intro oo b1;refine bIR oo ?_;exact zqa (Hd.o b1)):Q:=h ⟨⟩ ⟨b⟩
def dlD(os:List Orc)(b:B)(h:Os os->Hd B->Q:=by intro oo b1;refine bIJ oo ?_;exact Hd.o b1):Q:=h ⟨⟩ ⟨b⟩
def RE(os:List Orc)(b:B)(h:Os os->Hd B->Q:=by intro oo b1;refine bIJ oo ?_;exact zqa (Hd.o b1)):Q:=h ⟨⟩ ⟨b⟩
def kX(b:B)(h:B->A:=by intro b1;refine cB rfl ?_;simp-dsimp-implicitDefEqProofs (disch:=omega)only[go_sem,iO,uU,↓reduceIte];refine⟨_,rfl,?_⟩;exact b1):A:=h b
def SX(b:Hd B)(h:Hd B->A:=by
 intro b1;refine two ?_ ?_;·(simp-dsimp-implicitDefEqProofs (disch:=omega)only[go_sem,iO,uU,↓reduceIte])<;>exact Hd.o (Hd.o b1)
 (try have zz:Hd True:=b1);exact trivial):A:=h b
def cZ(b:B)(h:Hd B->A:=by intro b1;refine SX ?_;exact⟨b1⟩):A:=h ⟨b⟩
end Go.AM
end
section
namespace Go.AM
open Go
variable{ops:Array Oper}{args:Array Operand}{ty:Array TypeId}{B:Blk}{L:List (List Nat×List Nat)}{tr:List Foot}{id r:Nat}{F:Nat->List AVal}{g:Nat->Nat}{G G':Nat->Prop}{cv:Value}{w w':World}{Hc:aS}{A A':cF}{ρ ρ':dH}{Γ:dW}
def RU(Hc:aS)(ρ:dH)(b:Nat):Prop:=∃id B s,AM.look Hc id=aA B/\ρ id=aA (b,s)
def Holds(Hc:aS)(H:mP)(A:cF):Prop:=∀id B,AM.look Hc id=aA B->∃A',H id=aA (B,A')/\∀i,A' i->A i
def Bor(Γ:dW)(Hc:aS)(v v':AVal):Prop:=
 ∀w G ρ H A cv,HRel Γ w G ρ H->Holds Hc H A->V w G ρ A v cv->V w (λ b=>G b\/RU Hc ρ b) bX cQ v' cv
inductive BorL (Γ:dW) (Hc:aS):List AVal->List AVal->Prop
 |nil:BorL Γ Hc [] []
 |cons {v v' vs vs'}:Bor Γ Hc v v'->BorL Γ Hc vs vs'->BorL Γ Hc (v::vs) (v'::vs')
variable{v:AVal}{vs vs':List AVal}
def BorL.len(h:BorL Γ Hc vs vs'):vs.length=vs'.length:=by
 induction h with
 |nil=>rfl
 |cons _ _ ih=>simp[ih]
def BorL.get(h:BorL Γ Hc vs vs'):∀(j:Nat) v',vs'[j]? =aA v'->∃v,vs[j]? =aA v/\Bor Γ Hc v v':=by
 induction h with
 |nil=>intro j v' hj;simp at hj
 |cons h1 _ ih=>
  intro j v' hj
  cases j with
  |zero=>simp only[lY,aA.injEq]at hj;subst hj;exact⟨_,rfl,h1⟩
  |succ j=>simp only[fY]at hj⊢;exact ih j v' hj
def zX(h:clean v=aB):Bor Γ Hc v v:=λ w G ρ H A cv _ _ hv=>
 (IY hv h).mono (λ _ h=> .inl h) (λ _ _=>rfl) (λ _ _=>rfl) (λ _ h=>h) (λ _ h=>h.elim)
def aWC:AVal->Bool
 | .lit _=>aB
 | .agg cs=>cs.all λ v=>match v with| .lit _=>aB|_=>aF
 |_=>aF
def bBB:AVal->Bool
 | .tup vs=>vs.all aWC
 |v=>aWC v
def aLR(h:V w G ρ A v cv)(hl:aWC v=aB):V w' G' ρ' A' v cv:=by
 cases v with
 |lit u=>cases h;exact .lit
 |agg cs=>
  cases h with
  |agg h1 h2=>
   refine .agg h1 λ j u hj=>?_;have h3:=iR hl hj;have h4:=h2 j u hj
   cases u with
   |lit x=>have e:=iB h4;rw[e];exact .lit
   |_=>cases h3
 |_=>cases hl
def aWB(h:V w G ρ A v cv)(hl:bBB v=aB):V w' G' ρ' A' v cv:=by
 cases v with
 |tup vs=>
  cases h with
  |tup h1 h2=>exact .tup h1 λ j u hj=>aLR (h2 j u hj) (iR hl hj)
 |_=>exact aLR h hl
section
variable{P:Program}{Γ:dW}{o:Oper}{ev:Operand->Option AVal}{get:Nat->Option Blk}{k:Nat}
def aKK{f:Operand}{g:FuncId}{r:AVal}
 (ho:o.op= .call {callee:= .value f,args:=args,argTypes:=ty}) (hg:aX P g=aB) (hf:ev f=aA (.fn g [])) (ha:qH ev args.toList=aA vs)
 (hb:BorL Γ Hc vs vs') (hin:∀id B,AM.look Hc id=aA B->get id=aA B) (hr:bBB r=aB) (hp:Pure P Γ g vs' r):Good P Γ o ev get k ⟨r,k,[],Hc.map (·.1)⟩:=by
 refine⟨?_,λ id hid=>by simp only[dM]at hid;obtain⟨x,hx,rfl⟩:=hid;obtain⟨y,hy⟩:=DF hx;rw[hin _ y hy];rfl,aJ _⟩
 intro w G ρ H A a hrl hA hfr hrd hop next Q hn
 have hvf:=hop f pC _ hf;have hVs:=ZS (a:=a) (w:=w) (G:=G) (ρ:=ρ) (A:=A) ha λ x hx v hv=>hop x (by simp[ho,Op.operands,Call.operands,hx]) v hv;have hHc:Holds Hc H A:=λ id B hB=>by obtain⟨B',A',h1,h2,h3⟩:=hrd id (by simp only[dM];exact⟨(id,B),HY hB,rfl⟩);rw[hin id B hB]at h1;cases h1;exact⟨A',h2,h3⟩
 obtain⟨cs,hcv,hcs⟩:∃cs,a.eval f= .func (.func g) #[] cs/\cs= #[]:=by
  generalize a.eval f=cv at hvf
  cases hvf with
  |fn h1 h2=>exact⟨_,rfl,kH (by simpa using h1.symm)⟩
 subst hcs;have hlt:∀b,RU Hc ρ b->b<w.heap.size/\¬G b:=λ b ⟨id,B,s,h1,h2⟩=>⟨hrl.owned_lt ⟨id,s,h2⟩,hrl.owned_not_ro ⟨id,s,h2⟩⟩
 have hrel1:HRel Γ w (λ b=>G b\/RU Hc ρ b) bX (bK [] cQ):=
  ⟨λ _ _=>rfl,(λ id B A' hid=>by simp[bK,look]at hid),(λ i j b s t h=>by cases h),λ b hb=>hb.elim (hrl.ro b) (λ h=>(hlt b h).1),(λ g' cells hg'=>by obtain⟨h1,h2,h3⟩:=hrl.glob g' cells hg';exact⟨h1.mono (λ _ h=> .inl h) (λ _ _=>rfl) (λ _ _=>rfl) (λ _ h=>h) (λ _ h=>h.elim),.inl h2,h3⟩)⟩
 have hVs1:Vs w (λ b=>G b\/RU Hc ρ b) bX cQ vs' (args.map a.eval):=⟨by rw[<-hb.len];exact hVs.1,λ j v' hj=>by obtain⟨v,h1,h2⟩:=hb.get j v' hj;exact h2 w G ρ H A _ hrl hHc (hVs.2 j v h1)⟩
 have hcall:=hp k cQ (λ i hi=>hi.elim) w _ bX (args.map a.eval) hrel1 hVs1;unfold Oper.wp;rw[aBJ ho hg a #[] hcv w,Array.append_empty];refine hcall.mono λ e w' hq=>?_;obtain⟨cv,G',ρ',k',r',H',rfl,⟨rfl,rfl,rfl⟩,_,hrel',hV',hst'⟩:=hq;have hkeep:∀b,b<w.heap.size->w'.heap[b]? =w.heap[b]? :=λ b hb=>hst'.keep b hb (λ⟨i,s,h⟩=>by cases h)
 have hst:Step (λ i=>¬(k'<=i/\i<k')) w G ρ w' (λ b=>G b\/(w.heap.size<=b/\G' b)) ρ:=
  ⟨hst'.size,λ b hb _=>hkeep b hb,hst'.shape,λ _ h=> .inl h,λ b h=>h.elim .inl (λ h=> .inr (.inr h.1)),λ _ h=> .inl h,λ _ _=> .inr rfl,hst'.os,hst'.tape,hst'.output⟩
 refine hn w' _ ρ cv ?_ (aWB hV' hr) hst;refine hrl.after hst H hrl.dom (λ id B A1 hid=>?_) hrl.inj (λ b hb=>hb.elim (λ h=>oW (hrl.ro b h) hst'.size) (λ h=>hrel'.ro b h.2));obtain⟨h1,b,h2,h3,_⟩:=hrl.blk id B A1 hid;have hbl:=hrl.owned_lt ⟨id,_,h2⟩;exact⟨h1,.inl ⟨A1,b,hid,λ _ h=>h,λ i _ hc=>oO,rfl,h2,hkeep b hbl,λ h=>h.elim h3 (λ h=>oO)⟩⟩
def Bor.ptr{row:List AVal}{cells:List AVal}(hB:AM.look Hc id=aA B)(hrow:B.rows[r]? =aA row)(hl:cells.length=row.length)(h:∀(j:Nat) v v',row[j]? =aA v->cells[j]? =aA v'->Bor Γ Hc v v'):Bor Γ Hc (.ptr id r 0) (.rp cells):=λ w G ρ H A cv hr hh hv=>by
 obtain⟨A',hH,hAA⟩:=hh id B hB;obtain⟨_,b,hb,_,hBR⟩:=hr.blk id B A' hH
 cases hv with
 |dang _ hn=>rw[hb]at hn;cases hn
 |ptr ha hρ hsh=>
  rw[hb]at hρ;cases hρ;obtain⟨⟨C,ty,hC,hrows⟩,hlen⟩:=hBR.old hsh
  have key:∀(j:Nat) v',cells[j]? =aA v'->∃v cu,row[j]? =aA v/\C[r*B.sz+j]? =aA cu/\V w G ρ A v cu:=λ j v' hj=>by
   have hlt:=(aL.1 hj).1;have hu:row[j]? =aA row[j]:=aN oO;obtain⟨cu,h3,h4⟩:=hrows r row j _ hrow hu;refine⟨_,cu,hu,h3,?_⟩;by_cases hp:B.pure=aB;.simp only[hp,if_true]at h4;exact h4.weaken
   simp only[hp]at h4;exact h4.mono (λ _ h=>h) (λ _ _=>rfl) (λ _ _=>rfl) hAA (λ _ _=> .inr rfl)
  refine .rp (λ j=>C.getD (r*B.sz+j) undef) (.inr ⟨id,B,_,hB,hb⟩) (λ j v' hj=>?_) (λ j v' hj=>?_);.obtain⟨v,cu,_,h3,_⟩:=key j v' hj;rw[kG,cell_of_row w b _ C ty (0,0) hC,h3,aM,h3];rfl
  obtain⟨v,cu,h2,h3,h4⟩:=key j v' hj;have e:C.getD (r*B.sz+j) undef=cu:=by rw[aM,h3];rfl
  rw[e];exact h j v v' h2 hj w G ρ H A cu hr hh h4
def Bor.sl{n:Nat}(hB:AM.look Hc id=aA B)(hn:r+n<=B.rows.length)(hl:∀i,i<n->(F i).length=B.sz)
 (h:∀(i:Nat) row (j:Nat) v v',i<n->B.rows[r+i]? =aA row->row[j]? =aA v->(F i)[j]? =aA v'->Bor Γ Hc v v'):Bor Γ Hc (.sl id r n) (.rd B.sz n F):=λ w G ρ H A cv hr hh hv=>by
 obtain⟨A',hH,hAA⟩:=hh id B hB
 obtain⟨_,b,hb,_,hBR⟩:=hr.blk id B A' hH
 cases hv with
 |dangs _ hn=>rw[hb]at hn;cases hn
 |sl0=>exact .rd0
 | sl ha hρ hsh hm hn1 hc hoff=>
   rw[hb]at hρ;cases hρ
   rename_i cap off
   obtain⟨⟨C,ty,hC,hrows⟩,hlen⟩:=hBR.old hsh
   by_cases h0:n=0
   · subst h0;exact .rd0
   have hoff':off=r*B.sz:=hoff.resolve_left oO
   subst hoff'
   have key:∀(i j:Nat) v',i<n->(F i)[j]? =aA v'->∃row v cu,B.rows[r+i]? =aA row/\row[j]? =aA v/\C[(r+i)*B.sz+j]? =aA cu/\V w G ρ A v cu:=λ i j v' hi hj=>by
    have hrow:B.rows[r+i]? =aA B.rows[r+i]:=aN oO;have hlr:=hlen _ _ hrow;have hlt:=(aL.1 hj).1;rw[hl i hi]at hlt;have hu:B.rows[r+i][j]? =aA (B.rows[r+i][j]'oO):=aN oO;obtain⟨cu,h3,h4⟩:=hrows (r+i) _ j _ hrow hu;refine⟨_,_,cu,hrow,hu,h3,?_⟩;by_cases hp:B.pure=aB;.simp only[hp,if_true]at h4;exact h4.weaken
    simp only[hp]at h4;exact h4.mono (λ _ h=>h) (λ _ _=>rfl) (λ _ _=>rfl) hAA (λ _ _=> .inr rfl)
   refine .rd (λ i j=>C.getD ((r+i)*B.sz+j) undef) (.inr ⟨id,B,_,hB,hb⟩) hn1 oO hl (λ i j v' hi hj=>?_) (λ i j v' hi hj=>?_)
   · obtain⟨row,v,cu,_,_,h3,_⟩:=key i j v' hi hj
     have e:r*B.sz+i*B.sz+j=(r+i)*B.sz+j:=by rw[cW]
     rw[e,cell_of_row w b _ C ty (0,0) hC,h3,aM,h3];rfl
   · obtain⟨row,v,cu,h1,h2,h3,h4⟩:=key i j v' hi hj
     have e:C.getD ((r+i)*B.sz+j) undef=cu:=by rw[aM,h3];rfl
     rw[e]
     exact h i row j v v' hi h1 h2 hj w G ρ H A cu hr hh h4
end
def nub:List Nat->List Nat
 |[]=>[]
 |a::r=>if(nub r).contains a then nub r else a::nub r
def mem_nub{x:Nat}:∀ {l:List Nat},x∈nub l↔x∈l
 |[]=>Iff.rfl
 |a::r=>by
  have ih:=mem_nub (x:=x) (l:=r);rw[nub];split
  .rename_i h;rw[bQS]at h;rw[ih,fO];constructor;.exact .inr
   rintro(rfl|h2);.exact mem_nub.1 h
   exact h2
  rw[fO,fO,ih]
def aBZ{g:Nat->Nat}{y:Nat}:∀ {l:List Nat},l≠[]->(∀x,x∈l->g x=y)->nub (l.map g)=[y]
 |[],h,_=>absurd rfl h
 |[a],_,h=>by simp[nub,h a]
 |a::b::r,_,h=>by have ih:=aBZ (g:=g) (y:=y) (l:=b::r) sS (λ x hx=>h x (dZ _ hx));rw[bN,nub,ih,h a (List.mem_cons_self ..)];simp
def shN(g:Nat->Nat)(f:Foot):List Nat×List Nat:=(nub (f.rds.map g),f.mods.map g)
def yS{a a' b b':List Nat}(ha:∀x,x∈a->x∈a')(hb:∀x,x∈b->x∈b')(h:lA a' b'=aF):lA a b=aF:=by
 cases hm:lA a b with
 |false=>rfl
 |true=>
  unfold lA at hm h;obtain⟨x,hx,hxb⟩:=aOB.1 hm
  have:(a'.any λ y=>b'.contains y)=aB:=aOB.2 ⟨x,ha x hx,by
   rw[bQS]at hxb⊢
   exact hb x hxb⟩
  rw[this]at h;cases h
def a6H{oj oi:Oper}{fj fi:Foot}(h:BB ops oj (shN g fj) oi (shN g fi)=aF):nM ops oj fj oi fi=aF:=by refine ZK (g:=g) ?_;simp only[BB,gA,shN]at h;simp only[BB,gA,shG];obtain⟨⟨⟨⟨⟨h1,h2⟩,h3⟩,h4⟩,h5⟩,h6⟩:=h;exact⟨⟨⟨⟨⟨h1,h2⟩,h3⟩,yS (λ _ h=>h) (λ _ h=>mem_nub.2 h) h4⟩,h5⟩,yS (λ _ h=>mem_nub.2 h) (λ _ h=>h) h6⟩
def bIG(g:Nat->Nat)(hL:tr.map (shN g)=L)(h:FT ops L=aB:=by decide+kernel)(hm:(tr.all λ f=>f.mods.all λ x=>decide (x<f.k'))=aB:=by simp-dsimp-implicitDefEqProofs (disch:=omega)only[go_sem,iO,TC,ltB_iff,aQ,↓reduceIte]):lE ops tr=aB:=by
 subst hL;simp only[FT,aY]at h;simp only[lE,aY];intro i hi;have h1:=h i hi;rw[aV]at h1
 cases ho:ops[i]? with
 |none=>rw[ho]at h1;simp at h1
 |some oi=>
  cases ht:tr[i]? with
  |none=>rw[ho,ht]at h1;simp at h1
  |some fi=>
   rw[ho,ht]at h1;simp only[bO,aO,aY]at h1;simp only[aO,aY];refine⟨⟨h1.1,?_⟩,λ j hj=>?_⟩;.have:=aY.1 hm fi (gL ht);exact λ x hx=>aY.1 this x hx
   have h2:=h1.2 j hj;rw[aV]at h2
   cases hoj:ops[j]? with
   |none=>rw[hoj]at h2;simp at h2
   |some oj=>
    cases htj:tr[j]? with
    |none=>rw[hoj,htj]at h2;simp at h2
    |some fj=>
     rw[hoj,htj]at h2;simp only[bO,gQ,dV]at h2;simp only[gQ,dV];rcases h2 with h2|h2;.exact .inl (a6H h2)
     exact .inr h2
end Go.AM
end
section
namespace Go.AM
variable{ops:Array Oper}{L:List (List Nat×List Nat)}{tr:List Foot}{keep:List Nat}{os:List Orc}{g:Nat->Nat}{A B P1 P10 P11 P12 P2 P3 P4 P5 P6 P7 P8 P9 Q:Prop}
def aYE(_:Kp keep g)(hL:tr.map (shN g)=L)(h:FT ops L=aB:=by decide+kernel)(hm:(tr.all λ f=>f.mods.all λ x=>decide (x<f.k'))=aB:=by simp-dsimp-implicitDefEqProofs (disch:=omega)only[go_sem,iO,TC,ltB_iff,aQ,bN,bV,↓reduceIte]):lE ops tr=aB:=bIG g hL h hm
def uV(p:Hd P1/\Hd P2/\Hd P3/\Hd P4/\Hd P5/\Hd P6/\Hd P7/\Hd P8/\Hd P9/\Hd P10/\Hd P11/\Hd P12)
 (h:Hd P1->Hd P2->Hd P3->Hd P4->Hd P5->Hd P6->Hd P7->Hd P8->Hd P9->Hd P10->Hd P11->Hd P12->Q:=by
 intro a1 a2 a3 a4 a5 a6 a7 a8 a9 a10 a11 a12;refine two ?_ ?_;·(repeat'(first|(refine iG rfl ?_)|(refine BN rfl ?_)|(refine BM rfl ?_;(try simp-dsimp-implicitDefEqProofs (disch:=omega)only[go_sem,iO,uU,↓reduceIte]))|(refine GW rfl ?_;(try simp-dsimp-implicitDefEqProofs (disch:=omega)only[go_sem,iO,uU,↓reduceIte]))|(refine uQ rfl _ rfl (λ zt=>?_) (λ zt=>?_)<;>(try(simp only[nf]at zt))<;>(try(exfalso;omega)))|((first|(refine ZZ kp rfl rfl rfl (λ zK hK=>?_))|(refine aAA kp rfl rfl kRf rfl (λ zK hK=>?_)));simp-dsimp-implicitDefEqProofs (disch:=omega)only[go_sem,iO,uU,↓reduceIte];(repeat'(first|(refine And.intro ?_ ?_)|(refine lR (λ hb=>?_) (λ hb=>?_)<;>(have zg:=hb;(try simp only[nfb]at zg);simp-dsimp-implicitDefEqProofs (disch:=omega)only[go_sem,iO,uU,hb,zg,↓reduceIte];clear hb;(try simp only[nfe]at zg)))));any_goals ((first|refine hK _ _ _ _ (λ hx=>?_)|refine hK _ _ _ _ (ZA kp) (λ hx=>?_)|refine hK _ _ _ _ (aYE kp (by(simp-dsimp (disch:=omega)only[bN,bV,shN,iO,nq3,nq4,kJ,TT,uU,eq_self,↓reduceIte];rfl))) (λ hx=>?_));clear hx hK;simp-dsimp-implicitDefEqProofs (disch:=omega)only[go_sem,iO,uU,↓reduceIte];(try simp(disch:=omega)only[wrap_i64,wrap_u64,wrap_u32,oS])))|omega));all_goals(refine Hd.o ?_;(repeat revert zg);refine Hd.o ?_;(repeat revert zt);exact HR a1 a2 a3 a4 a5 a6 a7 a8 a9 a10 a11 a12)
 exact HQ a1 a2 a3 a4 a5 a6 a7 a8 a9 a10 a11 a12):Q:=h p.1 p.2.1 p.2.2.1 p.2.2.2.1 p.2.2.2.2.1 p.2.2.2.2.2.1 p.2.2.2.2.2.2.1 p.2.2.2.2.2.2.2.1 p.2.2.2.2.2.2.2.2.1 p.2.2.2.2.2.2.2.2.2.1 p.2.2.2.2.2.2.2.2.2.2.1 p.2.2.2.2.2.2.2.2.2.2.2
def bIQ(ox:Os os)(p:Hd P1/\Hd P2/\Hd P3/\Hd P4/\Hd P5/\Hd P6/\Hd P7/\Hd P8/\Hd P9/\Hd P10/\Hd P11/\Hd P12)
 (h:Os os->Hd P1->Hd P2->Hd P3->Hd P4->Hd P5->Hd P6->Hd P7->Hd P8->Hd P9->Hd P10->Hd P11->Hd P12->Q:=by
 intro oo a1 a2 a3 a4 a5 a6 a7 a8 a9 a10 a11 a12;refine two ?_ ?_;·(refine aJS kp oo rfl rfl (λ zK hK=>?_));simp-dsimp-implicitDefEqProofs (disch:=omega)only[go_sem,iO,uU,↓reduceIte];(repeat'(first|(refine And.intro ?_ ?_)|(refine lR (λ hb=>?_) (λ hb=>?_)<;>(have zg:=hb;(try simp only[nfb]at zg);simp-dsimp-implicitDefEqProofs (disch:=omega)only[go_sem,iO,uU,hb,zg,↓reduceIte];clear hb;(try simp only[nfe]at zg)))));(any_goals ((refine hK _ _ _ _ (λ hx=>?_));clear hx hK;simp-dsimp-implicitDefEqProofs (disch:=omega)only[go_sem,iO,uU,↓reduceIte];(try simp(disch:=omega)only[wrap_i64,wrap_u64,wrap_u32,oS])));(all_goals(try omega));all_goals(refine Hd.o ?_;(repeat revert zg);refine Hd.o ?_;(repeat revert zt);exact HR a1 a2 a3 a4 a5 a6 a7 a8 a9 a10 a11 a12)
 exact HQ a1 a2 a3 a4 a5 a6 a7 a8 a9 a10 a11 a12):Q:=h ox p.1 p.2.1 p.2.2.1 p.2.2.2.1 p.2.2.2.2.1 p.2.2.2.2.2.1 p.2.2.2.2.2.2.1 p.2.2.2.2.2.2.2.1 p.2.2.2.2.2.2.2.2.1 p.2.2.2.2.2.2.2.2.2.1 p.2.2.2.2.2.2.2.2.2.2.1 p.2.2.2.2.2.2.2.2.2.2.2
def bII(ox:Os os)(p:Hd P1/\Hd P2/\Hd P3/\Hd P4/\Hd P5/\Hd P6/\Hd P7/\Hd P8/\Hd P9/\Hd P10/\Hd P11/\Hd P12)
 (h:Os os->Hd P1->Hd P2->Hd P3->Hd P4->Hd P5->Hd P6->Hd P7->Hd P8->Hd P9->Hd P10->Hd P11->Hd P12->Q:=by
 intro oo a1 a2 a3 a4 a5 a6 a7 a8 a9 a10 a11 a12;refine two ?_ ?_;·(refine aJT kp oo rfl kRf rfl (λ zK hK=>?_));simp-dsimp-implicitDefEqProofs (disch:=omega)only[go_sem,iO,uU,↓reduceIte];(repeat'(first|(refine And.intro ?_ ?_)|(refine lR (λ hb=>?_) (λ hb=>?_)<;>(have zg:=hb;(try simp only[nfb]at zg);simp-dsimp-implicitDefEqProofs (disch:=omega)only[go_sem,iO,uU,hb,zg,↓reduceIte];clear hb;(try simp only[nfe]at zg)))));(any_goals ((first|refine hK _ _ _ _ (ZA kp) (λ hx=>?_)|refine hK _ _ _ _ (aYE kp (by(simp-dsimp (disch:=omega)only[bN,bV,shN,iO,nq3,nq4,kJ,TT,uU,eq_self,↓reduceIte];rfl))) (λ hx=>?_));clear hx hK;simp-dsimp-implicitDefEqProofs (disch:=omega)only[go_sem,iO,uU,↓reduceIte];(try simp(disch:=omega)only[wrap_i64,wrap_u64,wrap_u32,oS])));(all_goals(try omega));all_goals(refine Hd.o ?_;(repeat revert zg);refine Hd.o ?_;(repeat revert zt);exact HR a1 a2 a3 a4 a5 a6 a7 a8 a9 a10 a11 a12)
 exact HQ a1 a2 a3 a4 a5 a6 a7 a8 a9 a10 a11 a12):Q:=h ox p.1 p.2.1 p.2.2.1 p.2.2.2.1 p.2.2.2.2.1 p.2.2.2.2.2.1 p.2.2.2.2.2.2.1 p.2.2.2.2.2.2.2.1 p.2.2.2.2.2.2.2.2.1 p.2.2.2.2.2.2.2.2.2.1 p.2.2.2.2.2.2.2.2.2.2.1 p.2.2.2.2.2.2.2.2.2.2.2
def fW(b:B)(h:Hd B->Q:=by intro b1;refine uV ?_;exact zqa (Hd.o b1)):Q:=h ⟨b⟩
def fC{X:Sort _}{G:X->Prop}(b:∀t,G t)(h:Hd (∀t,G t)->Q:=by intro b1;refine uV ?_;exact zqb (Hd.o b1)):Q:=h ⟨b⟩
def mS(os:List Orc)(b:B)(h:Os os->Hd B->Q:=by intro oo b1;refine bIQ oo ?_;exact Hd.o b1):Q:=h ⟨⟩ ⟨b⟩
def sJ(os:List Orc)(b:B)(h:Os os->Hd B->Q:=by intro oo b1;refine bIQ oo ?_;exact zqa (Hd.o b1)):Q:=h ⟨⟩ ⟨b⟩
def RD(os:List Orc)(b:B)(h:Os os->Hd B->Q:=by intro oo b1;refine bII oo ?_;exact Hd.o b1):Q:=h ⟨⟩ ⟨b⟩
def GJ(os:List Orc)(b:B)(h:Os os->Hd B->Q:=by intro oo b1;refine bII oo ?_;exact zqa (Hd.o b1)):Q:=h ⟨⟩ ⟨b⟩
def mX(b:Hd B)(h:Hd B->A:=by
 intro b1;refine two ?_ ?_;·(simp-dsimp-implicitDefEqProofs (disch:=omega)only[go_sem,iO,uU,↓reduceIte])<;>exact Hd.o (Hd.o b1)
 (try have zz:Hd True:=b1);exact trivial):A:=h b
def fM(b:B)(h:Hd B->A:=by intro b1;refine mX ?_;exact⟨b1⟩):A:=h ⟨b⟩
end Go.AM
end
section
namespace Go.AM
open Go.Proofs
variable{l:List (List AVal)}{id k:Nat}{y:Option AVal}{H0:aS}
@[go_sem] def yC0:EZ aG 30=aC/\kK aG 30=aA aB/\pG aG 30=aA 7/\aX aG 13=aB/\EZ aG 36=aC/\kK aG 36=aA aB/\pG aG 36=aA 6/\jP aG 30=aA [aD (aE aH 0),aD (aE aI 0),aD (aP aC 0 0),aD (aP aC 0 0),aD (aP aC 0 0),aD (aP aC 0 0),aD (aP aC 0 0)]/\aX aG 18=aB/\jP aG 36=aA [aD (aP aC 0 0),aD (aP aC 0 0),aD (aP aC 0 0),aD (aP aC 0 0),aD (aP aC 0 0),aD (aP aC 0 0)]/\iZ aG 30=aB/\iZ aG 36=aB/\EZ aG 55=aC/\kK aG 55=aA aB/\pG aG 55=aA 13/\aX aG 20=aB/\aX aG 21=aB/\wH aG 5=aA bM/\wH aG 3=aA aH/\qG aG 3=aF/\aX aG 22=aB/\cC aG 30 1=aA 3/\kK aG 26=aA aF/\pG aG 26=aA 1/\gK aG 26=aB:=by and_intros<;>kernel_rfl
@[go_sem] def yC1:aX aG 23=aB/\aX aG 24=aB/\aX aG 25=aB/\FO aG 4=aA 1/\cC aG 36 0=aA 0/\kK aG 33=aA aF/\pG aG 33=aA 1/\gK aG 33=aB/\cC aG 36 5=aA 5/\kK aG 34=aA aF/\pG aG 34=aA 1/\gK aG 34=aB/\gK aG 56=aB/\DQ aG 56=aA 8/\aX aG 30=aB/\aX aG 29=aB/\yQ aG 73=aA 0/\aX aG 31=aB/\aX aG 32=aB/\gK aG 78=aB/\DQ aG 78=aA 8/\kK aG 81=aA aB/\pG aG 81=aA 8/\jP aG 81=aA [aD (aE bM 0),aD (aE aH 0),aD (aE aH 0),aD (aE aH 0),aD (aE aH 0),aD (aE aH 0),aD (aE aH 0),aD (aE aI 0)]/\EZ aG 81=aC:=by and_intros<;>kernel_rfl
@[go_sem] def yC2:aX aG 33=aB/\DQ aG 26=aA 1/\pG aG 3=aA 1/\jP aG 87=aA [aD (aE aH 0),aD (aE aH 0)]/\iZ aG 87=aB/\cC aG 30 0=aA 0/\cC aG 25 0=aA 0/\kK aG 3=aA aF/\cC aG 25 1=aA 1/\kK aG 22=aA aF/\pG aG 22=aA 1/\cC aG 25 2=aA 2/\kK aG 23=aA aF/\pG aG 23=aA 1/\gK aG 23=aB/\jP aG 89=aA [aD (aE aH 0),aD (aE aH 0),aD (aE aH 0),aD (aE aH 0),aD (aE aI 0),aD (bC aF),aD (aE aI 0),aD (aE aT 0)]/\iZ aG 89=aB/\jP aG 93=aA [aD (aE aH 0),aD (aE aH 0),aD (aE aI 0),aD (aE aT 0),aD (aE aI 0)]/\iZ aG 93=aB/\kK aG 27=aA aF/\pG aG 27=aA 1/\gK aG 27=aB/\cC aG 36 4=aA 4/\jP aG 111=aA [aD (aE aH 0),aD (aE aH 0)]/\iZ aG 111=aB:=by and_intros<;>kernel_rfl
@[go_sem] def yC3:iD aG 23=aA (2,16,[aD (aE aH 0),aD (aE aH 0)])/\jP aG 25=aA [aD (aE aH 0),aD (aE aI 0),aD (aP aC 0 0)]/\iZ aG 25=aB/\cC aG 30 2=aA 4/\cC aG 30 3=aA 5/\cC aG 30 4=aA 6/\kK aG 28=aA aF/\pG aG 28=aA 1/\DQ aG 28=aA 1/\kK aG 112=aA aF/\pG aG 112=aA 1/\DQ aG 112=aA 3/\cC aG 91 2=aA 2/\kK aG 5=aA aF/\pG aG 5=aA 1/\gK aG 28=aB/\DQ aG 23=aA 2/\cC aG 111 1=aA 1/\kK aG 91=aA aB/\pG aG 91=aA 3/\uL aG 91=aA [(0,0),(1,0),(2,0)]/\DQ aG 27=aA 8/\cC aG 89 0=aA 0/\EZ aG 89=aC/\pG aG 89=aA 8:=by and_intros<;>kernel_rfl
@[go_sem] def yC4:kK aG 89=aA aB/\uL aG 89=aA [(0,0),(1,0),(2,0),(3,0),(4,0),(5,1),(6,0),(7,0)]/\cC aG 36 1=aA 1/\cC aG 36 2=aA 2/\cC aG 36 3=aA 3/\jP aG 91=aA [aD (aE aI 0),aD (aE aT 0),aD (aE aI 0)]/\iZ aG 91=aB/\aX aG 51=aB/\gK aG 122=aB/\DQ aG 122=aA 3/\kK aG 125=aA aB/\pG aG 125=aA 3/\jP aG 125=aA [aD (aE bM 0),aD (aE aH 0),aD (aE aH 0)]/\EZ aG 125=aC/\cC aG 125 0=aA 0/\aX aG 52=aB/\aX aG 54=aB/\aX aG 53=aB/\aX aG 55=aB/\aX aG 57=aB/\aX aG 56=aB/\aX aG 58=aB/\jP aG 3=aA [aD (aE aH 0)]/\EZ aG 3=aC/\aX aG 60=aB:=by and_intros<;>kernel_rfl
@[go_sem] def yC5:aX aG 59=aB/\aX aG 61=aB/\aX aG 62=aB/\DQ aG 33=aA 2/\kK aG 87=aA aB/\pG aG 87=aA 2/\EZ aG 87=aC/\cC aG 87 0=aA 0/\cC aG 87 1=aA 1/\aX aG 64=aB/\aX aG 63=aB/\aX aG 68=aB/\aX aG 69=aB/\DQ aG 34=aA 5/\kK aG 93=aA aB/\pG aG 93=aA 5/\EZ aG 93=aC/\cC aG 93 0=aA 0/\cC aG 93 1=aA 1/\cC aG 93 2=aA 2/\aX aG 70=aB/\aX aG 71=aB/\aX aG 72=aB/\aX aG 73=aB/\aX aG 74=aB:=by and_intros<;>kernel_rfl
@[go_sem] def yC6:aX aG 75=aB/\jP aG 147=aA [aD (aE aH 0),aD (aE aI 0),aD (aP aC 0 0),aD (aP aC 0 0),aD (aP aC 0 0),aD (aP aC 0 0),aD (aP aC 0 0),aD (bC aF)]/\iZ aG 147=aB/\EZ aG 147=aC/\aX aG 76=aB/\cC aG 89 5=aA 5/\kK aG 4=aA aF/\pG aG 4=aA 1/\cC aG 89 3=aA 3/\aX aG 77=aB/\jP aG 150=aA [aD (aE aI 0),aD (aE aI 0),aD (aE aI 0)]/\EZ aG 150=aA (3,1)/\pG aG 150=aA 3/\kK aG 150=aA aB/\aX aG 78=aB/\kK aG 25=aA aB/\pG aG 25=aA 3/\aX aG 79=aB/\aX aG 80=aB/\aX aG 81=aB/\aX aG 82=aB/\EZ aG 25=aC/\aX aG 86=aB/\iD aG 112=aA (3,24,[aD (aE aI 0),aD (aE aT 0),aD (aE aI 0)])/\iD aG 28=aA (1,24,[aD (aP aC 0 0)]):=by and_intros<;>kernel_rfl
@[go_sem] def yC7:aX aG 87=aB/\cC aG 55 0=aA 0/\cC aG 55 2=aA 2/\kK aG 50=aA aF/\pG aG 50=aA 1/\wH aG 50=aA aT/\wH aG 22=aA aI/\qG aG 22=aF/\cC aG 55 1=aA 1/\cC aG 55 3=aA 3/\EZ aG 51=aA (5,1)/\cC aG 55 4=aA 8/\EZ aG 53=aA (5,1)/\kK aG 52=aA aF/\pG aG 52=aA 1/\wH aG 52=aA IntKind.u16/\cC aG 147 1=aA 7/\cC aG 147 0=aA 0/\kK aG 162=aA aB/\pG aG 162=aA 8/\jP aG 162=aA [aD (aE bM 0),aD (aE bM 0),aD (aE bM 0),aD (aE bM 0),aD (aE bM 0),aD (aE IntKind.u16 0),aD (aE aT 0),aD (aE bM 0)]/\EZ aG 162=aC/\cC aG 162 1=aA 1/\cC aG 162 2=aA 2/\cC aG 162 3=aA 3:=by and_intros<;>kernel_rfl
@[go_sem] def yC8:cC aG 162 4=aA 4/\cC aG 162 5=aA 5/\cC aG 162 6=aA 6/\cC aG 162 7=aA 7/\iZ aG 81=aB/\cC aG 81 5=aA 5/\cC aG 81 7=aA 7/\cC aG 81 1=aA 1/\jP aG 163=aA [aD (aE bM 0),aD (aE bM 0),aD (aE bM 0),aD (aE bM 0),aD (aE bM 0),aD (aE bM 0),aD (aE bM 0),aD (aE bM 0),aD (aE bM 0),aD (aE bM 0),aD (aE bM 0),aD (aE bM 0),aD (aE bM 0),aD (aE bM 0),aD (aE bM 0),aD (aE bM 0),aD (aE bM 0),aD (aE bM 0),aD (aE bM 0),aD (aE bM 0)]/\iZ aG 163=aF/\aEM aG 163=aA (20,1,aF)/\cC aG 162 0=aA 0/\cC aG 81 0=aA 0/\iD aG 164=aA (1,8,[aD Value.nilFunc])/\gK aG 164=aB/\DQ aG 164=aA 1/\kK aG 83=aA aF/\pG aG 83=aA 1/\aX aG 97=aB/\gK aG 112=aB/\cC aG 89 1=aA 1/\cC aG 89 2=aA 2/\cC aG 89 4=aA 4/\cC aG 89 6=aA 6/\cC aG 89 7=aA 7:=by and_intros<;>kernel_rfl
@[go_sem] def yC9:cC aG 91 0=aA 0/\cC aG 91 1=aA 1/\cC aG 111 0=aA 0/\pG aG 111=aA 2/\aX aG 113=aB/\aX aG 115=aB/\aX aG 114=aB/\iZ aG 125=aB/\jP aG 183=aA [aD (aE aH 0),aD (aE aI 0),aD (aP aC 0 0),aD (aP aC 0 0),aD (aP aC 0 0),aD (aP aC 0 0),aD (aP aC 0 0),aD (aP aC 0 0)]/\iZ aG 183=aB/\EZ aG 183=aC/\aX aG 116=aB/\EZ aG 91=aC/\aX aG 117=aB/\kK aG 111=aA aB/\EZ aG 111=aC/\uL aG 111=aA [(0,0),(1,0)]/\wH aG 189=aA aI/\qG aG 189=aF/\aX aG 120=aB/\aX aG 121=aB/\aX aG 122=aB/\aX aG 123=aB/\aX aG 124=aB/\aX aG 125=aB:=by and_intros<;>kernel_rfl
@[go_sem] def bSQ:aX aG 65=aB/\aX aG 67=aB/\aX aG 66=aB/\aX aG 126=aB/\aX aG 127=aB/\aX aG 128=aB/\aX aG 129=aB/\aX aG 130=aB/\uL aG 87=aA [(0,0),(1,0)]/\aX aG 131=aB/\aX aG 132=aB/\aX aG 134=aB/\aX aG 133=aB/\aX aG 135=aB/\aX aG 136=aB/\aX aG 137=aB/\iZ aG 150=aF/\aEM aG 150=aA (3,1,aF)/\jP aG 4=aA [aD (bC aF)]/\EZ aG 4=aC/\aX aG 139=aB/\aX aG 141=aB/\aX aG 142=aB/\aX aG 143=aB/\qG aG 50=aF:=by and_intros<;>kernel_rfl
@[go_sem] def bSP:aX aG 156=aB/\aX aG 157=aB/\cC aG 81 2=aA 2/\aX aG 158=aB/\cC aG 81 3=aA 3/\cC aG 81 4=aA 4/\aX aG 159=aB/\aX aG 160=aB/\aX aG 161=aB/\aX aG 162=aB/\jP aG 201=aA [aD (aE aI 0),aD (aE aT 0),aD (aE aT 0)]/\EZ aG 201=aC/\pG aG 201=aA 3/\kK aG 201=aA aB/\aX aG 163=aB/\aX aG 164=aB/\aX aG 165=aB/\aX aG 166=aB/\aX aG 167=aB/\aX aG 168=aB/\cC aG 81 6=aA 6/\aX aG 169=aB/\cC aG 201 0=aA 0/\cC aG 201 1=aA 1/\aX aG 171=aB:=by and_intros<;>kernel_rfl
@[go_sem] def bSO:aX aG 172=aB/\aX aG 173=aB/\gK aG 171=aB/\DQ aG 171=aA 1/\aX aG 190=aB/\iD aG 255=aA (1,8,[aD Value.nilFunc])/\aX aG 191=aB/\aX aG 192=aB/\aX aG 193=aB/\aX aG 194=aB/\jP aG 256=aA [aD (aP aC 0 0),aD (aP aC 0 0),aD (aP aC 0 0)]/\iZ aG 256=aF/\aEM aG 256=aA (3,1,aF)/\EZ aG 256=aA (3,1)/\pG aG 256=aA 3/\kK aG 256=aA aB/\gK aG 255=aB/\DQ aG 255=aA 1/\kK aG 254=aA aF/\pG aG 254=aA 1/\cC aG 183 1=aA 7/\kK aG 122=aA aF/\pG aG 122=aA 1/\aX aG 195=aB/\yQ aG 23=aA 1:=by and_intros<;>kernel_rfl
@[go_sem] def bSN:yQ aG 26=aA 1/\yQ aG 27=aA 1/\yQ aG 28=aA 1/\yQ aG 112=aA 1/\aX aG 208=aB/\aX aG 209=aB/\aX aG 210=aB/\cC aG 201 2=aA 2/\aX aG 211=aB/\iZ aG 201=aB/\aX aG 138=aB/\aX aG 212=aB/\aX aG 140=aB/\aX aG 213=aB/\aX aG 214=aB/\aX aG 226=aB/\aX aG 229=aB/\aX aG 230=aB/\aX aG 231=aB/\aX aG 232=aB/\cC aG 183 0=aA 0/\aX aG 244=aB/\aX aG 245=aB/\iD aG 296=aA (1,8,[aD (Value.pointer aC)])/\jP aG 296=aA [aD (aP aC 0 0)]:=by and_intros<;>kernel_rfl
@[go_sem] def bSM:EZ aG 296=aC/\pG aG 296=aA 1/\aX aG 246=aB/\kK aG 296=aA aF/\gK aG 296=aB/\DQ aG 296=aA 1/\kK aG 297=aA aF/\pG aG 297=aA 1/\yQ aG 297=aA 0/\aX aG 253=aB/\aX aG 254=aB/\aX aG 271=aB/\aX aG 272=aB/\aX aG 274=aB/\EZ aG 22=aC/\aX aG 285=aB/\Tryz.f18.results.toList=[.cell 4 36]/\Tryz.f20.results.toList=[.cell 6 30,.cell 7 30,.tmp 8]/\a7K.results.toList=[.cell 4 36,.tmp 5]/\Tryz.f22.results.toList=[.cell 4 30,.tmp 5]/\Tryz.f30.results.toList=[.cell 2 25]/\Tryz.f31.results.toList=[.cell 2 30,.tmp 3]/\Tryz.f61.results.toList=[.cell 2 30]/\Tryz.f77.results.toList=[.cell 6 150,.tmp 7]/\Tryz.f87.results.toList=[.cell 2 30]:=by and_intros<;>kernel_rfl
@[go_sem] def bSL:Tryz.f134.results.toList=[.cell 6 201]/\Tryz.f162.results.toList=[.cell 4 201,.tmp 5]/\Tryz.f167.results.toList=[.cell 6 201,.tmp 7]/\Tryz.f169.results.toList=[.cell 4 201,.tmp 5]/\Tryz.f171.results.toList=[.cell 4 201,.tmp 5]/\Tryz.f231.results.toList=[.cell 4 201]/\Tryz.f232.results.toList=[.cell 6 201,.tmp 7]:=by and_intros<;>kernel_rfl
@[go_sem] def y1:kU aG 30=aA {toList:=[(0,3),(3,1),(4,1),(5,1),(6,1)]}:=by kernel_rfl
@[go_sem] def y2:kU aG 36=aA {toList:=[(0,1),(1,1),(2,1),(3,1),(4,1),(5,1)]}:=by kernel_rfl
@[go_sem] def y3:kU aG 87=aA {toList:=[(0,1),(1,1)]}:=by kernel_rfl
@[go_sem] def y4:iD aG 33=aA (2,16,[aD (aE aH 0),aD (aE aH 0)]):=by kernel_rfl
@[go_sem] def bRN(hin:mM H0 id 2 l)(hid:id<k):kZ aG (AM.look H0) k 33 (aA (dI id l)) y=appR 2 16 k id l (y.bind (EA (AM.look H0))):=BE y4 hin hid
@[go_sem] def y5:iD aG 26=aA (1,8,[aD (aE aH 0)]):=by kernel_rfl
@[go_sem] def bRP(hin:mM H0 id 1 l)(hid:id<k):kZ aG (AM.look H0) k 26 (aA (dI id l)) y=appR 1 8 k id l (y.bind (EA (AM.look H0))):=BE y5 hin hid
@[go_sem] def y6:kU aG 89=aA {toList:=[(0,1),(1,1),(2,1),(3,1),(4,1),(5,1),(6,1),(7,1)]}:=by kernel_rfl
@[go_sem] def y7:iD aG 27=aA (8,64,[aD (aE aH 0),aD (aE aH 0),aD (aE aH 0),aD (aE aH 0),aD (aE aI 0),aD (bC aF),aD (aE aI 0),aD (aE aT 0)]):=by kernel_rfl
@[go_sem] def bRO(hin:mM H0 id 8 l)(hid:id<k):kZ aG (AM.look H0) k 27 (aA (dI id l)) y=appR 8 64 k id l (y.bind (EA (AM.look H0))):=BE y7 hin hid
@[go_sem] def y8:kU aG 93=aA {toList:=[(0,1),(1,1),(2,3)]}:=by kernel_rfl
@[go_sem] def y9:iD aG 34=aA (5,40,[aD (aE aH 0),aD (aE aH 0),aD (aE aI 0),aD (aE aT 0),aD (aE aI 0)]):=by kernel_rfl
@[go_sem] def bRM(hin:mM H0 id 5 l)(hid:id<k):kZ aG (AM.look H0) k 34 (aA (dI id l)) y=appR 5 40 k id l (y.bind (EA (AM.look H0))):=BE y9 hin hid
@[go_sem] def y10:kU aG 111=aA {toList:=[(0,1),(1,1)]}:=by kernel_rfl
@[go_sem] def y11:kU aG 25=aA {toList:=[(0,1),(1,1),(2,1)]}:=by kernel_rfl
@[go_sem] def y12:kU aG 91=aA {toList:=[(0,1),(1,1),(2,1)]}:=by kernel_rfl
@[go_sem] def y13:kU aG 147=aA {toList:=[(0,7),(7,1)]}:=by kernel_rfl
@[go_sem] def y14:kU aG 81=aA {toList:=[(0,1),(1,1),(2,1),(3,1),(4,1),(5,1),(6,1),(7,1)]}:=by kernel_rfl
@[go_sem] def y15:iD aG 78=aA (8,64,[aD (aE bM 0),aD (aE aH 0),aD (aE aH 0),aD (aE aH 0),aD (aE aH 0),aD (aE aH 0),aD (aE aH 0),aD (aE aI 0)]):=by kernel_rfl
@[go_sem] def bRL(hin:mM H0 id 8 l)(hid:id<k):kZ aG (AM.look H0) k 78 (aA (dI id l)) y=appR 8 64 k id l (y.bind (EA (AM.look H0))):=BE y15 hin hid
@[go_sem] def y16:aX aG 88=aB:=by kernel_rfl
@[go_sem] def y17:kU aG 125=aA {toList:=[(0,1),(1,1),(2,1)]}:=by kernel_rfl
@[go_sem] def y18:iD aG 122=aA (3,24,[aD (aE bM 0),aD (aE aH 0),aD (aE aH 0)]):=by kernel_rfl
@[go_sem] def bQN(hin:mM H0 id 3 l)(hid:id<k):kZ aG (AM.look H0) k 122 (aA (dI id l)) y=appR 3 24 k id l (y.bind (EA (AM.look H0))):=BE y18 hin hid
@[go_sem] def bMB(hin:mM H0 id 3 l):AJ aG (AM.look H0) k 122 (aA (dI id l))=aA ⟨aD (aE aH (l.length:Int)),k,[],qK id l⟩:=a4K kRf hin
@[go_sem] def y19:kU aG 183=aA {toList:=[(0,7),(7,1)]}:=by kernel_rfl
@[go_sem] def y20:kU aG 201=aA {toList:=[(0,1),(1,1),(2,1)]}:=by kernel_rfl
end Go.AM
end
section
namespace Go.Proofs.T
open Go Go.AM Go.Proofs
variable{fr fr1:Fr}{k k1 kb:Nat}{H H1:aS}
variable{Γ:dW}
def aSR(w:Int):Pure aG Γ 211 [w] (decide (1<=w/\w<=65536)):=by
 refine cA Tryz.func211 rfl 9 rfl bB rfl λ k=>iG rfl (MK rfl [0,2] [] rfl (λ K hK=>sT ?_));(refine hK _ _ _ _ (λ hx=>?_));clear hx hK;refine sT ?_;refine iG rfl (MK rfl [0,2] [] rfl (λ K hK=>sT ?_));(repeat'(refine lR (λ hg=>?_) (λ hg=>?_)<;>simp only[dTt,dFn,dV,jZ]at hg<;>simp-dsimp-implicitDefEqProofs only[go_sem,hg,↓reduceIte]));all_goals((refine hK _ _ _ _ (λ hx=>?_));clear hx hK;simp-dsimp-implicitDefEqProofs only[go_sem,↓reduceIte])
 all_goals(refine cB rfl ⟨_,rfl,bG ?_⟩)
 all_goals((simp only[aD.injEq,bC.injEq];exact bQ))
def qI(v r w:Int):Bool:=decide (1<=w/\w<=65536/\r<w/\(v<18446744073709551615\/r=0))
def lW(v r w:Int)(hw:0<=w)(hw2:w<4294967296):Pure aG Γ 133 [.agg [aD (aE aI v),aD (aE aT r),aD (aE aT w)]] (qI v r w):=by
 refine cA Tryz.func133 rfl 24 rfl bB rfl λ k=>iG rfl (MK rfl [0,1,2] [] rfl (λ K hK=>sT ?_));(refine hK _ _ _ _ (λ hx=>?_));clear hx hK;refine sT ?_;refine iG rfl (MK rfl [0,1,2] [.ret (decide (1<=w/\w<=65536))] rfl (λ K hK=>gG ?_));rw[wrap_i64 oO oO];refine⟨aSR w,?_⟩;(repeat'(refine lR (λ hg=>?_) (λ hg=>?_)<;>simp only[dTt,dFn,dV,jZ]at hg<;>simp-dsimp-implicitDefEqProofs only[go_sem,hg,↓reduceIte]));all_goals((refine hK _ _ _ _ (λ hx=>?_));clear hx hK;simp-dsimp-implicitDefEqProofs only[go_sem,↓reduceIte])
 all_goals(refine cB rfl ⟨_,rfl,bG ?_⟩)
 all_goals(unfold qI;(simp only[aD.injEq,bC.injEq];exact bQ))
def aXY(v r w:Int):Pure aG Γ 245 [aD (aE aI v),aD (aE aT r),w] (qI v r w):=by
 refine cA Tryz.func245 rfl 21 rfl bB rfl λ k=>iG rfl (MK rfl [0,1,2,6] [] rfl (λ K hK=>sT ?_));(refine hK _ _ _ _ (λ hx=>?_));clear hx hK;refine sT ?_;refine iG rfl (MK rfl [6] [.ret (qI v r w)] rfl (λ K hK=>sT ?_));(repeat'(first|(refine And.intro ?_ ?_)|(refine lR (λ hb=>?_) (λ hb=>?_)<;>(have hg:=hb;(try simp only[nfb]at hg);simp-dsimp-implicitDefEqProofs only[go_sem,hb,hg,↓reduceIte];clear hb;(try simp only[nfe]at hg)))));(any_goals ((refine hK _ _ _ _ (λ hx=>?_));clear hx hK;refine sT ?_;(try simp(disch:=omega)only[wrap_i64,wrap_u64,wrap_u32,oS])));(all_goals(try omega));.rw[wrap_u32 oO oO];exact lW v r w oO oO
 all_goals(refine cB rfl ⟨_,rfl,bG ?_⟩)
 .rfl
 all_goals(unfold qI;(simp only[aD.injEq,bC.injEq];exact bQ))
structure Tk where
 id:Int
 group:Int
 weight:Int
 cpu:Int
 mask:Int
 ready:Bool
 v:Int
 r:Int
structure Sp where
 v:Int
 r:Int
 floor:Int
structure St where
 cpus:Int
 credit:Int
 ng:Nat
 par:Nat->Int
 wt:Nat->Int
 nk:Nat
 clk:Nat->Int
 nu:Nat
 cur:Nat->Int
 nt:Nat
 tsk:Nat->Tk
 ns:Nat
 nsp:Nat->Nat
 sp:Nat->Nat->Sp
structure Flt where
 r:Int
 a:Int
 b:Int
deriving DecidableEq
abbrev i64(n:Int):AVal:=aD (aE aH n)
abbrev u64(n:Int):AVal:=aD (aE aI n)
abbrev u32(n:Int):AVal:=aD (aE aT n)
def Flt.row (f:Flt):List AVal:=[aD (aE bM f.r),aD (aE aH f.a),aD (aE aH f.b)]
def pK(hb:kb<=k1:=by omega)(hf:leF fr fr1:=by simp-dsimp-implicitDefEqProofs only[go_sem,uU,aQ,Flt.row,↓reduceIte])(hH:IA H H1:=by simp-dsimp-implicitDefEqProofs only[go_sem,uU,aQ,Flt.row,↓reduceIte])(h:bdF (kC k1) fr1=aB:=by simp-dsimp-implicitDefEqProofs only[go_sem,uU,aQ,Flt.row,↓reduceIte])(h':oU (kC k1) H1=aB:=by simp-dsimp-implicitDefEqProofs only[go_sem,uU,aQ,Flt.row,↓reduceIte]):Mv kb k fr H k1 fr1 H1:=nC (sA hb hf hH h h')
def sB(hb:kb<=k1:=by omega)(hf:leF fr fr1:=by simp-dsimp-implicitDefEqProofs only[go_sem,aQ,Flt.row,↓reduceIte])(hH:IA H H1:=by simp-dsimp-implicitDefEqProofs only[go_sem,aQ,Flt.row,↓reduceIte])(h:bdF (kC k1) fr1=aB:=by simp-dsimp-implicitDefEqProofs only[go_sem,aQ,Flt.row,↓reduceIte])(h':oU (kC k1) H1=aB:=by simp-dsimp-implicitDefEqProofs only[go_sem,aQ,Flt.row,↓reduceIte]):Mv kb k fr H k1 fr1 H1:=
 nC (sA hb hf hH h h')
def gf(s:St)(i:Nat):List AVal:=[aD (aE aH (s.par i)),aD (aE aH (s.wt i))]
def kf(s:St)(i:Nat):List AVal:=[aD (aE aH (s.clk i))]
def uf(s:St)(i:Nat):List AVal:=[aD (aE aH (s.cur i))]
def tf(s:St)(i:Nat):List AVal:=[aD (aE aH (s.tsk i).id),aD (aE aH (s.tsk i).group),aD (aE aH (s.tsk i).weight),aD (aE aH (s.tsk i).cpu),aD (aE aI (s.tsk i).mask),aD (bC (s.tsk i).ready),aD (aE aI (s.tsk i).v),aD (aE aT (s.tsk i).r)]
def sf(s:St)(g c:Nat):List AVal:=[aD (aE aI (s.sp g c).v),aD (aE aT (s.sp g c).r),aD (aE aI (s.sp g c).floor)]
def ssf(s:St)(g:Nat):List AVal:=[.rd 3 (s.nsp g) (sf s g)]
def St.cells (s:St):List AVal:=[aD (aE aH s.cpus),aD (aE aI s.credit),.rd 2 s.ng (gf s),.rd 1 s.nk (kf s),.rd 1 s.nu (uf s),.rd 8 s.nt (tf s),.rd 1 s.ns (ssf s)]
attribute [go_sem] gf kf uf tf sf ssf St.cells
def cI(f:Nat->List Flt):Nat->List Flt
 |0=>[]
 |n+1=>cI f n++f n
def lC{f:Nat->List Flt}:cI f 0=[]:=rfl
def gC{f:Nat->List Flt}{n:Nat}:cI f (n+1)=cI f n++f n:=rfl
def fK{f:Nat->List Flt}{m:Nat}(h:∀i,(f i).length<=m):∀n,(cI f n).length<=n*m
 |0=>by simp[cI]
 |n+1=>by have:=fK h n;have:=h n;simp only[cI,bT,cW,Nat.one_mul];omega
def mH(s:St)(g:Nat):List Flt:=if(s.nsp g:Int)=s.cpus then []else [⟨2,3,g⟩]
def LL(s:St)(g:Nat):(mH s g).length<=1:=by unfold mH;split<;>simp
def lQ(s:St):List Flt:=
 (if(s.nk:Int)≠s.cpus then [⟨2,0,0⟩]else [])++(if(s.nu:Int)≠s.cpus then [⟨2,1,0⟩]else [])++
   (if s.ns≠s.ng then [⟨2,2,0⟩]else cI (mH s) s.ns)
end Go.Proofs.T
end
