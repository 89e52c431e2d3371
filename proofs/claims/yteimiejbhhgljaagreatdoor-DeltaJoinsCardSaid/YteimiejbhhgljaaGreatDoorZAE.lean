import Derived.Test.YteimiejbhhgljaaGreatDoorZAD
import Derived.Test.YteimiejbhhgljaaGreatDoorProg
import Derived.KernelRfl
set_option linter.unusedVariables false
set_option linter.unusedSimpArgs false
set_option maxHeartbeats 0
set_option maxRecDepth 100000
open Bool renaming and_eq_true->aH,eq_iff_iff->bH,false->aE,false_eq_true->aS,not_eq_false'->jI,not_eq_true'->bD,or_eq_true->bL,true->aB,true_eq_false->bX
open Go.IntKind renaming i64->aL,u32->lM,u64->aY,u8->fA
open List renaming getD->oH,getD_eq_getElem?_getD->aR,getElem_mem->JR,length_append->bM,map->rS,map_append->aM,map_cons->bI,map_map->jM,map_nil->bQ,range->aN
open Nat renaming add_assoc->gD,add_mul->cQ,add_sub_cancel->a4V,add_sub_cancel_left->lE,mul_one->HW,sub_self->RX
open Option renaming none->aC,some->aA
open Go.Proofs.Tryz renaming f21->aLR,prog->aD
open Go.Value renaming bool->EA,int->bA,slice->fY
section
namespace Go.AM
open Go.Proofs
@[go_sem] theorem yC0:DM aD 30=aC/\jO aD 30=aA aB/\oP aD 30=aA 7/\aT aD 13=aB/\DM aD 36=aC/\jO aD 36=aA aB/\oP aD 36=aA 6/\iY aD 30=aA [AVal.lit (bA aL 0),AVal.lit (bA aY 0),AVal.lit (fY aC 0 0),AVal.lit (fY aC 0 0),AVal.lit (fY aC 0 0),AVal.lit (fY aC 0 0),AVal.lit (fY aC 0 0)]/\iY aD 36=aA [AVal.lit (fY aC 0 0),AVal.lit (fY aC 0 0),AVal.lit (fY aC 0 0),AVal.lit (fY aC 0 0),AVal.lit (fY aC 0 0),AVal.lit (fY aC 0 0)]/\iS aD 30=aB/\iS aD 36=aB/\DM aD 55=aC/\jO aD 55=aA aB/\oP aD 55=aA 13/\aT aD 20=aB/\aT aD 21=aB/\vB aD 5=aA fA/\vB aD 3=aA aL/\pI aD 3=aE/\aT aD 22=aB/\bW aD 30 1=aA 3/\jO aD 26=aA aE/\oP aD 26=aA 1/\fX aD 26=aB/\aT aD 23=aB:=by and_intros<;>kernel_rfl
@[go_sem] theorem yC1:aT aD 24=aB/\aT aD 25=aB/\EE aD 4=aA 1/\aT aD 26=aB/\bW aD 36 0=aA 0/\jO aD 33=aA aE/\oP aD 33=aA 1/\fX aD 33=aB/\bW aD 36 5=aA 5/\jO aD 34=aA aE/\oP aD 34=aA 1/\fX aD 34=aB/\fX aD 56=aB/\CC aD 56=aA 8/\aT aD 30=aB/\aT aD 29=aB/\xK aD 73=aA 0/\aT aD 31=aB/\aT aD 32=aB/\fX aD 78=aB/\CC aD 78=aA 8/\jO aD 81=aA aB/\oP aD 81=aA 8/\iY aD 81=aA [AVal.lit (bA fA 0),AVal.lit (bA aL 0),AVal.lit (bA aL 0),AVal.lit (bA aL 0),AVal.lit (bA aL 0),AVal.lit (bA aL 0),AVal.lit (bA aL 0),AVal.lit (bA aY 0)]/\DM aD 81=aC:=by and_intros<;>kernel_rfl
@[go_sem] theorem yC2:aT aD 33=aB/\aT aD 34=aB/\CC aD 26=aA 1/\oP aD 3=aA 1/\iY aD 87=aA [AVal.lit (bA aL 0),AVal.lit (bA aL 0)]/\iS aD 87=aB/\bW aD 30 0=aA 0/\bW aD 25 0=aA 0/\jO aD 3=aA aE/\bW aD 25 1=aA 1/\jO aD 22=aA aE/\oP aD 22=aA 1/\bW aD 25 2=aA 2/\jO aD 23=aA aE/\oP aD 23=aA 1/\fX aD 23=aB/\iY aD 89=aA [AVal.lit (bA aL 0),AVal.lit (bA aL 0),AVal.lit (bA aL 0),AVal.lit (bA aL 0),AVal.lit (bA aY 0),AVal.lit (EA aE),AVal.lit (bA aY 0),AVal.lit (bA lM 0)]/\iS aD 89=aB/\iY aD 93=aA [AVal.lit (bA aL 0),AVal.lit (bA aL 0),AVal.lit (bA aY 0),AVal.lit (bA lM 0),AVal.lit (bA aY 0)]/\iS aD 93=aB/\jO aD 27=aA aE/\oP aD 27=aA 1/\fX aD 27=aB/\bW aD 36 4=aA 4/\iY aD 111=aA [AVal.lit (bA aL 0),AVal.lit (bA aL 0)]:=by and_intros<;>kernel_rfl
@[go_sem] theorem yC3:iS aD 111=aB/\gV aD 23=aA (2,16,[AVal.lit (bA aL 0),AVal.lit (bA aL 0)])/\iY aD 25=aA [AVal.lit (bA aL 0),AVal.lit (bA aY 0),AVal.lit (fY aC 0 0)]/\iS aD 25=aB/\bW aD 30 2=aA 4/\bW aD 30 3=aA 5/\bW aD 30 4=aA 6/\jO aD 28=aA aE/\oP aD 28=aA 1/\CC aD 28=aA 1/\jO aD 112=aA aE/\oP aD 112=aA 1/\CC aD 112=aA 3/\bW aD 91 2=aA 2/\jO aD 5=aA aE/\oP aD 5=aA 1/\fX aD 28=aB/\CC aD 23=aA 2/\bW aD 111 1=aA 1/\jO aD 91=aA aB/\oP aD 91=aA 3/\tD aD 91=aA [(0,0),(1,0),(2,0)]/\CC aD 27=aA 8/\bW aD 89 0=aA 0/\DM aD 89=aC:=by and_intros<;>kernel_rfl
@[go_sem] theorem yC4:oP aD 89=aA 8/\jO aD 89=aA aB/\tD aD 89=aA [(0,0),(1,0),(2,0),(3,0),(4,0),(5,1),(6,0),(7,0)]/\bW aD 36 1=aA 1/\bW aD 36 2=aA 2/\bW aD 36 3=aA 3/\iY aD 91=aA [AVal.lit (bA aY 0),AVal.lit (bA lM 0),AVal.lit (bA aY 0)]/\aT aD 51=aB/\fX aD 122=aB/\CC aD 122=aA 3/\jO aD 125=aA aB/\oP aD 125=aA 3/\iY aD 125=aA [AVal.lit (bA fA 0),AVal.lit (bA aL 0),AVal.lit (bA aL 0)]/\DM aD 125=aC/\bW aD 125 0=aA 0/\aT aD 52=aB/\aT aD 54=aB/\aT aD 53=aB/\aT aD 55=aB/\aT aD 57=aB/\aT aD 56=aB/\aT aD 58=aB/\iY aD 3=aA [AVal.lit (bA aL 0)]/\DM aD 3=aC/\aT aD 60=aB:=by and_intros<;>kernel_rfl
@[go_sem] theorem yC5:aT aD 59=aB/\aT aD 61=aB/\aT aD 62=aB/\CC aD 33=aA 2/\jO aD 87=aA aB/\oP aD 87=aA 2/\DM aD 87=aC/\bW aD 87 0=aA 0/\bW aD 87 1=aA 1/\aT aD 64=aB/\aT aD 63=aB/\aT aD 68=aB/\aT aD 69=aB/\CC aD 34=aA 5/\jO aD 93=aA aB/\oP aD 93=aA 5/\DM aD 93=aC/\bW aD 93 0=aA 0/\bW aD 93 1=aA 1/\bW aD 93 2=aA 2/\aT aD 70=aB/\aT aD 71=aB/\aT aD 72=aB/\aT aD 73=aB/\aT aD 74=aB:=by and_intros<;>kernel_rfl
@[go_sem] theorem yC6:aT aD 75=aB/\iY aD 147=aA [AVal.lit (bA aL 0),AVal.lit (bA aY 0),AVal.lit (fY aC 0 0),AVal.lit (fY aC 0 0),AVal.lit (fY aC 0 0),AVal.lit (fY aC 0 0),AVal.lit (fY aC 0 0),AVal.lit (EA aE)]/\iS aD 147=aB/\DM aD 147=aC/\aT aD 76=aB/\bW aD 89 5=aA 5/\jO aD 4=aA aE/\oP aD 4=aA 1/\bW aD 89 3=aA 3/\aT aD 77=aB/\iY aD 150=aA [AVal.lit (bA aY 0),AVal.lit (bA aY 0),AVal.lit (bA aY 0)]/\DM aD 150=aA (3,1)/\oP aD 150=aA 3/\jO aD 150=aA aB/\aT aD 78=aB/\jO aD 25=aA aB/\oP aD 25=aA 3/\aT aD 79=aB/\aT aD 80=aB/\aT aD 81=aB/\aT aD 82=aB/\DM aD 25=aC/\aT aD 86=aB/\gV aD 112=aA (3,24,[AVal.lit (bA aY 0),AVal.lit (bA lM 0),AVal.lit (bA aY 0)])/\gV aD 28=aA (1,24,[AVal.lit (fY aC 0 0)]):=by and_intros<;>kernel_rfl
@[go_sem] theorem yC7:aT aD 87=aB/\bW aD 55 0=aA 0/\bW aD 55 2=aA 2/\jO aD 50=aA aE/\oP aD 50=aA 1/\vB aD 50=aA lM/\vB aD 22=aA aY/\pI aD 22=aE/\bW aD 55 1=aA 1/\bW aD 55 3=aA 3/\DM aD 51=aA (5,1)/\bW aD 55 4=aA 8/\DM aD 53=aA (5,1)/\jO aD 52=aA aE/\oP aD 52=aA 1/\vB aD 52=aA IntKind.u16/\bW aD 147 1=aA 7/\bW aD 147 0=aA 0/\jO aD 162=aA aB/\oP aD 162=aA 8/\iY aD 162=aA [AVal.lit (bA fA 0),AVal.lit (bA fA 0),AVal.lit (bA fA 0),AVal.lit (bA fA 0),AVal.lit (bA fA 0),AVal.lit (bA IntKind.u16 0),AVal.lit (bA lM 0),AVal.lit (bA fA 0)]/\DM aD 162=aC/\bW aD 162 1=aA 1/\bW aD 162 2=aA 2/\bW aD 162 3=aA 3:=by and_intros<;>kernel_rfl
@[go_sem] theorem yC8:bW aD 162 4=aA 4/\bW aD 162 5=aA 5/\bW aD 162 6=aA 6/\bW aD 162 7=aA 7/\iS aD 81=aB/\bW aD 81 5=aA 5/\bW aD 81 7=aA 7/\bW aD 81 1=aA 1/\iY aD 163=aA [AVal.lit (bA fA 0),AVal.lit (bA fA 0),AVal.lit (bA fA 0),AVal.lit (bA fA 0),AVal.lit (bA fA 0),AVal.lit (bA fA 0),AVal.lit (bA fA 0),AVal.lit (bA fA 0),AVal.lit (bA fA 0),AVal.lit (bA fA 0),AVal.lit (bA fA 0),AVal.lit (bA fA 0),AVal.lit (bA fA 0),AVal.lit (bA fA 0),AVal.lit (bA fA 0),AVal.lit (bA fA 0),AVal.lit (bA fA 0),AVal.lit (bA fA 0),AVal.lit (bA fA 0),AVal.lit (bA fA 0)]/\iS aD 163=aE/\aCT aD 163=aA (20,1,aE)/\bW aD 162 0=aA 0/\bW aD 81 0=aA 0/\gV aD 164=aA (1,8,[AVal.lit Value.nilFunc])/\fX aD 164=aB/\CC aD 164=aA 1/\jO aD 83=aA aE/\oP aD 83=aA 1/\aT aD 97=aB/\fX aD 112=aB/\bW aD 89 1=aA 1/\bW aD 89 2=aA 2/\bW aD 89 4=aA 4/\bW aD 89 6=aA 6/\bW aD 89 7=aA 7:=by and_intros<;>kernel_rfl
@[go_sem] theorem yC9:bW aD 91 0=aA 0/\bW aD 91 1=aA 1/\bW aD 111 0=aA 0/\oP aD 111=aA 2/\aT aD 113=aB/\aT aD 115=aB/\aT aD 114=aB/\iS aD 125=aB/\iY aD 183=aA [AVal.lit (bA aL 0),AVal.lit (bA aY 0),AVal.lit (fY aC 0 0),AVal.lit (fY aC 0 0),AVal.lit (fY aC 0 0),AVal.lit (fY aC 0 0),AVal.lit (fY aC 0 0),AVal.lit (fY aC 0 0)]/\iS aD 183=aB/\DM aD 183=aC/\aT aD 116=aB/\DM aD 91=aC/\aT aD 117=aB/\jO aD 111=aA aB/\DM aD 111=aC/\tD aD 111=aA [(0,0),(1,0)]/\vB aD 189=aA aY/\pI aD 189=aE/\aT aD 120=aB/\aT aD 121=aB/\aT aD 122=aB/\aT aD 123=aB/\aT aD 124=aB/\aT aD 125=aB:=by and_intros<;>kernel_rfl
@[go_sem] theorem bMD:aT aD 65=aB/\aT aD 67=aB/\aT aD 66=aB/\aT aD 126=aB/\aT aD 127=aB/\aT aD 128=aB/\aT aD 129=aB/\aT aD 130=aB/\tD aD 87=aA [(0,0),(1,0)]/\aT aD 131=aB/\aT aD 132=aB/\aT aD 134=aB/\aT aD 133=aB/\aT aD 135=aB/\aT aD 136=aB/\aT aD 137=aB/\iS aD 150=aE/\aCT aD 150=aA (3,1,aE)/\iY aD 4=aA [AVal.lit (EA aE)]/\DM aD 4=aC/\aT aD 139=aB/\aT aD 141=aB/\aT aD 142=aB/\aT aD 143=aB/\pI aD 50=aE:=by and_intros<;>kernel_rfl
@[go_sem] theorem bMC:aT aD 156=aB/\aT aD 157=aB/\bW aD 81 2=aA 2/\aT aD 158=aB/\bW aD 81 3=aA 3/\bW aD 81 4=aA 4/\aT aD 159=aB/\aT aD 160=aB/\aT aD 161=aB/\aT aD 162=aB/\iY aD 201=aA [AVal.lit (bA aY 0),AVal.lit (bA lM 0),AVal.lit (bA lM 0)]/\DM aD 201=aC/\oP aD 201=aA 3/\jO aD 201=aA aB/\aT aD 163=aB/\aT aD 164=aB/\aT aD 165=aB/\aT aD 166=aB/\aT aD 167=aB/\aT aD 168=aB/\bW aD 81 6=aA 6/\aT aD 169=aB/\bW aD 201 0=aA 0/\bW aD 201 1=aA 1/\aT aD 171=aB:=by and_intros<;>kernel_rfl
@[go_sem] theorem bMB:aT aD 172=aB/\aT aD 173=aB/\fX aD 171=aB/\CC aD 171=aA 1/\aT aD 190=aB/\gV aD 255=aA (1,8,[AVal.lit Value.nilFunc])/\aT aD 191=aB/\aT aD 192=aB/\aT aD 193=aB/\aT aD 194=aB/\iY aD 256=aA [AVal.lit (fY aC 0 0),AVal.lit (fY aC 0 0),AVal.lit (fY aC 0 0)]/\iS aD 256=aE/\aCT aD 256=aA (3,1,aE)/\DM aD 256=aA (3,1)/\oP aD 256=aA 3/\jO aD 256=aA aB/\fX aD 255=aB/\CC aD 255=aA 1/\jO aD 254=aA aE/\oP aD 254=aA 1/\bW aD 183 1=aA 7/\jO aD 122=aA aE/\oP aD 122=aA 1/\aT aD 195=aB/\xK aD 23=aA 1:=by and_intros<;>kernel_rfl
@[go_sem] theorem bMA:xK aD 26=aA 1/\xK aD 27=aA 1/\xK aD 28=aA 1/\xK aD 112=aA 1/\aT aD 208=aB/\aT aD 209=aB/\aT aD 210=aB/\bW aD 201 2=aA 2/\aT aD 211=aB/\iS aD 201=aB/\aT aD 138=aB/\aT aD 212=aB/\aT aD 140=aB/\aT aD 213=aB/\aT aD 214=aB/\aT aD 226=aB/\aT aD 229=aB/\aT aD 230=aB/\aT aD 231=aB/\aT aD 232=aB/\bW aD 183 0=aA 0/\aT aD 244=aB/\aT aD 245=aB/\gV aD 296=aA (1,8,[AVal.lit (Value.pointer aC)])/\iY aD 296=aA [AVal.lit (fY aC 0 0)]:=by and_intros<;>kernel_rfl
@[go_sem] theorem bLZ:DM aD 296=aC/\oP aD 296=aA 1/\aT aD 246=aB/\jO aD 296=aA aE/\fX aD 296=aB/\CC aD 296=aA 1/\jO aD 297=aA aE/\oP aD 297=aA 1/\xK aD 297=aA 0/\aT aD 253=aB/\aT aD 254=aB/\aT aD 271=aB/\aT aD 272=aB/\aT aD 274=aB/\DM aD 22=aC/\aT aD 285=aB/\Tryz.f20.results.toList=[.cell 6 30,.cell 7 30,.tmp 8]/\aLR.results.toList=[.cell 4 36,.tmp 5]/\Tryz.f22.results.toList=[.cell 4 30,.tmp 5]/\Tryz.f30.results.toList=[.cell 2 25]/\Tryz.f31.results.toList=[.cell 2 30,.tmp 3]/\Tryz.f34.results.toList=[.cell 6 36,.tmp 7]/\Tryz.f61.results.toList=[.cell 2 30]/\Tryz.f77.results.toList=[.cell 6 150,.tmp 7]/\Tryz.f87.results.toList=[.cell 2 30]:=by and_intros<;>kernel_rfl
@[go_sem] theorem bLY:Tryz.f134.results.toList=[.cell 6 201]/\Tryz.f162.results.toList=[.cell 4 201,.tmp 5]/\Tryz.f167.results.toList=[.cell 6 201,.tmp 7]/\Tryz.f169.results.toList=[.cell 4 201,.tmp 5]/\Tryz.f171.results.toList=[.cell 4 201,.tmp 5]/\Tryz.f231.results.toList=[.cell 4 201]/\Tryz.f232.results.toList=[.cell 6 201,.tmp 7]:=by and_intros<;>kernel_rfl
@[go_sem] theorem y1:kK aD 30=aA {toList:=[(0,3),(3,1),(4,1),(5,1),(6,1)]}:=by kernel_rfl
@[go_sem] theorem y2:kK aD 36=aA {toList:=[(0,1),(1,1),(2,1),(3,1),(4,1),(5,1)]}:=by kernel_rfl
@[go_sem] theorem y3:kK aD 87=aA {toList:=[(0,1),(1,1)]}:=by kernel_rfl
@[go_sem] theorem y4:gV aD 33=aA (2,16,[AVal.lit (bA aL 0),AVal.lit (bA aL 0)]):=by kernel_rfl
@[go_sem] theorem bLE{H0:aO}{k id:Nat}{l:List (List AVal)}{y:Option AVal}(hin:lX H0 id 2 l)(hid:id<k):kI aD (AM.look H0) k 33 (aA (dG id l)) y=appR 2 16 k id l (y.bind (CK (AM.look H0))):=zU y4 hin hid
@[go_sem] theorem y5:gV aD 26=aA (1,8,[AVal.lit (bA aL 0)]):=by kernel_rfl
@[go_sem] theorem bLG{H0:aO}{k id:Nat}{l:List (List AVal)}{y:Option AVal}(hin:lX H0 id 1 l)(hid:id<k):kI aD (AM.look H0) k 26 (aA (dG id l)) y=appR 1 8 k id l (y.bind (CK (AM.look H0))):=zU y5 hin hid
@[go_sem] theorem y6:kK aD 89=aA {toList:=[(0,1),(1,1),(2,1),(3,1),(4,1),(5,1),(6,1),(7,1)]}:=by kernel_rfl
@[go_sem] theorem y7:gV aD 27=aA (8,64,[AVal.lit (bA aL 0),AVal.lit (bA aL 0),AVal.lit (bA aL 0),AVal.lit (bA aL 0),AVal.lit (bA aY 0),AVal.lit (EA aE),AVal.lit (bA aY 0),AVal.lit (bA lM 0)]):=by kernel_rfl
@[go_sem] theorem bLF{H0:aO}{k id:Nat}{l:List (List AVal)}{y:Option AVal}(hin:lX H0 id 8 l)(hid:id<k):kI aD (AM.look H0) k 27 (aA (dG id l)) y=appR 8 64 k id l (y.bind (CK (AM.look H0))):=zU y7 hin hid
@[go_sem] theorem y8:kK aD 93=aA {toList:=[(0,1),(1,1),(2,3)]}:=by kernel_rfl
@[go_sem] theorem y9:gV aD 34=aA (5,40,[AVal.lit (bA aL 0),AVal.lit (bA aL 0),AVal.lit (bA aY 0),AVal.lit (bA lM 0),AVal.lit (bA aY 0)]):=by kernel_rfl
@[go_sem] theorem bLD{H0:aO}{k id:Nat}{l:List (List AVal)}{y:Option AVal}(hin:lX H0 id 5 l)(hid:id<k):kI aD (AM.look H0) k 34 (aA (dG id l)) y=appR 5 40 k id l (y.bind (CK (AM.look H0))):=zU y9 hin hid
@[go_sem] theorem y10:kK aD 111=aA {toList:=[(0,1),(1,1)]}:=by kernel_rfl
@[go_sem] theorem y11:kK aD 25=aA {toList:=[(0,1),(1,1),(2,1)]}:=by kernel_rfl
@[go_sem] theorem y12:kK aD 147=aA {toList:=[(0,7),(7,1)]}:=by kernel_rfl
@[go_sem] theorem y13:kK aD 81=aA {toList:=[(0,1),(1,1),(2,1),(3,1),(4,1),(5,1),(6,1),(7,1)]}:=by kernel_rfl
@[go_sem] theorem y14:gV aD 78=aA (8,64,[AVal.lit (bA fA 0),AVal.lit (bA aL 0),AVal.lit (bA aL 0),AVal.lit (bA aL 0),AVal.lit (bA aL 0),AVal.lit (bA aL 0),AVal.lit (bA aL 0),AVal.lit (bA aY 0)]):=by kernel_rfl
@[go_sem] theorem bLC{H0:aO}{k id:Nat}{l:List (List AVal)}{y:Option AVal}(hin:lX H0 id 8 l)(hid:id<k):kI aD (AM.look H0) k 78 (aA (dG id l)) y=appR 8 64 k id l (y.bind (CK (AM.look H0))):=zU y14 hin hid
@[go_sem] theorem y15:aT aD 88=aB:=by kernel_rfl
@[go_sem] theorem y16:kK aD 125=aA {toList:=[(0,1),(1,1),(2,1)]}:=by kernel_rfl
@[go_sem] theorem y17:gV aD 122=aA (3,24,[AVal.lit (bA fA 0),AVal.lit (bA aL 0),AVal.lit (bA aL 0)]):=by kernel_rfl
@[go_sem] theorem bKM{H0:aO}{k id:Nat}{l:List (List AVal)}{y:Option AVal}(hin:lX H0 id 3 l)(hid:id<k):kI aD (AM.look H0) k 122 (aA (dG id l)) y=appR 3 24 k id l (y.bind (CK (AM.look H0))):=zU y17 hin hid
@[go_sem] theorem bHZ{H0:aO}{k id:Nat}{l:List (List AVal)}(hin:lX H0 id 3 l):yQ aD (AM.look H0) k 122 (aA (dG id l))=aA ⟨.lit (.int .i64 (l.length:Int)),k,[],pL id l⟩:=a1U iF hin
@[go_sem] theorem y18:kK aD 183=aA {toList:=[(0,7),(7,1)]}:=by kernel_rfl
@[go_sem] theorem y19:kK aD 201=aA {toList:=[(0,1),(1,1),(2,1)]}:=by kernel_rfl
end Go.AM
end
section
namespace Go.Proofs.T
open Go Go.AM Go.Proofs
variable{Γ:dL}
theorem aQM(w:Int):Pure aD Γ 211 [w] (decide (1<=w/\w<=65536)):=by
 refine bT Tryz.func211 rfl 9 rfl bB rfl λ k=>?_;refine gW rfl ?_;refine KT rfl [0,2] [] rfl (λ K hK=>?_);refine sT ?_;(refine hK _ _ _ _ (λ hx=>?_));clear hx hK;refine sT ?_;refine gW rfl ?_;refine KT rfl [0,2] [] rfl (λ K hK=>?_);refine sT ?_;(repeat'(refine kY (λ hg=>?_) (λ hg=>?_)<;>simp only[dTt,dFn,bD,jI]at hg<;>simp-dsimp-implicitDefEqProofs only[go_sem,hg,eq_self,↓reduceIte]));all_goals((refine hK _ _ _ _ (λ hx=>?_));clear hx hK;simp-dsimp-implicitDefEqProofs only[go_sem,eq_self,↓reduceIte])
 all_goals(refine bV rfl ⟨_,rfl,bC ?_⟩)
 all_goals((simp only[AVal.lit.injEq,EA.injEq];rw[bH];simp only[beq_iff_eq,bne_iff_ne,ne_eq,dTt,dFn,aH,bL,bD,beq_eq_false_iff_ne,aS,bX,true_iff,false_iff,iff_true,iff_false];omega))
def pK(v r w:Int):Bool:=decide (1<=w/\w<=65536/\r<w/\(v<18446744073709551615\/r=0))
theorem lB(v r w:Int)(hw:0<=w)(hw2:w<4294967296):Pure aD Γ 133 [.agg [.lit (.int .u64 v),.lit (.int .u32 r),.lit (.int .u32 w)]] (pK v r w):=by
 refine bT Tryz.func133 rfl 24 rfl bB rfl λ k=>?_;refine gW rfl ?_;refine KT rfl [0,1,2] [] rfl (λ K hK=>?_);refine sT ?_;(refine hK _ _ _ _ (λ hx=>?_));clear hx hK;refine sT ?_;refine gW rfl ?_;refine KT rfl [0,1,2] [.ret (decide (1<=w/\w<=65536))] rfl (λ K hK=>?_);refine rR ?_;apply zN;rw[wrap_i64 oO oO];refine⟨aQM w,?_⟩;(repeat'(refine kY (λ hg=>?_) (λ hg=>?_)<;>simp only[dTt,dFn,bD,jI]at hg<;>simp-dsimp-implicitDefEqProofs only[go_sem,hg,eq_self,↓reduceIte]));all_goals((refine hK _ _ _ _ (λ hx=>?_));clear hx hK;simp-dsimp-implicitDefEqProofs only[go_sem,eq_self,↓reduceIte])
 all_goals(refine bV rfl ⟨_,rfl,bC ?_⟩)
 all_goals(unfold pK;(simp only[AVal.lit.injEq,EA.injEq];rw[bH];simp only[beq_iff_eq,bne_iff_ne,ne_eq,dTt,dFn,aH,bL,bD,beq_eq_false_iff_ne,aS,bX,true_iff,false_iff,iff_true,iff_false];omega))
theorem aVP(v r w:Int):Pure aD Γ 245 [.lit (.int .u64 v),.lit (.int .u32 r),w] (pK v r w):=by
 refine bT Tryz.func245 rfl 21 rfl bB rfl λ k=>?_;refine gW rfl ?_;refine KT rfl [0,1,2,6] [] rfl (λ K hK=>?_);refine sT ?_;(refine hK _ _ _ _ (λ hx=>?_));clear hx hK;refine sT ?_;refine gW rfl ?_;refine KT rfl [6] [.ret (pK v r w)] rfl (λ K hK=>?_);refine sT ?_;(repeat'(first|(refine And.intro ?_ ?_)|(refine kY (λ hb=>?_) (λ hb=>?_)<;>(have hg:=hb;(try simp only[nfb]at hg);simp-dsimp-implicitDefEqProofs only[go_sem,hb,hg,eq_self,↓reduceIte];clear hb;(try simp only[nfe]at hg)))));(any_goals ((refine hK _ _ _ _ (λ hx=>?_));clear hx hK;refine sT ?_;(try simp(disch:=omega)only[wrap_i64,wrap_u64,wrap_u32,nX])));(all_goals(try omega));.rw[wrap_u32 oO oO];exact lB v r w oO oO
 all_goals(refine bV rfl ⟨_,rfl,bC ?_⟩)
 .rfl
 all_goals(unfold pK;(simp only[AVal.lit.injEq,EA.injEq];rw[bH];simp only[beq_iff_eq,bne_iff_ne,ne_eq,dTt,dFn,aH,bL,bD,beq_eq_false_iff_ne,aS,bX,true_iff,false_iff,iff_true,iff_false];omega))
structure Tk where
 id:Int
 group:Int
 weight:Int
 cpu:Int
 mask:Int
 ready:Bool
 v:Int
 r:Int
structure Sp where
 v:Int
 r:Int
 floor:Int
structure St where
 cpus:Int
 credit:Int
 ng:Nat
 par:Nat->Int
 wt:Nat->Int
 nk:Nat
 clk:Nat->Int
 nu:Nat
 cur:Nat->Int
 nt:Nat
 tsk:Nat->Tk
 ns:Nat
 nsp:Nat->Nat
 sp:Nat->Nat->Sp
structure Flt where
 r:Int
 a:Int
 b:Int
deriving DecidableEq
abbrev i64(n:Int):AVal:= .lit (.int .i64 n)
abbrev u64(n:Int):AVal:= .lit (.int .u64 n)
abbrev u32(n:Int):AVal:= .lit (.int .u32 n)
def Flt.row (f:Flt):List AVal:=[.lit (.int .u8 f.r),.lit (.int .i64 f.a),.lit (.int .i64 f.b)]
theorem qT{kb k:Nat}{fr:Fr}{H:aO}{k1:Nat}{fr1:Fr}{H1:aO}(hb:kb<=k1:=by omega)(hf:leF fr fr1:=by simp-dsimp-implicitDefEqProofs only[go_sem,uU,aM,Flt.row,eq_self,↓reduceIte])(hH:QS H H1:=by simp-dsimp-implicitDefEqProofs only[go_sem,uU,aM,Flt.row,eq_self,↓reduceIte])(h:bdF (jS k1) fr1=aB:=by simp-dsimp-implicitDefEqProofs only[go_sem,uU,aM,Flt.row,eq_self,↓reduceIte])(h':oM (jS k1) H1=aB:=by simp-dsimp-implicitDefEqProofs only[go_sem,uU,aM,Flt.row,eq_self,↓reduceIte]):Mv kb k fr H k1 fr1 H1:=nV (pH hb hf hH h h')
theorem pQ{kb k:Nat}{fr:Fr}{H:aO}{k1:Nat}{fr1:Fr}{H1:aO}(hb:kb<=k1:=by omega)(hf:leF fr fr1:=by simp-dsimp-implicitDefEqProofs only[go_sem,aM,Flt.row,eq_self,↓reduceIte])(hH:QS H H1:=by simp-dsimp-implicitDefEqProofs only[go_sem,aM,Flt.row,eq_self,↓reduceIte])(h:bdF (jS k1) fr1=aB:=by simp-dsimp-implicitDefEqProofs only[go_sem,aM,Flt.row,eq_self,↓reduceIte])(h':oM (jS k1) H1=aB:=by simp-dsimp-implicitDefEqProofs only[go_sem,aM,Flt.row,eq_self,↓reduceIte]):Mv kb k fr H k1 fr1 H1:=
 nV (pH hb hf hH h h')
def gf(s:St)(i:Nat):List AVal:=[.lit (.int .i64 (s.par i)),.lit (.int .i64 (s.wt i))]
def kf(s:St)(i:Nat):List AVal:=[.lit (.int .i64 (s.clk i))]
def uf(s:St)(i:Nat):List AVal:=[.lit (.int .i64 (s.cur i))]
def tf(s:St)(i:Nat):List AVal:=[.lit (.int .i64 (s.tsk i).id),.lit (.int .i64 (s.tsk i).group),.lit (.int .i64 (s.tsk i).weight),.lit (.int .i64 (s.tsk i).cpu),.lit (.int .u64 (s.tsk i).mask),.lit (.bool (s.tsk i).ready),.lit (.int .u64 (s.tsk i).v),.lit (.int .u32 (s.tsk i).r)]
def sf(s:St)(g c:Nat):List AVal:=[.lit (.int .u64 (s.sp g c).v),.lit (.int .u32 (s.sp g c).r),.lit (.int .u64 (s.sp g c).floor)]
def YK(s:St)(g:Nat):List AVal:=[.rd 3 (s.nsp g) (sf s g)]
def St.cells (s:St):List AVal:=[.lit (.int .i64 s.cpus),.lit (.int .u64 s.credit),.rd 2 s.ng (gf s),.rd 1 s.nk (kf s),.rd 1 s.nu (uf s),.rd 8 s.nt (tf s),.rd 1 s.ns (YK s)]
attribute [go_sem] gf kf uf tf sf YK St.cells
def cD(f:Nat->List Flt):Nat->List Flt
 |0=>[]
 |n+1=>cD f n++f n
theorem kN{f:Nat->List Flt}:cD f 0=[]:=rfl
theorem fQ{f:Nat->List Flt}{n:Nat}:cD f (n+1)=cD f n++f n:=rfl
theorem dX{f:Nat->List Flt}{m:Nat}(h:∀i,(f i).length<=m):∀n,(cD f n).length<=n*m
 |0=>by simp[cD]
 |n+1=>by have:=dX h n;have:=h n;simp only[cD,bM,cQ,Nat.one_mul];omega
def lN(s:St)(g:Nat):List Flt:=if(s.nsp g:Int)=s.cpus then []else [⟨2,3,g⟩]
theorem JW(s:St)(g:Nat):(lN s g).length<=1:=by unfold lN;split<;>simp
def kX(s:St):List Flt:=
 (if(s.nk:Int)≠s.cpus then [⟨2,0,0⟩]else [])++(if(s.nu:Int)≠s.cpus then [⟨2,1,0⟩]else [])++
   (if s.ns≠s.ng then [⟨2,2,0⟩]else cD (lN s) s.ns)
end Go.Proofs.T
end
