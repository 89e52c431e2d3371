import Derived.Test.YteimiejbhhgljaaGreatDoorZAD
import Derived.Lib.AppendZerosOnto
import Derived.Lib.Overlaps
import Derived.KernelRfl
import Derived.Test.YteimiejbhhgljaaGreatDoorProg
set_option linter.unusedVariables false
set_option linter.unusedSimpArgs false
set_option maxHeartbeats 0
set_option maxRecDepth 100000
open Array renaming eq_empty_of_size_eq_zero->lC,getD_eq_getD_getElem?->aD,getElem?_eq_some_iff->cZ,getElem?_toList->bA,length_toList->vM
open Bool renaming and_eq_true->aC,and_false->qP,and_true->qO,eq_iff_iff->aY,false_and->kD,false_eq_true->aO,not_eq_false'->dH,not_eq_true'->aT,or_eq_false_iff->fQ,or_eq_true->bH,true_eq_false->bM,true_or->yV
open Go.IntKind renaming i64->aN,u32->jF,u64->bN
open List renaming all_cons->hY,all_eq_true->aW,any_eq_true->aHT,append_assoc->bL,contains_iff_mem->bGA,getD_eq_getElem?_getD->bD,getElem?_append->kY,getElem?_cons_succ->eW,getElem?_cons_zero->iX,getElem?_drop->hU,getElem?_eq_getElem->aE,getElem?_eq_some_iff->aG,getElem?_map->aQ,getElem?_of_mem->aAC,getElem?_set->fY,getElem?_take->lB,getElem?_toArray->cH,getElem_mem->bKH,length_append->bQ,length_replicate->bFY,length_set->PI,length_take->bKG,map->jL,map_append->aH,map_cons->bG,map_map->jD,map_nil->aV,mem_cons->jK,mem_map->cL,mem_of_getElem?->jC,mem_singleton->gZ,range->aM,range_succ->CI,replicate->eI,size_toArray->gW
open Nat renaming add_assoc->fS,add_mul->cX,add_sub_cancel->rN,add_sub_cancel_left->iW,add_zero->jX,le_refl->aF,le_trans->DS,lt_of_lt_of_le->oE,lt_succ_self->dC,mul_le_mul_right->dE,mul_one->bAM,sub_self->PG
open Option renaming map_eq_none_iff->dG,map_eq_some_iff->aB,map_none->oC,map_some->cB,some->mB
open Go.Result renaming andThen_ok->bI
open Go.Sem renaming run_bind->bO,run_pure->dP
open Go.Proofs.Tryz renaming f21->aHO,prog->aA
open Go.Value renaming bool->mG,int->bC,slice->dK
section
namespace Go.AM
structure Hd (G:Prop):Prop where
 o:G
structure Mk:Prop where
 o:True
structure Kp (l:List Nat) (g:Nat->Nat):Prop where
 o:True
structure Os (l:List Orc):Prop where
theorem zM{G:Prop}(h:G):Hd G:=⟨h⟩
theorem zN{G:Prop}(h:G):Hd (Hd G):=⟨⟨h⟩⟩
theorem zs{G:Prop}(h:G):Hd (Hd (Hd G)):=⟨⟨⟨h⟩⟩⟩
theorem zA{a b:Prop}(h:a)(k:b):a/\b:=⟨h,k⟩
theorem AW{p0 p1 p2:Prop}(h0:p0)(h1:p1)(h2:p2):p0/\p1/\p2:=⟨h0,h1,h2⟩
theorem DP{p0 p1 p2 p3:Prop}(h0:p0)(h1:p1)(h2:p2)(h3:p3):p0/\p1/\p2/\p3:=⟨h0,h1,h2,h3⟩
theorem xY{p0 p1 p2 p3 p4:Prop}(h0:p0)(h1:p1)(h2:p2)(h3:p3)(h4:p4):p0/\p1/\p2/\p3/\p4:=⟨h0,h1,h2,h3,h4⟩
theorem qQ{p0 p1 p2 p3 p4 p5:Prop}(h0:p0)(h1:p1)(h2:p2)(h3:p3)(h4:p4)(h5:p5):p0/\p1/\p2/\p3/\p4/\p5:=⟨h0,h1,h2,h3,h4,h5⟩
theorem yA{p0 p1 p2 p3 p4 p5 p6:Prop}(h0:p0)(h1:p1)(h2:p2)(h3:p3)(h4:p4)(h5:p5)(h6:p6):p0/\p1/\p2/\p3/\p4/\p5/\p6:=⟨h0,h1,h2,h3,h4,h5,h6⟩
theorem qW{p0 p1 p2 p3 p4 p5 p6 p7:Prop}(h0:p0)(h1:p1)(h2:p2)(h3:p3)(h4:p4)(h5:p5)(h6:p6)(h7:p7):p0/\p1/\p2/\p3/\p4/\p5/\p6/\p7:=⟨h0,h1,h2,h3,h4,h5,h6,h7⟩
theorem eQ{p0 p1 p2 p3 p4 p5 p6 p7 p8:Prop}(h0:p0)(h1:p1)(h2:p2)(h3:p3)(h4:p4)(h5:p5)(h6:p6)(h7:p7)(h8:p8):p0/\p1/\p2/\p3/\p4/\p5/\p6/\p7/\p8:=⟨h0,h1,h2,h3,h4,h5,h6,h7,h8⟩
theorem iH:Hd True:=⟨trivial⟩
theorem uU:(true&&true)=true:=rfl
theorem zq0:Hd True/\Hd True/\Hd True/\Hd True/\Hd True/\Hd True/\Hd True/\Hd True/\Hd True/\Hd True/\Hd True/\Hd True:=⟨iH,iH,iH,iH,iH,iH,iH,iH,iH,iH,iH,iH⟩
theorem aU{P0:Prop}(a0:Hd P0):Hd P0/\Hd True/\Hd True/\Hd True/\Hd True/\Hd True/\Hd True/\Hd True/\Hd True/\Hd True/\Hd True/\Hd True:=⟨a0,iH,iH,iH,iH,iH,iH,iH,iH,iH,iH,iH⟩
theorem dD{P0 P1:Prop}(a0:Hd P0)(a1:Hd P1):Hd P0/\Hd P1/\Hd True/\Hd True/\Hd True/\Hd True/\Hd True/\Hd True/\Hd True/\Hd True/\Hd True/\Hd True:=⟨a0,a1,iH,iH,iH,iH,iH,iH,iH,iH,iH,iH⟩
theorem wM{P0 P1 P2:Prop}(a0:Hd P0)(a1:Hd P1)(a2:Hd P2):Hd P0/\Hd P1/\Hd P2/\Hd True/\Hd True/\Hd True/\Hd True/\Hd True/\Hd True/\Hd True/\Hd True/\Hd True:=⟨a0,a1,a2,iH,iH,iH,iH,iH,iH,iH,iH,iH⟩
theorem DT{P0 P1 P2 P3:Prop}(a0:Hd P0)(a1:Hd P1)(a2:Hd P2)(a3:Hd P3):Hd P0/\Hd P1/\Hd P2/\Hd P3/\Hd True/\Hd True/\Hd True/\Hd True/\Hd True/\Hd True/\Hd True/\Hd True:=⟨a0,a1,a2,a3,iH,iH,iH,iH,iH,iH,iH,iH⟩
theorem zq5{P0 P1 P2 P3 P4:Prop}(a0:Hd P0)(a1:Hd P1)(a2:Hd P2)(a3:Hd P3)(a4:Hd P4):Hd P0/\Hd P1/\Hd P2/\Hd P3/\Hd P4/\Hd True/\Hd True/\Hd True/\Hd True/\Hd True/\Hd True/\Hd True:=⟨a0,a1,a2,a3,a4,iH,iH,iH,iH,iH,iH,iH⟩
theorem zq6{P0 P1 P2 P3 P4 P5:Prop}(a0:Hd P0)(a1:Hd P1)(a2:Hd P2)(a3:Hd P3)(a4:Hd P4)(a5:Hd P5):Hd P0/\Hd P1/\Hd P2/\Hd P3/\Hd P4/\Hd P5/\Hd True/\Hd True/\Hd True/\Hd True/\Hd True/\Hd True:=⟨a0,a1,a2,a3,a4,a5,iH,iH,iH,iH,iH,iH⟩
theorem zq7{P0 P1 P2 P3 P4 P5 P6:Prop}(a0:Hd P0)(a1:Hd P1)(a2:Hd P2)(a3:Hd P3)(a4:Hd P4)(a5:Hd P5)(a6:Hd P6):Hd P0/\Hd P1/\Hd P2/\Hd P3/\Hd P4/\Hd P5/\Hd P6/\Hd True/\Hd True/\Hd True/\Hd True/\Hd True:=⟨a0,a1,a2,a3,a4,a5,a6,iH,iH,iH,iH,iH⟩
theorem zq8{P0 P1 P2 P3 P4 P5 P6 P7:Prop}(a0:Hd P0)(a1:Hd P1)(a2:Hd P2)(a3:Hd P3)(a4:Hd P4)(a5:Hd P5)(a6:Hd P6)(a7:Hd P7):Hd P0/\Hd P1/\Hd P2/\Hd P3/\Hd P4/\Hd P5/\Hd P6/\Hd P7/\Hd True/\Hd True/\Hd True/\Hd True:=⟨a0,a1,a2,a3,a4,a5,a6,a7,iH,iH,iH,iH⟩
theorem zq9{P0 P1 P2 P3 P4 P5 P6 P7 P8:Prop}(a0:Hd P0)(a1:Hd P1)(a2:Hd P2)(a3:Hd P3)(a4:Hd P4)(a5:Hd P5)(a6:Hd P6)(a7:Hd P7)(a8:Hd P8):Hd P0/\Hd P1/\Hd P2/\Hd P3/\Hd P4/\Hd P5/\Hd P6/\Hd P7/\Hd P8/\Hd True/\Hd True/\Hd True:=⟨a0,a1,a2,a3,a4,a5,a6,a7,a8,iH,iH,iH⟩
theorem bHA{P0 P1 P2 P3 P4 P5 P6 P7 P8 P9:Prop}(a0:Hd P0)(a1:Hd P1)(a2:Hd P2)(a3:Hd P3)(a4:Hd P4)(a5:Hd P5)(a6:Hd P6)(a7:Hd P7)(a8:Hd P8)(a9:Hd P9):Hd P0/\Hd P1/\Hd P2/\Hd P3/\Hd P4/\Hd P5/\Hd P6/\Hd P7/\Hd P8/\Hd P9/\Hd True/\Hd True:=⟨a0,a1,a2,a3,a4,a5,a6,a7,a8,a9,iH,iH⟩
theorem bGZ{P0 P1 P2 P3 P4 P5 P6 P7 P8 P9 P10:Prop}(a0:Hd P0)(a1:Hd P1)(a2:Hd P2)(a3:Hd P3)(a4:Hd P4)(a5:Hd P5)(a6:Hd P6)(a7:Hd P7)(a8:Hd P8)(a9:Hd P9)(a10:Hd P10):Hd P0/\Hd P1/\Hd P2/\Hd P3/\Hd P4/\Hd P5/\Hd P6/\Hd P7/\Hd P8/\Hd P9/\Hd P10/\Hd True:=⟨a0,a1,a2,a3,a4,a5,a6,a7,a8,a9,a10,iH⟩
theorem a6E{P0 P1 P2 P3 P4 P5 P6 P7 P8 P9 P10 P11:Prop}(a0:Hd P0)(a1:Hd P1)(a2:Hd P2)(a3:Hd P3)(a4:Hd P4)(a5:Hd P5)(a6:Hd P6)(a7:Hd P7)(a8:Hd P8)(a9:Hd P9)(a10:Hd P10)(a11:Hd P11):Hd P0/\Hd P1/\Hd P2/\Hd P3/\Hd P4/\Hd P5/\Hd P6/\Hd P7/\Hd P8/\Hd P9/\Hd P10/\Hd P11:=⟨a0,a1,a2,a3,a4,a5,a6,a7,a8,a9,a10,a11⟩
theorem two{Q:Prop}(x:Q)(_:True):Q:=x
theorem vD{l:List Nat}{g:Nat->Nat}:Kp l g:=⟨trivial⟩
theorem fI(k:Nat)(L:List Nat):Kp L (λ i=>i-k):=vD
theorem kpb(k h:Nat)(L:List Nat):Kp L (λ i=>if h<=i then i-h+10 else i-k):=vD
section
variable{P:Program}{Γ:List (Nat×List AVal)}{nt kb:Nat}{Q:AQ}{k:Nat}{fr:Fr}{H:aS}{c:Code}{p:List Nat}{keep:List Nat}{g:Nat->Nat}
theorem VN(_:Kp keep g){id:Nat}{l:List Oper}(hc:fR c p= .region id l.toArray false)(hn:(l.all λ o=> !uE o&& !aFJ o)=true)(hd:mM nt l.toArray=true)
 (h:∀K:List Foot->Nat->Fr->aS->Prop,(∀tr k' fr' H',(kb<=k'->Q .normal k' (kA keep fr') H')->K tr k' fr' H')->DN P Γ l.toArray l [] k fr H K .mk):W P Γ nt kb (fR c p) Q k fr H:=gL hc keep hn hd h
theorem VO(_:Kp keep g){id:Nat}{l:List Oper}(hc:fR c p= .region id l.toArray true)(hn:(l.all λ o=> !uE o&& !aFJ o)=true)(hm:P.follows .mixedOrders=true)(hd:mM nt l.toArray=true)
 (h:∀K:List Foot->Nat->Fr->aS->Prop,(∀tr k' fr' H',kS l.toArray tr=true->(kb<=k'->Q .normal k' (kA keep fr') H')->K tr k' fr' H')->DN P Γ l.toArray l [] k fr H K .mk):W P Γ nt kb (fR c p) Q k fr H:=aUV hc keep hn hm hd h
theorem aEW(_:Kp keep g){cs:List Orc}(_:Os cs){id:Nat}{l:List Oper}(hc:fR c p= .region id l.toArray false)(hd:mM nt l.toArray=true)
 (h:∀K:List Foot->Nat->Fr->aS->Prop,(∀tr k' fr' H',(kb<=k'->Q .normal k' (kA keep fr') H')->K tr k' fr' H')->DN P Γ l.toArray l cs k fr H K .mk):W P Γ nt kb (fR c p) Q k fr H:=iF hc keep cs hd h
theorem aEX(_:Kp keep g){cs:List Orc}(_:Os cs){id:Nat}{l:List Oper}(hc:fR c p= .region id l.toArray true)(hm:P.follows .mixedOrders=true)(hd:mM nt l.toArray=true)
 (h:∀K:List Foot->Nat->Fr->aS->Prop,(∀tr k' fr' H',kS l.toArray tr=true->(kb<=k'->Q .normal k' (kA keep fr') H')->K tr k' fr' H')->DN P Γ l.toArray l cs k fr H K .mk):W P Γ nt kb (fR c p) Q k fr H:=bAK hc keep cs hm hd h
end
theorem aSI{keep:List Nat}{g:Nat->Nat}(_:Kp keep g){ops:Array Oper}{tr:List Foot}{L:List (List Nat×List Nat)}(hL:tr.map (shG g)=L)(h:IL ops L=true)(hm:(tr.all λ f=>f.mods.all λ x=>decide (x<f.k'))=true):kS ops tr=true:=yR g hL h hm
theorem wl{Q P1 P2 P3 P4 P5 P6 P7 P8 P9 P10 P11 P12:Prop}(p:Hd P1/\Hd P2/\Hd P3/\Hd P4/\Hd P5/\Hd P6/\Hd P7/\Hd P8/\Hd P9/\Hd P10/\Hd P11/\Hd P12)
 (h:Hd P1->Hd P2->Hd P3->Hd P4->Hd P5->Hd P6->Hd P7->Hd P8->Hd P9->Hd P10->Hd P11->Hd P12->Q:=by
 intro a1 a2 a3 a4 a5 a6 a7 a8 a9 a10 a11 a12;refine two ?_ ?_;·(repeat'(first|(refine bY rfl ?_)|(refine eZ rfl ?_)|(refine fD rfl ?_;(try simp-dsimp-implicitDefEqProofs only[go_sem,uU,eq_self,↓reduceIte]))|(refine jU rfl ?_;(try simp-dsimp-implicitDefEqProofs only[go_sem,uU,eq_self,↓reduceIte]))|(refine gA rfl _ rfl (λ zt=>?_) (λ zt=>?_)<;>(try(simp only[nf]at zt))<;>(try(exfalso;omega)))|((first|(refine VN kp rfl rfl rfl (λ zK hK=>?_))|(refine VO kp rfl rfl (by kernel_rfl) rfl (λ zK hK=>?_)));simp-dsimp-implicitDefEqProofs only[go_sem,uU,eq_self,↓reduceIte];(repeat'(first|(refine And.intro ?_ ?_)|(refine iI (λ hb=>?_) (λ hb=>?_)<;>(have zg:=hb;(try simp only[QH]at zg);simp-dsimp-implicitDefEqProofs only[go_sem,uU,hb,zg,eq_self,↓reduceIte];clear hb;(try simp only[QG]at zg)))));any_goals ((first|refine hK _ _ _ _ (λ hx=>?_)|refine hK _ _ _ _ (aSI kp (by simp only[bG,aV,shG,uU,↓reduceIte,iW,PG];rfl) (by decide+kernel) (sV @uU)) (λ hx=>?_)|refine hK _ _ _ _ (BR (by kernel_rfl) (sV @uU)) (λ hx=>?_));clear hx hK;simp-dsimp-implicitDefEqProofs only[go_sem,uU,eq_self,↓reduceIte];(try simp(disch:=omega)only[wrap_i64,fF,wrap_u32,jV])))|omega));all_goals(refine Hd.o ?_;(repeat revert zg);refine Hd.o ?_;(repeat revert zt);first|((fail_if_success(fail_if_success(have zz:Hd Mk:=a1)));exact Hd.o a1)|((fail_if_success(fail_if_success(have zz:Hd Mk:=a2)));exact Hd.o a2)|((fail_if_success(fail_if_success(have zz:Hd Mk:=a3)));exact Hd.o a3)|((fail_if_success(fail_if_success(have zz:Hd Mk:=a4)));exact Hd.o a4)|((fail_if_success(fail_if_success(have zz:Hd Mk:=a5)));exact Hd.o a5)|((fail_if_success(fail_if_success(have zz:Hd Mk:=a6)));exact Hd.o a6)|((fail_if_success(fail_if_success(have zz:Hd Mk:=a7)));exact Hd.o a7)|((fail_if_success(fail_if_success(have zz:Hd Mk:=a8)));exact Hd.o a8)|((fail_if_success(fail_if_success(have zz:Hd Mk:=a9)));exact Hd.o a9)|((fail_if_success(fail_if_success(have zz:Hd Mk:=a10)));exact Hd.o a10)|((fail_if_success(fail_if_success(have zz:Hd Mk:=a11)));exact Hd.o a11)|((fail_if_success(fail_if_success(have zz:Hd Mk:=a12)));exact Hd.o a12))
 (try have zz:Hd True:=a1);(try have zz:Hd True:=a2);(try have zz:Hd True:=a3);(try have zz:Hd True:=a4);(try have zz:Hd True:=a5);(try have zz:Hd True:=a6);(try have zz:Hd True:=a7);(try have zz:Hd True:=a8);(try have zz:Hd True:=a9);(try have zz:Hd True:=a10);(try have zz:Hd True:=a11);(try have zz:Hd True:=a12);exact trivial):Q:=h p.1 p.2.1 p.2.2.1 p.2.2.2.1 p.2.2.2.2.1 p.2.2.2.2.2.1 p.2.2.2.2.2.2.1 p.2.2.2.2.2.2.2.1 p.2.2.2.2.2.2.2.2.1 p.2.2.2.2.2.2.2.2.2.1 p.2.2.2.2.2.2.2.2.2.2.1 p.2.2.2.2.2.2.2.2.2.2.2
theorem cl(os:List Orc){Q P1 P2 P3 P4 P5 P6 P7 P8 P9 P10 P11 P12:Prop}(p:Hd P1/\Hd P2/\Hd P3/\Hd P4/\Hd P5/\Hd P6/\Hd P7/\Hd P8/\Hd P9/\Hd P10/\Hd P11/\Hd P12)
 (h:Os os->Hd P1->Hd P2->Hd P3->Hd P4->Hd P5->Hd P6->Hd P7->Hd P8->Hd P9->Hd P10->Hd P11->Hd P12->Q:=by
 intro oo a1 a2 a3 a4 a5 a6 a7 a8 a9 a10 a11 a12;refine two ?_ ?_;·(refine aEW kp oo rfl rfl (λ zK hK=>?_));simp-dsimp-implicitDefEqProofs only[go_sem,uU,eq_self,↓reduceIte];(repeat'(first|(refine And.intro ?_ ?_)|(refine iI (λ hb=>?_) (λ hb=>?_)<;>(have zg:=hb;(try simp only[QH]at zg);simp-dsimp-implicitDefEqProofs only[go_sem,uU,hb,zg,eq_self,↓reduceIte];clear hb;(try simp only[QG]at zg)))));(any_goals ((refine hK _ _ _ _ (λ hx=>?_));clear hx hK;simp-dsimp-implicitDefEqProofs only[go_sem,uU,eq_self,↓reduceIte];(try simp(disch:=omega)only[wrap_i64,fF,wrap_u32,jV])));(all_goals(try omega));all_goals(refine Hd.o ?_;(repeat revert zg);refine Hd.o ?_;(repeat revert zt);first|((fail_if_success(fail_if_success(have zz:Hd Mk:=a1)));exact Hd.o a1)|((fail_if_success(fail_if_success(have zz:Hd Mk:=a2)));exact Hd.o a2)|((fail_if_success(fail_if_success(have zz:Hd Mk:=a3)));exact Hd.o a3)|((fail_if_success(fail_if_success(have zz:Hd Mk:=a4)));exact Hd.o a4)|((fail_if_success(fail_if_success(have zz:Hd Mk:=a5)));exact Hd.o a5)|((fail_if_success(fail_if_success(have zz:Hd Mk:=a6)));exact Hd.o a6)|((fail_if_success(fail_if_success(have zz:Hd Mk:=a7)));exact Hd.o a7)|((fail_if_success(fail_if_success(have zz:Hd Mk:=a8)));exact Hd.o a8)|((fail_if_success(fail_if_success(have zz:Hd Mk:=a9)));exact Hd.o a9)|((fail_if_success(fail_if_success(have zz:Hd Mk:=a10)));exact Hd.o a10)|((fail_if_success(fail_if_success(have zz:Hd Mk:=a11)));exact Hd.o a11)|((fail_if_success(fail_if_success(have zz:Hd Mk:=a12)));exact Hd.o a12))
 (try have zz:Hd True:=a1);(try have zz:Hd True:=a2);(try have zz:Hd True:=a3);(try have zz:Hd True:=a4);(try have zz:Hd True:=a5);(try have zz:Hd True:=a6);(try have zz:Hd True:=a7);(try have zz:Hd True:=a8);(try have zz:Hd True:=a9);(try have zz:Hd True:=a10);(try have zz:Hd True:=a11);(try have zz:Hd True:=a12);exact trivial):Q:=h ⟨⟩ p.1 p.2.1 p.2.2.1 p.2.2.2.1 p.2.2.2.2.1 p.2.2.2.2.2.1 p.2.2.2.2.2.2.1 p.2.2.2.2.2.2.2.1 p.2.2.2.2.2.2.2.2.1 p.2.2.2.2.2.2.2.2.2.1 p.2.2.2.2.2.2.2.2.2.2.1 p.2.2.2.2.2.2.2.2.2.2.2
theorem dl(os:List Orc){Q P1 P2 P3 P4 P5 P6 P7 P8 P9 P10 P11 P12:Prop}(p:Hd P1/\Hd P2/\Hd P3/\Hd P4/\Hd P5/\Hd P6/\Hd P7/\Hd P8/\Hd P9/\Hd P10/\Hd P11/\Hd P12)
 (h:Os os->Hd P1->Hd P2->Hd P3->Hd P4->Hd P5->Hd P6->Hd P7->Hd P8->Hd P9->Hd P10->Hd P11->Hd P12->Q:=by
 intro oo a1 a2 a3 a4 a5 a6 a7 a8 a9 a10 a11 a12;refine two ?_ ?_;·(refine aEX kp oo rfl (by kernel_rfl) rfl (λ zK hK=>?_));simp-dsimp-implicitDefEqProofs only[go_sem,uU,eq_self,↓reduceIte];(repeat'(first|(refine And.intro ?_ ?_)|(refine iI (λ hb=>?_) (λ hb=>?_)<;>(have zg:=hb;(try simp only[QH]at zg);simp-dsimp-implicitDefEqProofs only[go_sem,uU,hb,zg,eq_self,↓reduceIte];clear hb;(try simp only[QG]at zg)))));(any_goals ((first|refine hK _ _ _ _ (aSI kp (by simp only[bG,aV,shG,uU,↓reduceIte,iW,PG];rfl) (by decide+kernel) (sV @uU)) (λ hx=>?_)|refine hK _ _ _ _ (BR (by kernel_rfl) (sV @uU)) (λ hx=>?_));clear hx hK;simp-dsimp-implicitDefEqProofs only[go_sem,uU,eq_self,↓reduceIte];(try simp(disch:=omega)only[wrap_i64,fF,wrap_u32,jV])));(all_goals(try omega));all_goals(refine Hd.o ?_;(repeat revert zg);refine Hd.o ?_;(repeat revert zt);first|((fail_if_success(fail_if_success(have zz:Hd Mk:=a1)));exact Hd.o a1)|((fail_if_success(fail_if_success(have zz:Hd Mk:=a2)));exact Hd.o a2)|((fail_if_success(fail_if_success(have zz:Hd Mk:=a3)));exact Hd.o a3)|((fail_if_success(fail_if_success(have zz:Hd Mk:=a4)));exact Hd.o a4)|((fail_if_success(fail_if_success(have zz:Hd Mk:=a5)));exact Hd.o a5)|((fail_if_success(fail_if_success(have zz:Hd Mk:=a6)));exact Hd.o a6)|((fail_if_success(fail_if_success(have zz:Hd Mk:=a7)));exact Hd.o a7)|((fail_if_success(fail_if_success(have zz:Hd Mk:=a8)));exact Hd.o a8)|((fail_if_success(fail_if_success(have zz:Hd Mk:=a9)));exact Hd.o a9)|((fail_if_success(fail_if_success(have zz:Hd Mk:=a10)));exact Hd.o a10)|((fail_if_success(fail_if_success(have zz:Hd Mk:=a11)));exact Hd.o a11)|((fail_if_success(fail_if_success(have zz:Hd Mk:=a12)));exact Hd.o a12))
 (try have zz:Hd True:=a1);(try have zz:Hd True:=a2);(try have zz:Hd True:=a3);(try have zz:Hd True:=a4);(try have zz:Hd True:=a5);(try have zz:Hd True:=a6);(try have zz:Hd True:=a7);(try have zz:Hd True:=a8);(try have zz:Hd True:=a9);(try have zz:Hd True:=a10);(try have zz:Hd True:=a11);(try have zz:Hd True:=a12);exact trivial):Q:=h ⟨⟩ p.1 p.2.1 p.2.2.1 p.2.2.2.1 p.2.2.2.2.1 p.2.2.2.2.2.1 p.2.2.2.2.2.2.1 p.2.2.2.2.2.2.2.1 p.2.2.2.2.2.2.2.2.1 p.2.2.2.2.2.2.2.2.2.1 p.2.2.2.2.2.2.2.2.2.2.1 p.2.2.2.2.2.2.2.2.2.2.2
theorem cR{A B:Prop}(b:Hd (Hd B))(h:Hd (Hd B)->A:=by intro b1;refine aX rfl ?_;simp-dsimp-implicitDefEqProofs only[go_sem,uU,eq_self,↓reduceIte];refine⟨_,rfl,?_⟩;exact Hd.o (Hd.o b1)):A:=h b
theorem rR{A B:Prop}(b:Hd B)(h:Hd B->A:=by
 intro b1;refine two ?_ ?_;·(simp-dsimp-implicitDefEqProofs only[go_sem,uU,eq_self,↓reduceIte])<;>exact Hd.o (Hd.o b1)
 (try have zz:Hd True:=b1);exact trivial):A:=h b
end Go.AM
end
section
namespace Go.AM
open Go
def deS:AVal->AVal
 | .slc id r m _=> .sl id r m
 |v=>v
theorem aST{w:World}{G:Nat->Prop}{ρ:cM}{A:bU}{v:AVal}{cv:Value}(h:V w G ρ A v cv):V w G ρ A (deS v) cv:=by
 cases h with
 |dangc h1 h2=>exact .dangs h1 h2
 |slc h1 h2 h3 h4 h5 h6 h7=>exact .sl h1 h2 h3 h4 h5 h6 h7
 |junk=>exact .junk
 |lit=>exact .lit
 |dang h1 h2=>exact .dang h1 h2
 |dangs h1 h2=>exact .dangs h1 h2
 |ptr h1 h2 h3=>exact .ptr h1 h2 h3
 |dangm h1 h2=>exact .dangm h1 h2
 |mp h1 h2 h3=>exact .mp h1 h2 h3
 |dangi h1 h2=>exact .dangi h1 h2
 |it h1 h2 h3=>exact .it h1 h2 h3
 |sl h1 h2 h3 h4 h5 h6 h7=>exact .sl h1 h2 h3 h4 h5 h6 h7
 |sl0 h1 h2=>exact .sl0 h1 h2
 |rp g h1 h2 h3=>exact .rp g h1 h2 h3
 |rd0=>exact .rd0
 |rd g h1 h2 h3 h4 h5 h6=>exact .rd g h1 h2 h3 h4 h5 h6
 |agg h1 h2=>exact .agg h1 h2
 |tup h1 h2=>exact .tup h1 h2
 |fn h1 h2=>exact .fn h1 h2
 |nn=>exact .nn
 |bfn h=>exact .bfn h
theorem VLe.slc (id r n c:Nat):VLe (.slc id r n c) (.sl id r n):=λ _ _ _ _ _ h=>aST h
section
variable{P:Program}{Γ:List (Nat×List AVal)}{nt kb:Nat}{Q:AQ}{k:Nat}{fr:Fr}{H:aS}{c:Code}
theorem bAG(t:Nat){id r n:Nat}{B:Blk}(hf:look fr t=some (.sl id r n))(hB:look H id=some B)(h0:n=0->W P Γ nt kb c Q k ((t,.lit (.slice none 0 0))::del fr t) H)(h:∀cap,n<=cap->cap<=9223372036854775807->W P Γ nt kb c Q k ((t,.slc id r n cap)::del fr t) H):
 W P Γ nt kb c Q k fr H:=λ A0 hA0 hk w G ρ a hi=>by
 have hv:=hi.frm t _ hf
 obtain⟨_,b,hb,_⟩:=hi.rel.blk id B (jA A0 kb k) (by simp[bK,hB])
 generalize hev:a.tmps.getD t undef=cv at hv
 cases hv with
 |dangs _ hn=>rw[hb]at hn;cases hn
 | sl0 h1 h2=>
   refine h0 rfl A0 hA0 hk w G ρ a ⟨hi.rel,hi.size,hi.defers,λ t' v hv'=>?_⟩
   simp only[look]at hv'
   split at hv'
   · rename_i he;subst he;cases hv';rw[hev];exact .lit
   · rw[gI]at hv'
     split at hv'
     · cases hv'
     · exact hi.frm t' v hv'
 | sl h1 h2 h3 h4 h5 h6 h7=>
   refine h _ h5 h6 A0 hA0 hk w G ρ a ⟨hi.rel,hi.size,hi.defers,λ t' v hv'=>?_⟩
   simp only[look]at hv'
   split at hv'
   · rename_i he;subst he;cases hv';rw[hev];exact .slc h1 h2 h3 h4 h5 h6 h7
   · rw[gI]at hv'
     split at hv'
     · cases hv'
     · exact hi.frm t' v hv'
end
def pX(rows new:List (List AVal))(r:Nat):List (List AVal):=rows.take r++new++rows.drop (r+new.length)
theorem HV{rows new:List (List AVal)}{r:Nat}(hr:r<=rows.length){q:Nat}{row:List AVal}(h:(pX rows new r)[q]? =some row):
 (q<r/\rows[q]? =some row)\/(r<=q/\q<r+new.length/\new[q-r]? =some row)\/(r+new.length<=q/\rows[q]? =some row):=by
 unfold pX at h;rw[bL,kY]at h;have hl:(rows.take r).length=r:=by simp;omega
 rw[hl]at h;split at h;.rename_i hlt;rw[lB,if_pos hlt]at h;exact .inl ⟨hlt,h⟩
 rename_i hge;rw[kY]at h;split at h;.rename_i h2;exact .inr (.inl ⟨oO,oO,h⟩)
 rename_i h2;rw[hU]at h;have e:r+new.length+(q-r-new.length)=q:=oO;rw[e]at h;exact .inr (.inr ⟨oO,h⟩)
section
variable{P:Program}{Γ:List (Nat×List AVal)}{o:Oper}{ev:Operand->Option AVal}{get:Nat->Option Blk}{k:Nat}
theorem aHX{w:World}{G:Nat->Prop}{ρ:cM}{H:lP}{A A':bU}(hr:HRel Γ w G ρ H){id b:Nat}{B:Blk}{C:Array Value}{ty:TypeId}(hAid:A id)(hAA:∀i,A' i->A i)(hb:ρ id=some (b,B.sz))(hC:w.heap[b]? =some (.cells C ty (0,0)))
 (hrows:∀r row c v,B.rows[r]? =some row->row[c]? =some v->∃cv,C[r*B.sz+c]? =some cv/\V w G (if B.pure then bR else ρ) (if B.pure then cF else A') v cv) (hlen:∀(r:Nat) row,B.rows[r]? =some row->row.length=B.sz)
 (r m:Nat) (src:List (List AVal)) (ps:Bool) (gv:Nat->Nat->Value) (hsl:src.length=m) (hsrl:∀(q:Nat) row,src[q]? =some row->row.length=B.sz)
 (hgv:∀q row c v,src[q]? =some row->row[c]? =some v->V w G (if ps then bR else ρ) (if ps then cF else A) v (gv q c)) (hr0:r<=B.rows.length) (hfit:(r+m)*B.sz<=C.size):
 HRel Γ (w.setRow b (C.toList.take (r*B.sz)++news B.sz m gv++C.toList.drop (r*B.sz+(news B.sz m gv).length)).toArray) G ρ (iR H (λ i=>A i\/(k<=i/\i<k)) [(id,some ⟨B.sz,B.pure&&ps,pX B.rows src r⟩)])∧
   Step (λ i=>¬(k<=i/\i<k)) w G ρ (w.setRow b (C.toList.take (r*B.sz)++news B.sz m gv++C.toList.drop (r*B.sz+(news B.sz m gv).length)).toArray) G ρ:=by
 have hnl:=LJ B.sz m gv;have hfit':r*B.sz+m*B.sz<=C.size:=by rw[<-cX];exact hfit
 have hseg:=BE (l:=C.toList) (vs:=news B.sz m gv) (o:=r*B.sz) (by rw[hnl];simpa using hfit');have hl2:(C.toList.take (r*B.sz)++news B.sz m gv++C.toList.drop (r*B.sz+(news B.sz m gv).length)).toArray.size=C.size:=by simp only[gW,bQ,bKG,List.length_drop,vM];omega
 have hold:∀(v:AVal) (cv:Value),V w G (if B.pure then bR else ρ) (if B.pure then cF else A') v cv->V w G (if(B.pure&&ps)then bR else ρ) (if(B.pure&&ps)then cF else A) v cv:=λ v cv h=>by
  cases hp:B.pure with
  |true=>
   rw[hp]at h;simp only[if_true]at h
   cases ps with
   |true=>simpa using h
   |false=>simp only[qP,aO,if_false];exact h.weaken
  |false=>
   rw[hp]at h;simp only[kD,aO,if_false]at h⊢
   exact h.mono (λ _ h=>h) (λ _ _=>rfl) (λ _ _=>rfl) hAA (λ _ _=> .inr rfl)
 have hnew:∀(v:AVal) (cv:Value),V w G (if ps then bR else ρ) (if ps then cF else A) v cv->V w G (if(B.pure&&ps)then bR else ρ) (if(B.pure&&ps)then cF else A) v cv:=λ v cv h=>by
  cases ps with
  |true=>
   simp only[if_true]at h
   cases B.pure with
   |true=>simpa using h
   |false=>simp only[kD,aO,if_false];exact h.weaken
  |false=>simpa using h
 have hrw:=vX hr hb id (.inl rfl) ⟨B.sz,B.pure&&ps,pX B.rows src r⟩ rfl
  (C.toList.take (r*B.sz)++news B.sz m gv++C.toList.drop (r*B.sz+(news B.sz m gv).length)).toArray ty A (λ i=>A i\/(k<=i/\i<k)) (.inl rfl) (λ _ h=> .inl h) (.inl hAid)
  (w.setRow b (C.toList.take (r*B.sz)++news B.sz m gv++C.toList.drop (r*B.sz+(news B.sz m gv).length)).toArray)
  (setRow_heap w b C _ ty _ hC) (λ j hj=>setRow_other w b j _ hj) (size_setRow _ _ _)
  (by unfold World.shape?;rw[setRow_heap w b C _ ty _ hC,hC];simp only[hl2])
  rfl rfl rfl (λ q row h=>by
    rcases HV hr0 h with⟨_,h⟩|⟨_,_,h⟩|⟨_,h⟩;.exact hlen q row h
    .exact hsrl _ row h
    exact hlen q row h)
  (λ q row c v h1 h2=>by
    show ∃cv,(C.toList.take (r*B.sz)++news B.sz m gv++C.toList.drop (r*B.sz+(news B.sz m gv).length)).toArray[q*B.sz+c]? =some cv/\V w G (if(B.pure&&ps)then bR else ρ) (if(B.pure&&ps)then cF else A) v cv;rw[cH,hseg];rcases HV hr0 h1 with⟨hq,h⟩|⟨hq,hq',h⟩|⟨hq,h⟩
    .obtain⟨cu,h3,h4⟩:=hrows q row c v h h2;have hc:c<B.sz:=by have:=(aG.1 h2).1;have:=hlen q row h;omega
     have h6:q*B.sz+c<r*B.sz:=by have:(q+1)*B.sz<=r*B.sz:=dE _ hq;rw[cX]at this;omega
     rw[if_pos h6];exact⟨cu,by rw[bA];exact h3,hold v cu h4⟩
    .have hc:c<B.sz:=by have:=(aG.1 h2).1;have:=hsrl _ row h;omega
     have h9:=wY (gv:=gv) (by omega:q-r<m) hc;have h10:=(aG.1 h9).1
     have e1:q*B.sz+c=r*B.sz+((q-r)*B.sz+c):=by
      have:q*B.sz=r*B.sz+(q-r)*B.sz:=by rw[<-cX];congr 1;omega
      omega
     rw[e1,if_neg oO,if_pos oO];have e2:r*B.sz+((q-r)*B.sz+c)-r*B.sz=(q-r)*B.sz+c:=oO;rw[e2];exact⟨_,h9,hnew v _ (hgv _ row c v h h2)⟩
    obtain⟨cu,h3,h4⟩:=hrows q row c v h h2;have h6:r*B.sz+(news B.sz m gv).length<=q*B.sz+c:=by have:(r+m)*B.sz<=q*B.sz:=dE _ oO;rw[cX]at this;omega
    rw[if_neg oO,if_neg oO];exact⟨cu,by rw[bA];exact h3,hold v cu h4⟩)
 obtain⟨hrel,hst⟩:=hrw
 have hnm:dT (dT ρ id none) id (some (b,B.sz))=ρ:=funext λ i=>by
  simp only[dT];split;.rename_i he;rw[he,hb]
  rfl
 rw[hnm]at hrel hst;have hup:iR H (λ i=>A i\/(k<=i/\i<k)) [(id,some ⟨B.sz,B.pure&&ps,pX B.rows src r⟩),(id,none)]=iR H (λ i=>A i\/(k<=i/\i<k)) [(id,some ⟨B.sz,B.pure&&ps,pX B.rows src r⟩)]:=funext λ i=>by simp only[iR];split<;>rfl
 rw[hup]at hrel;exact⟨hrel,⟨hst.size,hst.keep,hst.shape,hst.g,hst.g',hst.own,λ i _=>hst.ids i (.inr rfl),hst.os,hst.tape,hst.output⟩⟩
end
section
variable{P:Program}{Γ:List (Nat×List AVal)}{o:Oper}{ev:Operand->Option AVal}{get:Nat->Option Blk}{k:Nat}
theorem KP{w:World}{G:Nat->Prop}{ρ:cM}{H:lP}{A A':bU}(hr:HRel Γ w G ρ H){id r n c:Nat}{B:Blk}(hH:H id=some (B,A')){cv:Value}(hv:V w G ρ A (.slc id r n c) cv):
 ∃ b off C ty,cv= .slice (some ⟨b,off,none⟩) n c/\A id/\ρ id=some (b,B.sz)/\w.heap[b]? =some (.cells C ty (0,0))/\(r+c)*B.sz<=C.size/\n<=c/\c<=maxLen/\(c=0\/off=r*B.sz)∧
   (∀r row c v,B.rows[r]? =some row->row[c]? =some v->∃cv,C[r*B.sz+c]? =some cv/\V w G (if B.pure then bR else ρ) (if B.pure then cF else A') v cv)/\(∀(r:Nat) row,B.rows[r]? =some row->row.length=B.sz):=by
 obtain⟨_,b,hb,_,hBR⟩:=hr.blk id B A' hH
 cases hv with
 |dangc _ hn=>rw[hb]at hn;cases hn
 |slc h1 h2 h3 h4 h5 h6 h7=>rw[hb]at h2;cases h2;obtain⟨⟨C,ty,hC,hrows⟩,hlen⟩:=hBR.old h3;have e:=h3;unfold World.shape? at e;rw[hC]at e;simp at e;obtain⟨rfl,rfl⟩:=e;exact⟨_,_,C,_,rfl,h1,hb,hC,h4,h5,h6,h7,hrows,hlen⟩
theorem OJ{t s:Nat}(ht:CD P t=some s)(lo hi:Option Value)(base:Option Addr)(len cap:Nat)(l h:Int)(hl:lo=none/\l=0\/∃kk,lo=some (.int kk l))(hh:hi=none/\h=len\/∃kk,hi=some (.int kk h))
 (h0:0<=l) (h1:l<=h) (h2:h<=cap) (w:World):
 (Instr.sliceAt t (.slice base len cap) lo hi none).run P w= .ok (.slice (if cap=l.toNat then base else base.map (·.add (l.toNat*s))) (h.toNat-l.toNat) (cap-l.toNat)) w:=by
 obtain⟨e,i,hu,hi',rfl⟩:=MU ht
 have hb:(Instr.sliceBounds true len cap lo hi none).run P w= .ok (l.toNat,h.toNat,cap) w:=by
  have q1:(0:Int)<=h/\h<=(cap:Int):=⟨oO,oO⟩;have q3:(0:Int)<=l/\l<=(h.toNat:Int):=⟨h0,oO⟩;rcases hl with⟨rfl,rfl⟩|⟨kl,rfl⟩<;>rcases hh with⟨rfl,rfl⟩|⟨kh,rfl⟩;.simp[Instr.sliceBounds]
  .simp[Instr.sliceBounds,Instr.sliceBound,asIntOf,q1]
  .have q2:(0:Int)<=l/\l<=(len:Int):=⟨h0,h1⟩;simp[Instr.sliceBounds,Instr.sliceBound,asIntOf,q2]
  simp only[Instr.sliceBounds,Instr.sliceBound,asIntOf,bO,dP,bI,q1,and_self,if_true,q3]
 simp only[Instr.sliceAt,underlying,bO,run_program,bI,hu,dP,Instr.slice,hb,sizeOf,typeInfo,hi']
theorem aWJ{t id r n c:Nat}{x:Operand}{lo hi:Option Operand}{B:Blk}{l h:Int}(ho:o.op= .slice t x lo hi none)(ht:CD P t=some B.sz)(hx:ev x=some (.slc id r n c))
 (hl:bound ev lo 0=some l) (hh:bound ev hi n=some h) (h0:0<=l) (h1:l<=h) (h2:h<=c) {w:World} {G:Nat->Prop} {ρ:cM} {H:lP} {A A':bU} {a:Act} (hr:HRel Γ w G ρ H) (hH:H id=some (B,A'))
 (hop:∀x,x∈o.op.operands->∀v,ev x=some v->V w G ρ A v (a.eval x)):
 ∃cv,(execOp a.eval o).run P w= .ok (.value cv) w/\V w G ρ A (.slc id (r+l.toNat) (h.toNat-l.toNat) (c-l.toNat)) cv:=by
 have hvx:=hop x (by simp[ho,Op.operands]) _ hx;have el:=nC (w:=w) (G:=G) (ρ:=ρ) (A:=A) (a:=a) hl (λ y hy v hv=>hop y (by simp[ho,Op.operands,hy]) v hv);have eh:=nC (w:=w) (G:=G) (ρ:=ρ) (A:=A) (a:=a) hh (λ y hy v hv=>hop y (by simp[ho,Op.operands,hy]) v hv);obtain⟨b,off,C,ty,hev,hA,hb,hC,hm,hn,hmx,hoff,_⟩:=KP hr hH hvx;have hrun:=OJ ht (lo.map a.eval) (hi.map a.eval) (some ⟨b,off,none⟩) n c l h el eh h0 h1 h2 w;have hsh:w.shape? b=some (ty,C.size):=by unfold World.shape?;rw[hC]
 have hm':(r+l.toNat+(c-l.toNat))*B.sz<=C.size:=by have:r+l.toNat+(c-l.toNat)=r+c:=oO;rw[this];exact hm
 refine⟨_,by simp only[execOp,ho,hev,oC,bO,hrun,bI,dP];rfl,?_⟩;by_cases hcl:c=l.toNat;.rw[if_pos hcl];exact .slc hA hb hsh hm' oO oO (.inl oO)
 rw[if_neg hcl,cB,Addr.add_mid];refine .slc hA hb hsh hm' oO oO (.inr ?_);rcases hoff with h4|h4;.omega
 rw[h4,cX]
theorem aNY{t id r n c:Nat}{x:Operand}{lo hi:Option Operand}{B:Blk}{l h:Int}(ho:o.op= .slice t x lo hi none)(hB:get id=some B)(ht:CD P t=some B.sz)(hx:ev x=some (.slc id r n c))
 (hl:bound ev lo 0=some l) (hh:bound ev hi n=some h) (h0:0<=l) (h1:l<=h) (h2:h<=c):Good P Γ o ev get k ⟨.slc id (r+l.toNat) (h.toNat-l.toNat) (c-l.toNat),k,[],[id]⟩:=by refine⟨cE λ w G ρ H A a hr hrd hop=>?_,λ id' hid=>by simp at hid;rw[hid,hB];rfl,aF _⟩;obtain⟨B',A',h3,hH,_⟩:=hrd id sS;rw[hB]at h3;cases h3;exact aWJ ho ht hx hl hh h0 h1 h2 hr hH hop
end
section
variable{P:Program}{Γ:List (Nat×List AVal)}{o:Oper}{ev:Operand->Option AVal}{get:Nat->Option Blk}{k:Nat}
theorem WC{α:Type}{l:List α}{n q:Nat}{x:α}(h:(l.take n)[q]? =some x):q<n/\l[q]? =some x:=by
 rw[lB]at h;split at h;.exact⟨‹_›,h⟩
 cases h
theorem SrcA.some {v:AVal}{s m:Nat}{rows:List (List AVal)}{p:Bool}{ids:List Nat}(h:SrcA get v s m rows p ids):∀i,i∈ids->(get i).isSome=true:=λ i hi=>by
 cases h with
 |rd=>simp at hi
 |nil=>simp at hi
 |sl h1 _=>rw[gZ]at hi;rw[hi,h1];rfl
theorem aOV{id:Nat}{B:Blk}{ids:List Nat}(hB:get id=some B)(h:∀i,i∈ids->(get i).isSome=true):∀i,i∈id::ids->(get i).isSome=true:=λ i hi=>by
 rcases jK.1 hi with e|e;.rw[e,hB];rfl
 exact h i e
end
section
variable{P:Program}{Γ:List (Nat×List AVal)}{o:Oper}{ev:Operand->Option AVal}{get:Nat->Option Blk}{k:Nat}
theorem aHV(z:Array Value)(n:Nat):(Builtin.zeroCells z n).toList=news z.size n (λ _ c=>z[c]!):=by simp[Builtin.zeroCells,news]
theorem WR{α:Type}{n q:Nat}{x y:α}(h:(eI n x)[q]? =some y):q<n/\y=x:=by obtain⟨h1,h2⟩:=aG.1 h;rw[bFY]at h1;rw[List.getElem_replicate]at h2;exact⟨h1,h2.symm⟩
theorem aCV{t s by':Nat}{zrow:List AVal}(hz:iB P t=some (s,by',zrow)):∃e i z,P.underlying t=some (.slice e)/\P.info? e=some i/\i.zero=some z/\z.cells.size=i.size/\0<i.size/\s=i.size/\by'=i.bytes/\zrow=z.cells.toList.map .lit:=by
 unfold iB at hz;split at hz;case h_2=>cases hz
 rename_i e hu;split at hz;case h_2=>cases hz
 rename_i i hi;split at hz;case h_2=>cases hz
 rename_i z hzz;split at hz;case isFalse=>cases hz
 rename_i hsz;cases hz;exact⟨e,i,z,hu,hi,hzz,hsz.1,hsz.2,rfl,rfl,rfl⟩
theorem aDU{x:Operand}{t id r n c s by':Nat}{zrow:List AVal}{B:Blk}
 (ho:o.op= .call {callee:= .builtin .clear,args:= #[x],argTypes:= #[t]}) (hz:iB P t=some (s,by',zrow)) (hz1:zrow.all one=true) (hx:ev x=some (.slc id r n c)) (hB:get id=some B) (hBs:B.sz=s) (hn0:0<n) (hr:r+n<=B.rows.length):
 Good P Γ o ev get k ⟨.junk,k,[(id,some ⟨B.sz,B.pure&&true,pX B.rows (eI n zrow) r⟩)],[id]⟩:=by
 refine⟨?_,λ id' hid=>by simp at hid;rw[hid,hB];rfl,aF _⟩;intro w G ρ H A a hrl hA hf hrd hop next Q hn
 obtain⟨e,i,z,hu,hi,hzz,hsz,hs0,rfl,rfl,rfl⟩:=aCV hz;obtain⟨B',A',h3,hH,hAA⟩:=hrd id sS;rw[hB]at h3;cases h3;have hvx:=hop x (by simp[ho,Op.operands,Call.operands]) _ hx;obtain⟨b,off,C,ty,hev,h4,hb,hC,h7,h8,h9,h10,hrows,hlen⟩:=KP hrl hH hvx;have hoff:=h10.resolve_left oO;subst hoff;have hfit:(r+n)*B.sz<=C.size:=DS (dE _ oO) h7;have hnl:=LJ i.size n (λ _ c=>z.cells[c]!);have hzl:=aHV z.cells n;rw[hsz]at hzl;have hone:∀u∈news i.size n (λ _ c=>z.cells[c]!),u.oneCell'=true:=λ u hu=>by obtain⟨j,hj⟩:=aAC hu;obtain⟨h1,h2,rfl⟩:=LL hj hs0;have:j%i.size<z.cells.size:=oO;have hm:(AVal.lit z.cells[j%i.size])∈z.cells.toList.map AVal.lit:=cL.2 ⟨_,sS,rfl⟩;have:=aW.1 hz1 _ hm;simpa [one, *]using this
 have hst:=run_storeCells_at P b (r*B.sz) ty (news i.size n (λ _ c=>z.cells[c]!)) 0 C w hC (by rw[hnl,<-hBs];simp only[jX];rw[<-cX];exact hfit) hone;simp only[jX]at hst;have hrun':(execOp a.eval o).run P w= .ok (.value (.tuple #[])) (w.setRow b (C.toList.take (r*B.sz)++news i.size n (λ _ c=>z.cells[c]!)++C.toList.drop (r*B.sz+(news i.size n (λ _ c=>z.cells[c]!)).length)).toArray):=by obtain⟨m,rfl⟩:∃m,n=m+1:=⟨n-1,oO⟩;simp only[execOp,ho,resolve,invoke,builtin,Builtin.clear_];simp[hev,run_underlying hu,zeroValue,typeInfo,hi,hzz,hzl,hst]
 unfold Oper.wp;rw[hrun'];rw[<-hBs]
 have hw:=aHX (k:=k) hrl h4 hAA hb hC hrows hlen r n (eI n (z.cells.toList.map .lit)) true (λ _ c=>z.cells[c]!) sS (λ q row h=>by rw[(WR h).2];simp;omega)
  (λ q row c v h h'=>by
    obtain⟨_,rfl⟩:=WR h;rw[aQ,aB]at h';obtain⟨u,hu',rfl⟩:=h';rw[bA]at hu';have:z.cells[c]! =u:=by obtain⟨hc,hue⟩:=cZ.1 hu';rw[getElem!_pos z.cells c hc];exact hue
    show V w G (if true then bR else ρ) (if true then cF else A) (.lit u) z.cells[c]!;rw[this];exact .lit) oO hfit
 exact hn _ G ρ _ hw.1 .junk hw.2
end
theorem iN{a b:Nat}(h:a≠b):(a=b)=False:=eq_false h
def mK(f s:Nat):Nat->(Nat->List (List AVal))->aS
 |0,_=>[]
 |n+1,R=>(f,⟨s,true,R 0⟩)::mK (f+1) s n (λ j=>R (j+1))
section
variable{f s n g i:Nat}{R R':Nat->List (List AVal)}
theorem uB(h:g<n):AM.look (mK f s n R) (f+g)=some ⟨s,true,R g⟩:=by
 induction n generalizing f g R with
 |zero=>omega
 |succ n ih=>
  simp only[mK,AM.look]
  cases g with
  |zero=>simp
  |succ g=>rw[if_neg oO];have:=ih (f:=f+1) (g:=g) (R:=λ j=>R (j+1)) oO;rw[<-this];congr 1;omega
theorem QR(h:i<f\/f+n<=i):AM.look (mK f s n R) i=none:=by
 induction n generalizing f R with
 |zero=>rfl
 |succ n ih=>simp only[mK,AM.look];rw[if_neg oO];exact ih oO
theorem QS{B:Blk}(h:AM.look (mK f s n R) i=some B):f<=i/\i<f+n:=by
 by_cases hc:i<f\/f+n<=i;.rw[QR hc]at h;cases h
 omega
theorem ZB(h:i<f\/f+n<=i):del (mK f s n R) i=mK f s n R:=by
 induction n generalizing f R with
 |zero=>rfl
 |succ n ih=>simp only[mK,del];rw[if_neg oO,ih oO]
theorem KT{rows:List (List AVal)}(h:g<n):zQ (mK f s n R) (f+g) ⟨s,true,rows⟩=mK f s n (λ j=>if j=g then rows else R j):=by
 induction n generalizing f g R with
 |zero=>omega
 |succ n ih=>
  simp only[mK,zQ]
  cases g with
  |zero=>simp
  |succ g=>rw[if_neg oO];have:=ih (f:=f+1) (g:=g) (R:=λ j=>R (j+1)) oO;have e:f+1+g=f+(g+1):=oO;rw[e]at this;rw[this];simp
def xK(H:aS)(f s n:Nat)(R:Nat->List (List AVal)):Prop:=∀g,g<n->AM.look H (f+g)=some ⟨s,true,R g⟩
theorem MT{H:aS}{B:Blk}(h:i<f\/f+n<=i):xK ((i,B)::H) f s n R=xK H f s n R:=by
 unfold xK;refine propext ⟨λ h1 g hg=>?_,λ h1 g hg=>?_⟩;.have:=h1 g hg;simp only[AM.look]at this;rwa [if_neg oO]at this
 simp only[AM.look];rw[if_neg oO];exact h1 g hg
theorem aCU:xK (mK f s n R) f s n R=True:=eq_true λ g hg=>uB hg
theorem aXL{H:aS}:OO H (mK f s n R)=xK H f s n R:=by
 unfold xK
 induction n generalizing f R with
 |zero=>simp[mK,OO]
 |succ n ih=>
  simp only[mK,OO];rw[ih];refine propext ⟨λ⟨h1,h2⟩ g hg=>?_,λ h=>⟨h 0 oO,λ g hg=>?_⟩⟩
  .cases g with
   |zero=>exact h1
   |succ g=>have:=h2 g oO;rw[<-this];congr 1;omega
  have:=h (g+1) oO;rw[<-this];congr 1;omega
theorem FD{k:Nat}(h:f+n<=k):rG (kW k) (mK f s n R)=true:=by
 induction n generalizing f R with
 |zero=>rfl
 |succ n ih=>simp only[mK,rG,hY,yV,qO,aC];refine⟨by simp[kW];omega,?_⟩;exact ih oO
theorem aVW{a b:Nat}(h:(a<f\/f+n<=a)/\(b<f\/f+n<=b)):swH a b (mK f s n R)=mK f s n R:=by
 induction n generalizing f R with
 |zero=>rfl
 |succ n ih=>have h1:sw a b f=f:=WE oO oO;simp only[mK];have e:swH a b ((f,⟨s,true,R 0⟩)::mK (f+1) s n λ j=>R (j+1))=(sw a b f,swB a b ⟨s,true,R 0⟩)::swH a b (mK (f+1) s n λ j=>R (j+1)):=rfl;rw[e,h1,ih oO];rfl
end
attribute [go_sem] uB QR ZB KT MT aCU aXL FD aVW
section
variable{P:Program}{Γ:List (Nat×List AVal)}{nt kb:Nat}{Q:AQ}{k:Nat}{fr:Fr}{H:aS}{c:Code}
theorem aMK (id s:Nat){B:Blk}(hB:AM.look H id=some B)(hk:id<k):Mv kb k fr H (k+1) fr ((k,⟨s,true,[]⟩)::del H id):=λ hkb=>⟨oO,λ Γ nt A0 w G ρ ac hA hi=>by
 have hAk:¬jA A0 kb k k:=λ h=>by
  rcases h with h|h;.have:=hA _ h;omega
  omega
 have hal:∀i,jA A0 kb k i->jA A0 kb (k+1) i:=λ i h=>h.imp (λ h=>h) (λ h=>⟨h.1,oO⟩);obtain⟨hAid,b,hb,hg,hBR⟩:=hi.rel.blk id B (jA A0 kb k) (by simp[bK,hB]);have hne:id≠k:=oO
 have hρk:ρ k=none:=by
  cases hl:look H k with
  |none=>exact hi.rel.dom k (by simp[bK,hl])
  |some B=>exact absurd (hi.rel.blk k B (jA A0 kb k) (by simp only[bK,hl,cB])).1 hAk
 have hρ:∀i,jA A0 kb k i->dT (dT ρ id none) k (some (b,s)) i=none\/dT (dT ρ id none) k (some (b,s)) i=ρ i:=λ i h=>by
  simp only[dT];by_cases h1:i=k;.subst h1;exact absurd h hAk
  rw[if_neg h1];split;.exact .inl rfl
  exact .inr rfl
 have hV:∀v cv,V w G ρ (jA A0 kb k) v cv->V w G (dT (dT ρ id none) k (some (b,s))) (jA A0 kb (k+1)) v cv:=λ v cv h=>
  h.mono (λ _ h=>h) (λ _ _=>rfl) (λ _ _=>rfl) hal hρ
 refine⟨G,dT (dT ρ id none) k (some (b,s)),⟨⟨λ i h=>?_,λ i B' A h=>?_,λ i j x y z h1 h2=>?_,hi.rel.ro,hi.rel.glob⟩,hi.size,hi.defers,λ t v hv=>hV v _ (hi.frm t v hv)⟩,⟨aF _,λ _ _ _=>rfl,λ _ _=>rfl,λ _ h=>h,λ _ h=> .inl h,?_,λ i h=>?_,rfl,rfl,rfl⟩⟩
 .simp only[bK,dG,look]at h;split at h;.cases h
  rename_i h1;simp only[dT];rw[if_neg (λ e=>h1 e.symm)];split;.rfl
  rename_i h2;rw[gI,if_neg h2]at h;exact hi.rel.dom i (by simp[bK,h])
 .simp only[bK,aB,look]at h;obtain⟨B1,h,he⟩:=h;cases he;split at h;.rename_i h1;subst h1;cases h;obtain⟨C,ty,hC,_⟩:=hBR.ex;refine⟨.inr ⟨hkb,dC _⟩,b,by simp[dT],hg,⟨⟨C,ty,hC,λ r row c v h1 _=>by simp at h1⟩,λ r row h1=>by simp at h1⟩⟩
  rename_i h1;rw[gI]at h;split at h;.cases h
  rename_i h2;obtain⟨h3,x,h4,h5,⟨⟨C,ty,hC,hrows⟩,hlen⟩⟩:=hi.rel.blk i B' (jA A0 kb k) (by simp[bK,h]);refine⟨hal i h3,x,by simp only[dT];rw[if_neg (λ e=>h1 e.symm),if_neg h2];exact h4,h5,⟨⟨C,ty,hC,λ r row c v h6 h7=>?_⟩,hlen⟩⟩;obtain⟨cv,h8,h9⟩:=hrows r row c v h6 h7;refine⟨cv,h8,?_⟩;by_cases hp:B'.pure=true;.simp only[hp,if_true]at h9⊢;exact h9
  simp only[hp]at h9⊢;exact hV _ _ h9
 .have side:∀i s',dT (dT ρ id none) k (some (b,s)) i=some (x,s')->(i=k/\x=b)\/(i≠k/\i≠id/\ρ i=some (x,s')):=λ i s' h=>by
   simp only[dT]at h;split at h;.rename_i hq;cases h;exact .inl ⟨hq,rfl⟩
   rename_i hq;split at h;.cases h
   rename_i hq2;exact .inr ⟨hq,hq2,h⟩
  rcases side i y h1 with⟨e1,e2⟩|⟨e1,e2,e3⟩<;>rcases side j z h2 with⟨f1,f2⟩|⟨f1,f2,f3⟩;.rw[e1,f1]
  .subst e2;exact absurd (hi.rel.inj j id _ _ _ f3 hb) f2
  .subst f2;exact absurd (hi.rel.inj i id _ _ _ e3 hb) e2
  exact hi.rel.inj i j x y z e3 f3
 .rintro x ⟨i,s',hx⟩;simp only[dT]at hx;split at hx;.cases hx;exact .inl ⟨id,_,hb⟩
  split at hx;.cases hx
  exact .inl ⟨i,s',hx⟩
 have h':i<kb:=h;simp only[dT];rw[if_neg oO];split;.exact .inl rfl
 exact .inr rfl⟩
end
theorem nq3{a b:Nat}(h:a<=b):(a<=b)=True:=eq_true h
theorem nq4{a b:Nat}(h:b<a):(a<=b)=False:=eq_false oO
theorem nq5{a b:Nat}(h:a<b):(a<b)=True:=eq_true h
theorem ltB_iff{k i:Nat}:kW k i=decide (i<k):=rfl
theorem fH{kb k:Nat}{fr:Fr}{H:aS}{k1:Nat}{fr1:Fr}{H1:aS}(hb:kb<=k1:=by omega)(hf:leF fr fr1:=by simp-dsimp-implicitDefEqProofs (disch:=omega)only[go_sem,iN,aH,eq_self,↓reduceIte])(hH:OO H H1:=by simp-dsimp-implicitDefEqProofs (disch:=omega)only[go_sem,iN,aH,eq_self,↓reduceIte])(h:bdF (kW k1) fr1=true:=by simp-dsimp-implicitDefEqProofs (disch:=omega)only[go_sem,iN,nq5,ltB_iff,aH,eq_self,↓reduceIte])(h':rG (kW k1) H1=true:=by simp-dsimp-implicitDefEqProofs (disch:=omega)only[go_sem,iN,nq5,ltB_iff,aH,eq_self,↓reduceIte]):Mv kb k fr H k1 fr1 H1:=
 kU (vY hb hf hH h h')
theorem a9O{ops:Array Oper}{tr:List Foot}(g:Nat->Nat){L:List (List Nat×List Nat)}(hL:tr.map (shG g)=L:=by(simp-dsimp (disch:=omega)only[bG,aV,shG,iN,nq3,nq4,eq_self,↓reduceIte,iW,PG];rfl))(h:IL ops L=true:=by decide+kernel)(hm:(tr.all λ f=>f.mods.all λ x=>decide (x<f.k'))=true:=by simp-dsimp-implicitDefEqProofs (disch:=omega)only[go_sem,iN,nq5,ltB_iff,aH,eq_self,↓reduceIte]):kS ops tr=true:=yR g hL h hm
theorem a1S{ops:Array Oper}{tr:List Foot}(h:aSH ops (tr.map sh)=true:=by kernel_rfl)(hm:(tr.all λ f=>f.mods.all λ x=>decide (x<f.k'))=true:=by simp-dsimp-implicitDefEqProofs (disch:=omega)only[go_sem,iN,nq5,ltB_iff,aH,eq_self,↓reduceIte]):kS ops tr=true:=BR h hm
section
variable{P:Program}{Γ:List (Nat×List AVal)}{nt kb:Nat}{Q:AQ}{k:Nat}{fr:Fr}{H:aS}{c:Code}
theorem aUX (id j tk r n:Nat){B T:Blk}{row:List AVal}(hB:AM.look H id=some B)(hT:AM.look H tk=some T)(hne:tk≠id)(hp:B.pure=false)(hrow:B.rows[r]? =some row)(hj:row[j]? =some (.lit (.slice none 0 0))):
 Mv kb k fr H k fr ((id,⟨B.sz,false,B.rows.set r (row.set j (.sl tk n 0))⟩)::del H id):=λ hkb=>⟨hkb,λ Γ nt A0 w G ρ ac hA hi=>by
 obtain⟨hAid,b,hb,hg,hBR⟩:=hi.rel.blk id B (jA A0 kb k) (by simp[bK,hB])
 obtain⟨hAt,bt,hbt,_,_⟩:=hi.rel.blk tk T (jA A0 kb k) (by simp[bK,hT])
 obtain⟨⟨C,ty,hC,hrows⟩,hlen⟩:=hBR
 refine⟨G,ρ,⟨⟨λ i h=>?_,λ i B' A h=>?_,hi.rel.inj,hi.rel.ro,hi.rel.glob⟩,hi.size,hi.defers,hi.frm⟩,jT _ _ _ _⟩
 · simp only[bK,dG,look]at h
   split at h
   · cases h
   · rename_i h1
     rw[gI,if_neg (λ e=>h1 e.symm)]at h
     exact hi.rel.dom i (by simp[bK,h])
 · simp only[bK,aB,look]at h
   obtain⟨B1,h,he⟩:=h
   cases he
   split at h
   · rename_i h1
     subst h1
     cases h
     refine⟨hAid,b,hb,hg,⟨⟨C,ty,hC,λ q row' cc v h1 h2=>?_⟩,λ q row' h1=>?_⟩⟩
     · have h1':(B.rows.set r (row.set j (.sl tk n 0)))[q]? =some row':=h1
       rw[fY]at h1'
       simp only[aO,if_false]
       split at h1'
       · rename_i hq
         subst hq
         split at h1'
         · cases h1'
           rw[fY]at h2
           split at h2
           · rename_i hc
             subst hc
             split at h2
             · cases h2
               obtain⟨cv,h3,h4⟩:=hrows r row j _ hrow hj
               rw[hp]at h4
               cases h4
               exact⟨_,h3,.sl0 hAt hbt⟩
             · cases h2
           · obtain⟨cv,h3,h4⟩:=hrows r row cc v hrow h2
             rw[hp]at h4
             exact⟨cv,h3,by simpa using h4⟩
         · cases h1'
       · obtain⟨cv,h3,h4⟩:=hrows q row' cc v h1' h2
         rw[hp]at h4
         exact⟨cv,h3,by simpa using h4⟩
     · have h1':(B.rows.set r (row.set j (.sl tk n 0)))[q]? =some row':=h1
       rw[fY]at h1'
       split at h1'
       · split at h1'
         · cases h1';rw[PI];exact hlen r row hrow
         · cases h1'
       · exact hlen q row' h1'
   · rename_i h1
     rw[gI]at h
     split at h
     · cases h
     · exact hi.rel.blk i B' (jA A0 kb k) (by simp[bK,h])⟩
theorem AU{f:FuncId}{k kk:Nat}{args:List AVal}{H RH:aS}{V:AVal}(hk:k<=kk)(hb:bd (kW kk) V=true)(hB:rG (kW kk) RH=true)(h:Tr P Γ f k args H (λ _ r1 H1=>r1=V/\OO H1 RH)):
 Tr P Γ f k args H (λ k1 r1 H1=>k1=kk/\r1=V/\H1=RH):=
 Tr.weaken h λ k' r H' _ hq=>⟨kk,V,RH,hk,hq.1▸aK _,λ id B hid=>⟨B,EL hq.2 id B hid,pE B⟩,.inr ⟨hb,hB⟩,rfl,rfl,rfl⟩
end
end Go.AM
end
section
namespace Go.AM
theorem UG{keep:List Nat}{g:Nat->Nat}(_:Kp keep g){ops:Array Oper}{tr:List Foot}{L:List (List Nat×List Nat)}(hL:tr.map (shG g)=L:=by(simp-dsimp (disch:=omega)only[bG,aV,shG,iN,nq3,nq4,eq_self,↓reduceIte,iW,PG];rfl))(h:IL ops L=true:=by decide+kernel)(hm:(tr.all λ f=>f.mods.all λ x=>decide (x<f.k'))=true:=by simp-dsimp-implicitDefEqProofs (disch:=omega)only[go_sem,iN,nq5,ltB_iff,aH,bG,aV,eq_self,↓reduceIte]):kS ops tr=true:=a9O g hL h hm
theorem bS{Q P1 P2 P3 P4 P5 P6 P7 P8 P9 P10 P11 P12:Prop}(p:Hd P1/\Hd P2/\Hd P3/\Hd P4/\Hd P5/\Hd P6/\Hd P7/\Hd P8/\Hd P9/\Hd P10/\Hd P11/\Hd P12)
 (h:Hd P1->Hd P2->Hd P3->Hd P4->Hd P5->Hd P6->Hd P7->Hd P8->Hd P9->Hd P10->Hd P11->Hd P12->Q:=by
 intro a1 a2 a3 a4 a5 a6 a7 a8 a9 a10 a11 a12;refine two ?_ ?_;·(repeat'(first|(refine bY rfl ?_)|(refine eZ rfl ?_)|(refine fD rfl ?_;(try simp-dsimp-implicitDefEqProofs (disch:=omega)only[go_sem,iN,uU,eq_self,↓reduceIte]))|(refine jU rfl ?_;(try simp-dsimp-implicitDefEqProofs (disch:=omega)only[go_sem,iN,uU,eq_self,↓reduceIte]))|(refine gA rfl _ rfl (λ zt=>?_) (λ zt=>?_)<;>(try(simp only[nf]at zt))<;>(try(exfalso;omega)))|((first|(refine VN kp rfl rfl rfl (λ zK hK=>?_))|(refine VO kp rfl rfl (by kernel_rfl) rfl (λ zK hK=>?_)));simp-dsimp-implicitDefEqProofs (disch:=omega)only[go_sem,iN,uU,eq_self,↓reduceIte];(repeat'(first|(refine And.intro ?_ ?_)|(refine iI (λ hb=>?_) (λ hb=>?_)<;>(have zg:=hb;(try simp only[QH]at zg);simp-dsimp-implicitDefEqProofs (disch:=omega)only[go_sem,iN,uU,hb,zg,eq_self,↓reduceIte];clear hb;(try simp only[QG]at zg)))));any_goals ((first|refine hK _ _ _ _ (λ hx=>?_)|refine hK _ _ _ _ (UG kp) (λ hx=>?_)|refine hK _ _ _ _ a1S (λ hx=>?_));clear hx hK;simp-dsimp-implicitDefEqProofs (disch:=omega)only[go_sem,iN,uU,eq_self,↓reduceIte];(try simp(disch:=omega)only[wrap_i64,fF,wrap_u32,jV])))|omega));all_goals(refine Hd.o ?_;(repeat revert zg);refine Hd.o ?_;(repeat revert zt);first|((fail_if_success(fail_if_success(have zz:Hd Mk:=a1)));exact Hd.o a1)|((fail_if_success(fail_if_success(have zz:Hd Mk:=a2)));exact Hd.o a2)|((fail_if_success(fail_if_success(have zz:Hd Mk:=a3)));exact Hd.o a3)|((fail_if_success(fail_if_success(have zz:Hd Mk:=a4)));exact Hd.o a4)|((fail_if_success(fail_if_success(have zz:Hd Mk:=a5)));exact Hd.o a5)|((fail_if_success(fail_if_success(have zz:Hd Mk:=a6)));exact Hd.o a6)|((fail_if_success(fail_if_success(have zz:Hd Mk:=a7)));exact Hd.o a7)|((fail_if_success(fail_if_success(have zz:Hd Mk:=a8)));exact Hd.o a8)|((fail_if_success(fail_if_success(have zz:Hd Mk:=a9)));exact Hd.o a9)|((fail_if_success(fail_if_success(have zz:Hd Mk:=a10)));exact Hd.o a10)|((fail_if_success(fail_if_success(have zz:Hd Mk:=a11)));exact Hd.o a11)|((fail_if_success(fail_if_success(have zz:Hd Mk:=a12)));exact Hd.o a12))
 (try have zz:Hd True:=a1);(try have zz:Hd True:=a2);(try have zz:Hd True:=a3);(try have zz:Hd True:=a4);(try have zz:Hd True:=a5);(try have zz:Hd True:=a6);(try have zz:Hd True:=a7);(try have zz:Hd True:=a8);(try have zz:Hd True:=a9);(try have zz:Hd True:=a10);(try have zz:Hd True:=a11);(try have zz:Hd True:=a12);exact trivial):Q:=h p.1 p.2.1 p.2.2.1 p.2.2.2.1 p.2.2.2.2.1 p.2.2.2.2.2.1 p.2.2.2.2.2.2.1 p.2.2.2.2.2.2.2.1 p.2.2.2.2.2.2.2.2.1 p.2.2.2.2.2.2.2.2.2.1 p.2.2.2.2.2.2.2.2.2.2.1 p.2.2.2.2.2.2.2.2.2.2.2
theorem lU(os:List Orc){Q P1 P2 P3 P4 P5 P6 P7 P8 P9 P10 P11 P12:Prop}(p:Hd P1/\Hd P2/\Hd P3/\Hd P4/\Hd P5/\Hd P6/\Hd P7/\Hd P8/\Hd P9/\Hd P10/\Hd P11/\Hd P12)
 (h:Os os->Hd P1->Hd P2->Hd P3->Hd P4->Hd P5->Hd P6->Hd P7->Hd P8->Hd P9->Hd P10->Hd P11->Hd P12->Q:=by
 intro oo a1 a2 a3 a4 a5 a6 a7 a8 a9 a10 a11 a12;refine two ?_ ?_;·(refine aEW kp oo rfl rfl (λ zK hK=>?_));simp-dsimp-implicitDefEqProofs (disch:=omega)only[go_sem,iN,uU,eq_self,↓reduceIte];(repeat'(first|(refine And.intro ?_ ?_)|(refine iI (λ hb=>?_) (λ hb=>?_)<;>(have zg:=hb;(try simp only[QH]at zg);simp-dsimp-implicitDefEqProofs (disch:=omega)only[go_sem,iN,uU,hb,zg,eq_self,↓reduceIte];clear hb;(try simp only[QG]at zg)))));(any_goals ((refine hK _ _ _ _ (λ hx=>?_));clear hx hK;simp-dsimp-implicitDefEqProofs (disch:=omega)only[go_sem,iN,uU,eq_self,↓reduceIte];(try simp(disch:=omega)only[wrap_i64,fF,wrap_u32,jV])));(all_goals(try omega));all_goals(refine Hd.o ?_;(repeat revert zg);refine Hd.o ?_;(repeat revert zt);first|((fail_if_success(fail_if_success(have zz:Hd Mk:=a1)));exact Hd.o a1)|((fail_if_success(fail_if_success(have zz:Hd Mk:=a2)));exact Hd.o a2)|((fail_if_success(fail_if_success(have zz:Hd Mk:=a3)));exact Hd.o a3)|((fail_if_success(fail_if_success(have zz:Hd Mk:=a4)));exact Hd.o a4)|((fail_if_success(fail_if_success(have zz:Hd Mk:=a5)));exact Hd.o a5)|((fail_if_success(fail_if_success(have zz:Hd Mk:=a6)));exact Hd.o a6)|((fail_if_success(fail_if_success(have zz:Hd Mk:=a7)));exact Hd.o a7)|((fail_if_success(fail_if_success(have zz:Hd Mk:=a8)));exact Hd.o a8)|((fail_if_success(fail_if_success(have zz:Hd Mk:=a9)));exact Hd.o a9)|((fail_if_success(fail_if_success(have zz:Hd Mk:=a10)));exact Hd.o a10)|((fail_if_success(fail_if_success(have zz:Hd Mk:=a11)));exact Hd.o a11)|((fail_if_success(fail_if_success(have zz:Hd Mk:=a12)));exact Hd.o a12))
 (try have zz:Hd True:=a1);(try have zz:Hd True:=a2);(try have zz:Hd True:=a3);(try have zz:Hd True:=a4);(try have zz:Hd True:=a5);(try have zz:Hd True:=a6);(try have zz:Hd True:=a7);(try have zz:Hd True:=a8);(try have zz:Hd True:=a9);(try have zz:Hd True:=a10);(try have zz:Hd True:=a11);(try have zz:Hd True:=a12);exact trivial):Q:=h ⟨⟩ p.1 p.2.1 p.2.2.1 p.2.2.2.1 p.2.2.2.2.1 p.2.2.2.2.2.1 p.2.2.2.2.2.2.1 p.2.2.2.2.2.2.2.1 p.2.2.2.2.2.2.2.2.1 p.2.2.2.2.2.2.2.2.2.1 p.2.2.2.2.2.2.2.2.2.2.1 p.2.2.2.2.2.2.2.2.2.2.2
theorem mN(os:List Orc){Q P1 P2 P3 P4 P5 P6 P7 P8 P9 P10 P11 P12:Prop}(p:Hd P1/\Hd P2/\Hd P3/\Hd P4/\Hd P5/\Hd P6/\Hd P7/\Hd P8/\Hd P9/\Hd P10/\Hd P11/\Hd P12)
 (h:Os os->Hd P1->Hd P2->Hd P3->Hd P4->Hd P5->Hd P6->Hd P7->Hd P8->Hd P9->Hd P10->Hd P11->Hd P12->Q:=by
 intro oo a1 a2 a3 a4 a5 a6 a7 a8 a9 a10 a11 a12;refine two ?_ ?_;·(refine aEX kp oo rfl (by kernel_rfl) rfl (λ zK hK=>?_));simp-dsimp-implicitDefEqProofs (disch:=omega)only[go_sem,iN,uU,eq_self,↓reduceIte];(repeat'(first|(refine And.intro ?_ ?_)|(refine iI (λ hb=>?_) (λ hb=>?_)<;>(have zg:=hb;(try simp only[QH]at zg);simp-dsimp-implicitDefEqProofs (disch:=omega)only[go_sem,iN,uU,hb,zg,eq_self,↓reduceIte];clear hb;(try simp only[QG]at zg)))));(any_goals ((first|refine hK _ _ _ _ (UG kp) (λ hx=>?_)|refine hK _ _ _ _ a1S (λ hx=>?_));clear hx hK;simp-dsimp-implicitDefEqProofs (disch:=omega)only[go_sem,iN,uU,eq_self,↓reduceIte];(try simp(disch:=omega)only[wrap_i64,fF,wrap_u32,jV])));(all_goals(try omega));all_goals(refine Hd.o ?_;(repeat revert zg);refine Hd.o ?_;(repeat revert zt);first|((fail_if_success(fail_if_success(have zz:Hd Mk:=a1)));exact Hd.o a1)|((fail_if_success(fail_if_success(have zz:Hd Mk:=a2)));exact Hd.o a2)|((fail_if_success(fail_if_success(have zz:Hd Mk:=a3)));exact Hd.o a3)|((fail_if_success(fail_if_success(have zz:Hd Mk:=a4)));exact Hd.o a4)|((fail_if_success(fail_if_success(have zz:Hd Mk:=a5)));exact Hd.o a5)|((fail_if_success(fail_if_success(have zz:Hd Mk:=a6)));exact Hd.o a6)|((fail_if_success(fail_if_success(have zz:Hd Mk:=a7)));exact Hd.o a7)|((fail_if_success(fail_if_success(have zz:Hd Mk:=a8)));exact Hd.o a8)|((fail_if_success(fail_if_success(have zz:Hd Mk:=a9)));exact Hd.o a9)|((fail_if_success(fail_if_success(have zz:Hd Mk:=a10)));exact Hd.o a10)|((fail_if_success(fail_if_success(have zz:Hd Mk:=a11)));exact Hd.o a11)|((fail_if_success(fail_if_success(have zz:Hd Mk:=a12)));exact Hd.o a12))
 (try have zz:Hd True:=a1);(try have zz:Hd True:=a2);(try have zz:Hd True:=a3);(try have zz:Hd True:=a4);(try have zz:Hd True:=a5);(try have zz:Hd True:=a6);(try have zz:Hd True:=a7);(try have zz:Hd True:=a8);(try have zz:Hd True:=a9);(try have zz:Hd True:=a10);(try have zz:Hd True:=a11);(try have zz:Hd True:=a12);exact trivial):Q:=h ⟨⟩ p.1 p.2.1 p.2.2.1 p.2.2.2.1 p.2.2.2.2.1 p.2.2.2.2.2.1 p.2.2.2.2.2.2.1 p.2.2.2.2.2.2.2.1 p.2.2.2.2.2.2.2.2.1 p.2.2.2.2.2.2.2.2.2.1 p.2.2.2.2.2.2.2.2.2.2.1 p.2.2.2.2.2.2.2.2.2.2.2
theorem IZ{A B:Prop}(b:Hd (Hd B))(h:Hd (Hd B)->A:=by intro b1;refine aX rfl ?_;simp-dsimp-implicitDefEqProofs (disch:=omega)only[go_sem,iN,uU,eq_self,↓reduceIte];refine⟨_,rfl,?_⟩;exact Hd.o (Hd.o b1)):A:=h b
theorem cQ{A B:Prop}(b:Hd B)(h:Hd B->A:=by
 intro b1;refine two ?_ ?_;·(simp-dsimp-implicitDefEqProofs (disch:=omega)only[go_sem,iN,uU,eq_self,↓reduceIte])<;>exact Hd.o (Hd.o b1)
 (try have zz:Hd True:=b1);exact trivial):A:=h b
end Go.AM
end
section
namespace Go.AM
open Go
def NO(Hc:aS)(ρ:cM)(b:Nat):Prop:=∃id B s,AM.look Hc id=some B/\ρ id=some (b,s)
def SG(Hc:aS)(H:lP)(A:bU):Prop:=∀id B,AM.look Hc id=some B->∃A',H id=some (B,A')/\∀i,A' i->A i
def Bor(Γ:List (Nat×List AVal))(Hc:aS)(v v':AVal):Prop:=
 ∀w G ρ H A cv,HRel Γ w G ρ H->SG Hc H A->V w G ρ A v cv->V w (λ b=>G b\/NO Hc ρ b) bR cF v' cv
inductive BorL (Γ:List (Nat×List AVal)) (Hc:aS):List AVal->List AVal->Prop
 |nil:BorL Γ Hc [] []
 |cons {v v' vs vs'}:Bor Γ Hc v v'->BorL Γ Hc vs vs'->BorL Γ Hc (v::vs) (v'::vs')
theorem BorL.len {Γ:List (Nat×List AVal)}{Hc:aS}{vs vs':List AVal}(h:BorL Γ Hc vs vs'):vs.length=vs'.length:=by
 induction h with
 |nil=>rfl
 |cons _ _ ih=>simp[ih]
theorem BorL.get {Γ:List (Nat×List AVal)}{Hc:aS}{vs vs':List AVal}(h:BorL Γ Hc vs vs'):∀(j:Nat) v',vs'[j]? =some v'->∃v,vs[j]? =some v/\Bor Γ Hc v v':=by
 induction h with
 |nil=>intro j v' hj;simp at hj
 |cons h1 _ ih=>
  intro j v' hj
  cases j with
  |zero=>simp only[iX,mB.injEq]at hj;subst hj;exact⟨_,rfl,h1⟩
  |succ j=>simp only[eW]at hj⊢;exact ih j v' hj
theorem oY {Γ:List (Nat×List AVal)}{Hc:aS}{v:AVal}(h:clean v=true):Bor Γ Hc v v:=λ w G ρ H A cv _ _ hv=>
 (FB hv h).mono (λ _ h=> .inl h) (λ _ _=>rfl) (λ _ _=>rfl) (λ _ h=>h) (λ _ h=>h.elim)
def aQB:AVal->Bool
 | .lit _=>true
 | .agg cs=>cs.all λ v=>match v with| .lit _=>true|_=>false
 |_=>false
def a3R:AVal->Bool
 | .tup vs=>vs.all aQB
 |v=>aQB v
theorem aGG{w w':World}{G G':Nat->Prop}{ρ ρ':cM}{A A':bU}{v:AVal}{cv:Value}(h:V w G ρ A v cv)(hl:aQB v=true):V w' G' ρ' A' v cv:=by
 cases v with
 |lit u=>cases h;exact .lit
 |agg cs=>
  cases h with
  |agg h1 h2=>
   refine .agg h1 λ j u hj=>?_;have h3:=gP hl hj;have h4:=h2 j u hj
   cases u with
   |lit x=>have e:=gV h4;rw[e];exact .lit
   |_=>cases h3
 |_=>cases hl
theorem aQA{w w':World}{G G':Nat->Prop}{ρ ρ':cM}{A A':bU}{v:AVal}{cv:Value}(h:V w G ρ A v cv)(hl:a3R v=true):V w' G' ρ' A' v cv:=by
 cases v with
 |tup vs=>
  cases h with
  |tup h1 h2=>exact .tup h1 λ j u hj=>aGG (h2 j u hj) (gP hl hj)
 |_=>exact aGG h hl
section
variable{P:Program}{Γ:List (Nat×List AVal)}{o:Oper}{ev:Operand->Option AVal}{get:Nat->Option Blk}{k:Nat}
theorem aWK{f:Operand}{args:Array Operand}{ty:Array TypeId}{g:FuncId}{vs vs':List AVal}{Hc:aS}{r:AVal}
 (ho:o.op= .call {callee:= .value f,args:=args,argTypes:=ty}) (hg:aL P g=true) (hf:ev f=some (.fn g [])) (ha:rF ev args.toList=some vs)
 (hb:BorL Γ Hc vs vs') (hin:∀id B,AM.look Hc id=some B->get id=some B) (hr:a3R r=true) (hp:Pure P Γ g vs' r):Good P Γ o ev get k ⟨r,k,[],Hc.map (·.1)⟩:=by
 refine⟨?_,λ id hid=>by simp only[cL]at hid;obtain⟨x,hx,rfl⟩:=hid;obtain⟨y,hy⟩:=IB hx;rw[hin _ y hy];rfl,aF _⟩
 intro w G ρ H A a hrl hA hfr hrd hop next Q hn
 have hvf:=hop f (by simp[ho,Op.operands,Call.operands]) _ hf;have hVs:=VB (a:=a) (w:=w) (G:=G) (ρ:=ρ) (A:=A) ha λ x hx v hv=>hop x (by simp[ho,Op.operands,Call.operands,hx]) v hv;have hHc:SG Hc H A:=λ id B hB=>by obtain⟨B',A',h1,h2,h3⟩:=hrd id (by simp only[cL];exact⟨(id,B),EK hB,rfl⟩);rw[hin id B hB]at h1;cases h1;exact⟨A',h2,h3⟩
 obtain⟨cs,hcv,hcs⟩:∃cs,a.eval f= .func (.func g) #[] cs/\cs= #[]:=by
  generalize a.eval f=cv at hvf
  cases hvf with
  |fn h1 h2=>exact⟨_,rfl,lC (by simpa using h1.symm)⟩
 subst hcs;have hlt:∀b,NO Hc ρ b->b<w.heap.size/\¬G b:=λ b ⟨id,B,s,h1,h2⟩=>⟨hrl.owned_lt ⟨id,s,h2⟩,hrl.owned_not_ro ⟨id,s,h2⟩⟩
 have hrel1:HRel Γ w (λ b=>G b\/NO Hc ρ b) bR (bK [] cF):=
  ⟨λ _ _=>rfl,(λ id B A' hid=>by simp[bK,look]at hid),(λ i j b s t h=>by cases h),λ b hb=>hb.elim (hrl.ro b) (λ h=>(hlt b h).1),(λ g' cells hg'=>by obtain⟨h1,h2,h3⟩:=hrl.glob g' cells hg';exact⟨h1.mono (λ _ h=> .inl h) (λ _ _=>rfl) (λ _ _=>rfl) (λ _ h=>h) (λ _ h=>h.elim),.inl h2,h3⟩)⟩
 have hVs1:Vs w (λ b=>G b\/NO Hc ρ b) bR cF vs' (args.map a.eval):=⟨by rw[<-hb.len];exact hVs.1,λ j v' hj=>by obtain⟨v,h1,h2⟩:=hb.get j v' hj;exact h2 w G ρ H A _ hrl hHc (hVs.2 j v h1)⟩
 have hcall:=hp k cF (λ i hi=>hi.elim) w _ bR (args.map a.eval) hrel1 hVs1;unfold Oper.wp;rw[WQ ho hg a #[] hcv w,Array.append_empty];refine hcall.mono λ e w' hq=>?_;obtain⟨cv,G',ρ',k',r',H',rfl,⟨rfl,rfl,rfl⟩,_,hrel',hV',hst'⟩:=hq;have hkeep:∀b,b<w.heap.size->w'.heap[b]? =w.heap[b]? :=λ b hb=>hst'.keep b hb (λ⟨i,s,h⟩=>by cases h)
 have hst:Step (λ i=>¬(k'<=i/\i<k')) w G ρ w' (λ b=>G b\/(w.heap.size<=b/\G' b)) ρ:=
  ⟨hst'.size,λ b hb _=>hkeep b hb,hst'.shape,λ _ h=> .inl h,λ b h=>h.elim .inl (λ h=> .inr (.inr h.1)),λ _ h=> .inl h,λ _ _=> .inr rfl,hst'.os,hst'.tape,hst'.output⟩
 refine hn w' _ ρ cv ?_ (aQA hV' hr) hst;refine hrl.after hst H hrl.dom (λ id B A1 hid=>?_) hrl.inj (λ b hb=>hb.elim (λ h=>oE (hrl.ro b h) hst'.size) (λ h=>hrel'.ro b h.2));obtain⟨h1,b,h2,h3,_⟩:=hrl.blk id B A1 hid;have hbl:=hrl.owned_lt ⟨id,_,h2⟩;exact⟨h1,.inl ⟨A1,b,hid,λ _ h=>h,λ i _ hc=>oO,rfl,h2,hkeep b hbl,λ h=>h.elim h3 (λ h=>oO)⟩⟩
theorem Bor.ptr {Hc:aS}{id r:Nat}{B:Blk}{row:List AVal}{cells:List AVal}(hB:AM.look Hc id=some B)(hrow:B.rows[r]? =some row)(hl:cells.length=row.length)(h:∀(j:Nat) v v',row[j]? =some v->cells[j]? =some v'->Bor Γ Hc v v'):Bor Γ Hc (.ptr id r 0) (.rp cells):=λ w G ρ H A cv hr hh hv=>by
 obtain⟨A',hH,hAA⟩:=hh id B hB;obtain⟨_,b,hb,_,hBR⟩:=hr.blk id B A' hH
 cases hv with
 |dang _ hn=>rw[hb]at hn;cases hn
 |ptr ha hρ hsh=>
  rw[hb]at hρ;cases hρ;obtain⟨⟨C,ty,hC,hrows⟩,hlen⟩:=hBR.old hsh
  have key:∀(j:Nat) v',cells[j]? =some v'->∃v cu,row[j]? =some v/\C[r*B.sz+j]? =some cu/\V w G ρ A v cu:=λ j v' hj=>by
   have hlt:=(aG.1 hj).1;have hu:row[j]? =some row[j]:=aE oO;obtain⟨cu,h3,h4⟩:=hrows r row j _ hrow hu;refine⟨_,cu,hu,h3,?_⟩;by_cases hp:B.pure=true;.simp only[hp,if_true]at h4;exact h4.weaken
   simp only[hp]at h4;exact h4.mono (λ _ h=>h) (λ _ _=>rfl) (λ _ _=>rfl) hAA (λ _ _=> .inr rfl)
  refine .rp (λ j=>C.getD (r*B.sz+j) undef) (.inr ⟨id,B,_,hB,hb⟩) (λ j v' hj=>?_) (λ j v' hj=>?_);.obtain⟨v,cu,_,h3,_⟩:=key j v' hj;rw[jX,cell_of_row w b _ C ty (0,0) hC,h3,aD,h3];rfl
  obtain⟨v,cu,h2,h3,h4⟩:=key j v' hj;have e:C.getD (r*B.sz+j) undef=cu:=by rw[aD,h3];rfl
  rw[e];exact h j v v' h2 hj w G ρ H A cu hr hh h4
theorem Bor.sl {Hc:aS}{id r n:Nat}{B:Blk}{F:Nat->List AVal}(hB:AM.look Hc id=some B)(hn:r+n<=B.rows.length)(hl:∀i,i<n->(F i).length=B.sz)
 (h:∀(i:Nat) row (j:Nat) v v',i<n->B.rows[r+i]? =some row->row[j]? =some v->(F i)[j]? =some v'->Bor Γ Hc v v'):Bor Γ Hc (.sl id r n) (.rd B.sz n F):=λ w G ρ H A cv hr hh hv=>by
 obtain⟨A',hH,hAA⟩:=hh id B hB
 obtain⟨_,b,hb,_,hBR⟩:=hr.blk id B A' hH
 cases hv with
 |dangs _ hn=>rw[hb]at hn;cases hn
 |sl0=>exact .rd0
 | sl ha hρ hsh hm hn1 hc hoff=>
   rw[hb]at hρ;cases hρ
   rename_i cap off
   obtain⟨⟨C,ty,hC,hrows⟩,hlen⟩:=hBR.old hsh
   by_cases h0:n=0
   · subst h0;exact .rd0
   have hoff':off=r*B.sz:=hoff.resolve_left oO
   subst hoff'
   have key:∀(i j:Nat) v',i<n->(F i)[j]? =some v'->∃row v cu,B.rows[r+i]? =some row/\row[j]? =some v/\C[(r+i)*B.sz+j]? =some cu/\V w G ρ A v cu:=λ i j v' hi hj=>by
    have hrow:B.rows[r+i]? =some B.rows[r+i]:=aE oO;have hlr:=hlen _ _ hrow;have hlt:=(aG.1 hj).1;rw[hl i hi]at hlt;have hu:B.rows[r+i][j]? =some (B.rows[r+i][j]'oO):=aE oO;obtain⟨cu,h3,h4⟩:=hrows (r+i) _ j _ hrow hu;refine⟨_,_,cu,hrow,hu,h3,?_⟩;by_cases hp:B.pure=true;.simp only[hp,if_true]at h4;exact h4.weaken
    simp only[hp]at h4;exact h4.mono (λ _ h=>h) (λ _ _=>rfl) (λ _ _=>rfl) hAA (λ _ _=> .inr rfl)
   refine .rd (λ i j=>C.getD ((r+i)*B.sz+j) undef) (.inr ⟨id,B,_,hB,hb⟩) hn1 oO hl (λ i j v' hi hj=>?_) (λ i j v' hi hj=>?_)
   · obtain⟨row,v,cu,_,_,h3,_⟩:=key i j v' hi hj
     have e:r*B.sz+i*B.sz+j=(r+i)*B.sz+j:=by rw[cX]
     rw[e,cell_of_row w b _ C ty (0,0) hC,h3,aD,h3];rfl
   · obtain⟨row,v,cu,h1,h2,h3,h4⟩:=key i j v' hi hj
     have e:C.getD ((r+i)*B.sz+j) undef=cu:=by rw[aD,h3];rfl
     rw[e]
     exact h i row j v v' hi h1 h2 hj w G ρ H A cu hr hh h4
end
def nub:List Nat->List Nat
 |[]=>[]
 |a::r=>if(nub r).contains a then nub r else a::nub r
theorem mem_nub{x:Nat}:∀ {l:List Nat},x∈nub l↔x∈l
 |[]=>Iff.rfl
 |a::r=>by
  have ih:=mem_nub (x:=x) (l:=r);rw[nub];split
  .rename_i h;rw[bGA]at h;rw[ih,jK];constructor;.exact .inr
   rintro(rfl|h2);.exact mem_nub.1 h
   exact h2
  rw[jK,jK,ih]
def shN(g:Nat->Nat)(f:Foot):List Nat×List Nat:=(nub (f.rds.map g),f.mods.map g)
theorem QK{a a' b b':List Nat}(ha:∀x,x∈a->x∈a')(hb:∀x,x∈b->x∈b')(h:jO a' b'=false):jO a b=false:=by
 cases hm:jO a b with
 |false=>rfl
 |true=>
  unfold jO at hm h;obtain⟨x,hx,hxb⟩:=aHT.1 hm
  have:(a'.any λ y=>b'.contains y)=true:=aHT.2 ⟨x,ha x hx,by
   rw[bGA]at hxb⊢
   exact hb x hxb⟩
  rw[this]at h;cases h
theorem aZM{g:Nat->Nat}{ops:Array Oper}{oj oi:Oper}{fj fi:Foot}(h:HJ ops oj (shN g fj) oi (shN g fi)=false):nB ops oj fj oi fi=false:=by refine aHH (g:=g) ?_;simp only[HJ,fQ,shN]at h;simp only[HJ,fQ,shG];obtain⟨⟨⟨⟨⟨h1,h2⟩,h3⟩,h4⟩,h5⟩,h6⟩:=h;exact⟨⟨⟨⟨⟨h1,h2⟩,h3⟩,QK (λ _ h=>h) (λ _ h=>mem_nub.2 h) h4⟩,h5⟩,QK (λ _ h=>mem_nub.2 h) (λ _ h=>h) h6⟩
theorem a9N{ops:Array Oper}{tr:List Foot}(g:Nat->Nat){L:List (List Nat×List Nat)}(hL:tr.map (shN g)=L)(h:IL ops L=true:=by decide+kernel)(hm:(tr.all λ f=>f.mods.all λ x=>decide (x<f.k'))=true:=by simp-dsimp-implicitDefEqProofs (disch:=omega)only[go_sem,iN,nq5,ltB_iff,aH,eq_self,↓reduceIte]):kS ops tr=true:=by
 subst hL;simp only[IL,aW]at h;simp only[kS,aW];intro i hi;have h1:=h i hi;rw[aQ]at h1
 cases ho:ops[i]? with
 |none=>rw[ho]at h1;simp at h1
 |some oi=>
  cases ht:tr[i]? with
  |none=>rw[ho,ht]at h1;simp at h1
  |some fi=>
   rw[ho,ht]at h1;simp only[cB,aC,aW]at h1;simp only[aC,aW];refine⟨⟨h1.1,?_⟩,λ j hj=>?_⟩;.have:=aW.1 hm fi (jC ht);exact λ x hx=>aW.1 this x hx
   have h2:=h1.2 j hj;rw[aQ]at h2
   cases hoj:ops[j]? with
   |none=>rw[hoj]at h2;simp at h2
   |some oj=>
    cases htj:tr[j]? with
    |none=>rw[hoj,htj]at h2;simp at h2
    |some fj=>
     rw[hoj,htj]at h2;simp only[cB,bH,aT]at h2;simp only[bH,aT];rcases h2 with h2|h2;.exact .inl (aZM h2)
     exact .inr h2
end Go.AM
end
section
namespace Go.AM
theorem aSJ{keep:List Nat}{g:Nat->Nat}(_:Kp keep g){ops:Array Oper}{tr:List Foot}{L:List (List Nat×List Nat)}(hL:tr.map (shN g)=L)(h:IL ops L=true:=by decide+kernel)(hm:(tr.all λ f=>f.mods.all λ x=>decide (x<f.k'))=true:=by simp-dsimp-implicitDefEqProofs (disch:=omega)only[go_sem,iN,nq5,ltB_iff,aH,bG,aV,eq_self,↓reduceIte]):kS ops tr=true:=a9N g hL h hm
theorem IS{Q P1 P2 P3 P4 P5 P6 P7 P8 P9 P10 P11 P12:Prop}(p:Hd P1/\Hd P2/\Hd P3/\Hd P4/\Hd P5/\Hd P6/\Hd P7/\Hd P8/\Hd P9/\Hd P10/\Hd P11/\Hd P12)
 (h:Hd P1->Hd P2->Hd P3->Hd P4->Hd P5->Hd P6->Hd P7->Hd P8->Hd P9->Hd P10->Hd P11->Hd P12->Q:=by
 intro a1 a2 a3 a4 a5 a6 a7 a8 a9 a10 a11 a12;refine two ?_ ?_;·(repeat'(first|(refine bY rfl ?_)|(refine eZ rfl ?_)|(refine fD rfl ?_;(try simp-dsimp-implicitDefEqProofs (disch:=omega)only[go_sem,iN,uU,eq_self,↓reduceIte]))|(refine jU rfl ?_;(try simp-dsimp-implicitDefEqProofs (disch:=omega)only[go_sem,iN,uU,eq_self,↓reduceIte]))|(refine gA rfl _ rfl (λ zt=>?_) (λ zt=>?_)<;>(try(simp only[nf]at zt))<;>(try(exfalso;omega)))|((first|(refine VN kp rfl rfl rfl (λ zK hK=>?_))|(refine VO kp rfl rfl (by kernel_rfl) rfl (λ zK hK=>?_)));simp-dsimp-implicitDefEqProofs (disch:=omega)only[go_sem,iN,uU,eq_self,↓reduceIte];(repeat'(first|(refine And.intro ?_ ?_)|(refine iI (λ hb=>?_) (λ hb=>?_)<;>(have zg:=hb;(try simp only[QH]at zg);simp-dsimp-implicitDefEqProofs (disch:=omega)only[go_sem,iN,uU,hb,zg,eq_self,↓reduceIte];clear hb;(try simp only[QG]at zg)))));any_goals ((first|refine hK _ _ _ _ (λ hx=>?_)|refine hK _ _ _ _ (UG kp) (λ hx=>?_)|refine hK _ _ _ _ (aSJ kp (by(simp-dsimp (disch:=omega)only[bG,aV,shN,iN,nq3,nq4,iW,PG,uU,eq_self,↓reduceIte];rfl))) (λ hx=>?_));clear hx hK;simp-dsimp-implicitDefEqProofs (disch:=omega)only[go_sem,iN,uU,eq_self,↓reduceIte];(try simp(disch:=omega)only[wrap_i64,fF,wrap_u32,jV])))|omega));all_goals(refine Hd.o ?_;(repeat revert zg);refine Hd.o ?_;(repeat revert zt);first|((fail_if_success(fail_if_success(have zz:Hd Mk:=a1)));exact Hd.o a1)|((fail_if_success(fail_if_success(have zz:Hd Mk:=a2)));exact Hd.o a2)|((fail_if_success(fail_if_success(have zz:Hd Mk:=a3)));exact Hd.o a3)|((fail_if_success(fail_if_success(have zz:Hd Mk:=a4)));exact Hd.o a4)|((fail_if_success(fail_if_success(have zz:Hd Mk:=a5)));exact Hd.o a5)|((fail_if_success(fail_if_success(have zz:Hd Mk:=a6)));exact Hd.o a6)|((fail_if_success(fail_if_success(have zz:Hd Mk:=a7)));exact Hd.o a7)|((fail_if_success(fail_if_success(have zz:Hd Mk:=a8)));exact Hd.o a8)|((fail_if_success(fail_if_success(have zz:Hd Mk:=a9)));exact Hd.o a9)|((fail_if_success(fail_if_success(have zz:Hd Mk:=a10)));exact Hd.o a10)|((fail_if_success(fail_if_success(have zz:Hd Mk:=a11)));exact Hd.o a11)|((fail_if_success(fail_if_success(have zz:Hd Mk:=a12)));exact Hd.o a12))
 (try have zz:Hd True:=a1);(try have zz:Hd True:=a2);(try have zz:Hd True:=a3);(try have zz:Hd True:=a4);(try have zz:Hd True:=a5);(try have zz:Hd True:=a6);(try have zz:Hd True:=a7);(try have zz:Hd True:=a8);(try have zz:Hd True:=a9);(try have zz:Hd True:=a10);(try have zz:Hd True:=a11);(try have zz:Hd True:=a12);exact trivial):Q:=h p.1 p.2.1 p.2.2.1 p.2.2.2.1 p.2.2.2.2.1 p.2.2.2.2.2.1 p.2.2.2.2.2.2.1 p.2.2.2.2.2.2.2.1 p.2.2.2.2.2.2.2.2.1 p.2.2.2.2.2.2.2.2.2.1 p.2.2.2.2.2.2.2.2.2.2.1 p.2.2.2.2.2.2.2.2.2.2.2
theorem clL(os:List Orc){Q P1 P2 P3 P4 P5 P6 P7 P8 P9 P10 P11 P12:Prop}(p:Hd P1/\Hd P2/\Hd P3/\Hd P4/\Hd P5/\Hd P6/\Hd P7/\Hd P8/\Hd P9/\Hd P10/\Hd P11/\Hd P12)
 (h:Os os->Hd P1->Hd P2->Hd P3->Hd P4->Hd P5->Hd P6->Hd P7->Hd P8->Hd P9->Hd P10->Hd P11->Hd P12->Q:=by
 intro oo a1 a2 a3 a4 a5 a6 a7 a8 a9 a10 a11 a12;refine two ?_ ?_;·(refine aEW kp oo rfl rfl (λ zK hK=>?_));simp-dsimp-implicitDefEqProofs (disch:=omega)only[go_sem,iN,uU,eq_self,↓reduceIte];(repeat'(first|(refine And.intro ?_ ?_)|(refine iI (λ hb=>?_) (λ hb=>?_)<;>(have zg:=hb;(try simp only[QH]at zg);simp-dsimp-implicitDefEqProofs (disch:=omega)only[go_sem,iN,uU,hb,zg,eq_self,↓reduceIte];clear hb;(try simp only[QG]at zg)))));(any_goals ((refine hK _ _ _ _ (λ hx=>?_));clear hx hK;simp-dsimp-implicitDefEqProofs (disch:=omega)only[go_sem,iN,uU,eq_self,↓reduceIte];(try simp(disch:=omega)only[wrap_i64,fF,wrap_u32,jV])));(all_goals(try omega));all_goals(refine Hd.o ?_;(repeat revert zg);refine Hd.o ?_;(repeat revert zt);first|((fail_if_success(fail_if_success(have zz:Hd Mk:=a1)));exact Hd.o a1)|((fail_if_success(fail_if_success(have zz:Hd Mk:=a2)));exact Hd.o a2)|((fail_if_success(fail_if_success(have zz:Hd Mk:=a3)));exact Hd.o a3)|((fail_if_success(fail_if_success(have zz:Hd Mk:=a4)));exact Hd.o a4)|((fail_if_success(fail_if_success(have zz:Hd Mk:=a5)));exact Hd.o a5)|((fail_if_success(fail_if_success(have zz:Hd Mk:=a6)));exact Hd.o a6)|((fail_if_success(fail_if_success(have zz:Hd Mk:=a7)));exact Hd.o a7)|((fail_if_success(fail_if_success(have zz:Hd Mk:=a8)));exact Hd.o a8)|((fail_if_success(fail_if_success(have zz:Hd Mk:=a9)));exact Hd.o a9)|((fail_if_success(fail_if_success(have zz:Hd Mk:=a10)));exact Hd.o a10)|((fail_if_success(fail_if_success(have zz:Hd Mk:=a11)));exact Hd.o a11)|((fail_if_success(fail_if_success(have zz:Hd Mk:=a12)));exact Hd.o a12))
 (try have zz:Hd True:=a1);(try have zz:Hd True:=a2);(try have zz:Hd True:=a3);(try have zz:Hd True:=a4);(try have zz:Hd True:=a5);(try have zz:Hd True:=a6);(try have zz:Hd True:=a7);(try have zz:Hd True:=a8);(try have zz:Hd True:=a9);(try have zz:Hd True:=a10);(try have zz:Hd True:=a11);(try have zz:Hd True:=a12);exact trivial):Q:=h ⟨⟩ p.1 p.2.1 p.2.2.1 p.2.2.2.1 p.2.2.2.2.1 p.2.2.2.2.2.1 p.2.2.2.2.2.2.1 p.2.2.2.2.2.2.2.1 p.2.2.2.2.2.2.2.2.1 p.2.2.2.2.2.2.2.2.2.1 p.2.2.2.2.2.2.2.2.2.2.1 p.2.2.2.2.2.2.2.2.2.2.2
theorem dlL(os:List Orc){Q P1 P2 P3 P4 P5 P6 P7 P8 P9 P10 P11 P12:Prop}(p:Hd P1/\Hd P2/\Hd P3/\Hd P4/\Hd P5/\Hd P6/\Hd P7/\Hd P8/\Hd P9/\Hd P10/\Hd P11/\Hd P12)
 (h:Os os->Hd P1->Hd P2->Hd P3->Hd P4->Hd P5->Hd P6->Hd P7->Hd P8->Hd P9->Hd P10->Hd P11->Hd P12->Q:=by
 intro oo a1 a2 a3 a4 a5 a6 a7 a8 a9 a10 a11 a12;refine two ?_ ?_;·(refine aEX kp oo rfl (by kernel_rfl) rfl (λ zK hK=>?_));simp-dsimp-implicitDefEqProofs (disch:=omega)only[go_sem,iN,uU,eq_self,↓reduceIte];(repeat'(first|(refine And.intro ?_ ?_)|(refine iI (λ hb=>?_) (λ hb=>?_)<;>(have zg:=hb;(try simp only[QH]at zg);simp-dsimp-implicitDefEqProofs (disch:=omega)only[go_sem,iN,uU,hb,zg,eq_self,↓reduceIte];clear hb;(try simp only[QG]at zg)))));(any_goals ((first|refine hK _ _ _ _ (UG kp) (λ hx=>?_)|refine hK _ _ _ _ (aSJ kp (by(simp-dsimp (disch:=omega)only[bG,aV,shN,iN,nq3,nq4,iW,PG,uU,eq_self,↓reduceIte];rfl))) (λ hx=>?_));clear hx hK;simp-dsimp-implicitDefEqProofs (disch:=omega)only[go_sem,iN,uU,eq_self,↓reduceIte];(try simp(disch:=omega)only[wrap_i64,fF,wrap_u32,jV])));(all_goals(try omega));all_goals(refine Hd.o ?_;(repeat revert zg);refine Hd.o ?_;(repeat revert zt);first|((fail_if_success(fail_if_success(have zz:Hd Mk:=a1)));exact Hd.o a1)|((fail_if_success(fail_if_success(have zz:Hd Mk:=a2)));exact Hd.o a2)|((fail_if_success(fail_if_success(have zz:Hd Mk:=a3)));exact Hd.o a3)|((fail_if_success(fail_if_success(have zz:Hd Mk:=a4)));exact Hd.o a4)|((fail_if_success(fail_if_success(have zz:Hd Mk:=a5)));exact Hd.o a5)|((fail_if_success(fail_if_success(have zz:Hd Mk:=a6)));exact Hd.o a6)|((fail_if_success(fail_if_success(have zz:Hd Mk:=a7)));exact Hd.o a7)|((fail_if_success(fail_if_success(have zz:Hd Mk:=a8)));exact Hd.o a8)|((fail_if_success(fail_if_success(have zz:Hd Mk:=a9)));exact Hd.o a9)|((fail_if_success(fail_if_success(have zz:Hd Mk:=a10)));exact Hd.o a10)|((fail_if_success(fail_if_success(have zz:Hd Mk:=a11)));exact Hd.o a11)|((fail_if_success(fail_if_success(have zz:Hd Mk:=a12)));exact Hd.o a12))
 (try have zz:Hd True:=a1);(try have zz:Hd True:=a2);(try have zz:Hd True:=a3);(try have zz:Hd True:=a4);(try have zz:Hd True:=a5);(try have zz:Hd True:=a6);(try have zz:Hd True:=a7);(try have zz:Hd True:=a8);(try have zz:Hd True:=a9);(try have zz:Hd True:=a10);(try have zz:Hd True:=a11);(try have zz:Hd True:=a12);exact trivial):Q:=h ⟨⟩ p.1 p.2.1 p.2.2.1 p.2.2.2.1 p.2.2.2.2.1 p.2.2.2.2.2.1 p.2.2.2.2.2.2.1 p.2.2.2.2.2.2.2.1 p.2.2.2.2.2.2.2.2.1 p.2.2.2.2.2.2.2.2.2.1 p.2.2.2.2.2.2.2.2.2.2.1 p.2.2.2.2.2.2.2.2.2.2.2
theorem OE{A B:Prop}(b:Hd B)(h:Hd B->A:=by
 intro b1;refine two ?_ ?_;·(simp-dsimp-implicitDefEqProofs (disch:=omega)only[go_sem,iN,uU,eq_self,↓reduceIte])<;>exact Hd.o (Hd.o b1)
 (try have zz:Hd True:=b1);exact trivial):A:=h b
end Go.AM
end
section
namespace Go.AM
open Go.Proofs
@[go_sem] theorem yC0:BT aA 30=none/\iS aA 30=some true/\oK aA 30=some 7/\aL aA 13=true/\BT aA 36=none/\iS aA 36=some true/\oK aA 36=some 6/\aL aA 15=true/\gS aA 30=some [AVal.lit (bC aN 0),AVal.lit (bC bN 0),AVal.lit (dK none 0 0),AVal.lit (dK none 0 0),AVal.lit (dK none 0 0),AVal.lit (dK none 0 0),AVal.lit (dK none 0 0)]/\aL aA 17=true/\gS aA 45=some [AVal.lit (dK none 0 0),AVal.lit (dK none 0 0),AVal.lit (dK none 0 0),AVal.lit (dK none 0 0),AVal.lit (dK none 0 0),AVal.lit (dK none 0 0)]/\BT aA 45=none/\oK aA 45=some 6/\iS aA 45=some true/\aL aA 19=true/\gS aA 36=some [AVal.lit (dK none 0 0),AVal.lit (dK none 0 0),AVal.lit (dK none 0 0),AVal.lit (dK none 0 0),AVal.lit (dK none 0 0),AVal.lit (dK none 0 0)]/\fJ aA 30=true/\fJ aA 36=true/\aL aA 21=true/\xE aA 3=some aN/\pG aA 3=false/\aL aA 22=true/\bT aA 30 1=some 3/\iS aA 26=some false/\oK aA 26=some 1:=by and_intros<;>kernel_rfl
@[go_sem] theorem yC1:fN aA 26=true/\aL aA 23=true/\aL aA 24=true/\aL aA 25=true/\aL aA 26=true/\bT aA 36 0=some 0/\iS aA 33=some false/\oK aA 33=some 1/\fN aA 33=true/\bT aA 36 5=some 5/\iS aA 34=some false/\oK aA 34=some 1/\fN aA 34=true/\aL aA 34=true/\aL aA 35=true/\CD aA 26=some 1/\oK aA 3=some 1/\gS aA 87=some [AVal.lit (bC aN 0),AVal.lit (bC aN 0)]/\fJ aA 87=true/\bT aA 30 0=some 0/\bT aA 25 0=some 0/\iS aA 3=some false/\bT aA 25 1=some 1/\iS aA 22=some false/\oK aA 22=some 1:=by and_intros<;>kernel_rfl
@[go_sem] theorem yC2:bT aA 25 2=some 2/\iS aA 23=some false/\oK aA 23=some 1/\fN aA 23=true/\gS aA 89=some [AVal.lit (bC aN 0),AVal.lit (bC aN 0),AVal.lit (bC aN 0),AVal.lit (bC aN 0),AVal.lit (bC bN 0),AVal.lit (mG false),AVal.lit (bC bN 0),AVal.lit (bC jF 0)]/\fJ aA 89=true/\gS aA 93=some [AVal.lit (bC aN 0),AVal.lit (bC aN 0),AVal.lit (bC bN 0),AVal.lit (bC jF 0),AVal.lit (bC bN 0)]/\fJ aA 93=true/\aL aA 37=true/\aL aA 38=true/\bT aA 45 0=some 0/\iS aA 42=some false/\oK aA 42=some 1/\fN aA 42=true/\bT aA 45 1=some 1/\bT aA 45 2=some 2/\bT aA 45 3=some 3/\bT aA 45 4=some 4/\iS aA 27=some false/\oK aA 27=some 1/\fN aA 27=true/\bT aA 45 5=some 5/\iS aA 43=some false/\oK aA 43=some 1/\fN aA 43=true:=by and_intros<;>kernel_rfl
@[go_sem] theorem yC3:bT aA 36 4=some 4/\aL aA 42=true/\aL aA 45=true/\aL aA 46=true/\aL aA 47=true/\gS aA 111=some [AVal.lit (bC aN 0),AVal.lit (bC aN 0)]/\fJ aA 111=true/\iB aA 23=some (2,16,[AVal.lit (bC aN 0),AVal.lit (bC aN 0)])/\gS aA 25=some [AVal.lit (bC aN 0),AVal.lit (bC bN 0),AVal.lit (dK none 0 0)]/\fJ aA 25=true/\bT aA 30 2=some 4/\bT aA 30 3=some 5/\bT aA 30 4=some 6/\iS aA 28=some false/\oK aA 28=some 1/\CD aA 28=some 1/\iS aA 112=some false/\oK aA 112=some 1/\CD aA 112=some 3/\bT aA 91 2=some 2/\aL aA 49=true/\fJ aA 45=true/\fN aA 113=true/\CD aA 113=some 3/\bT aA 117 0=some 0:=by and_intros<;>kernel_rfl
@[go_sem] theorem yC4:iS aA 5=some false/\oK aA 5=some 1/\gS aA 118=some [AVal.lit (bC aN 0),AVal.lit (bC aN 0)]/\fJ aA 118=true/\fN aA 28=true/\CD aA 23=some 2/\bT aA 111 1=some 1/\iS aA 91=some true/\oK aA 91=some 3/\sI aA 91=some [(0,0),(1,0),(2,0)]/\gS aA 119=some [AVal.lit (bC aN 0),AVal.lit (bC aN 0),AVal.lit (bC bN 0),AVal.lit (bC jF 0),AVal.lit (bC bN 0)]/\fJ aA 119=true/\CD aA 27=some 8/\bT aA 89 0=some 0/\aL aA 50=true/\BT aA 89=none/\oK aA 89=some 8/\iS aA 89=some true/\sI aA 89=some [(0,0),(1,0),(2,0),(3,0),(4,0),(5,1),(6,0),(7,0)]/\bT aA 36 1=some 1/\bT aA 36 2=some 2/\bT aA 36 3=some 3/\gS aA 91=some [AVal.lit (bC bN 0),AVal.lit (bC jF 0),AVal.lit (bC bN 0)]/\fJ aA 91=true/\CD aA 42=some 2:=by and_intros<;>kernel_rfl
@[go_sem] theorem yC5:iS aA 118=some true/\oK aA 118=some 2/\BT aA 118=none/\CD aA 43=some 5/\iS aA 119=some true/\oK aA 119=some 5/\BT aA 119=none/\aL aA 51=true/\fN aA 122=true/\CD aA 122=some 3/\iS aA 125=some true/\oK aA 125=some 3/\gS aA 125=some [AVal.lit (bC IntKind.u8 0),AVal.lit (bC aN 0),AVal.lit (bC aN 0)]/\BT aA 125=none/\bT aA 125 0=some 0/\aL aA 52=true/\aL aA 54=true/\aL aA 53=true/\aL aA 55=true/\aL aA 57=true/\aL aA 56=true/\aL aA 58=true/\gS aA 3=some [AVal.lit (bC aN 0)]/\BT aA 3=none/\aL aA 60=true:=by and_intros<;>kernel_rfl
@[go_sem] theorem yC6:aL aA 59=true/\aL aA 61=true/\aL aA 62=true/\CD aA 33=some 2/\iS aA 87=some true/\oK aA 87=some 2/\BT aA 87=none/\bT aA 87 0=some 0/\bT aA 87 1=some 1/\aL aA 64=true/\aL aA 63=true/\aL aA 68=true/\aL aA 69=true/\CD aA 34=some 5/\iS aA 93=some true/\oK aA 93=some 5/\BT aA 93=none/\bT aA 93 0=some 0/\bT aA 93 1=some 1/\bT aA 93 2=some 2/\aL aA 70=true/\aL aA 71=true/\aL aA 72=true/\aL aA 73=true/\aL aA 74=true:=by and_intros<;>kernel_rfl
@[go_sem] theorem yC7:aL aA 75=true/\gS aA 147=some [AVal.lit (bC aN 0),AVal.lit (bC bN 0),AVal.lit (dK none 0 0),AVal.lit (dK none 0 0),AVal.lit (dK none 0 0),AVal.lit (dK none 0 0),AVal.lit (dK none 0 0),AVal.lit (mG false)]/\fJ aA 147=true/\BT aA 147=none/\aL aA 76=true/\bT aA 89 5=some 5/\iS aA 4=some false/\oK aA 4=some 1/\bT aA 89 3=some 3/\aL aA 77=true/\gS aA 150=some [AVal.lit (bC bN 0),AVal.lit (bC bN 0),AVal.lit (bC bN 0)]/\BT aA 150=some (3,1)/\oK aA 150=some 3/\iS aA 150=some true/\aL aA 78=true/\iS aA 25=some true/\oK aA 25=some 3/\aL aA 79=true/\aL aA 80=true/\aL aA 81=true/\aL aA 82=true/\BT aA 25=none/\aL aA 86=true/\iB aA 112=some (3,24,[AVal.lit (bC bN 0),AVal.lit (bC jF 0),AVal.lit (bC bN 0)])/\iS aA 50=some false:=by and_intros<;>kernel_rfl
@[go_sem] theorem yC8:oK aA 50=some 1/\xE aA 50=some jF/\xE aA 22=some bN/\pG aA 22=false/\bT aA 147 0=some 0/\aL aA 98=true/\aL aA 99=true/\fN aA 112=true/\bT aA 118 0=some 0/\bT aA 118 1=some 1/\bT aA 89 1=some 1/\bT aA 89 2=some 2/\bT aA 89 4=some 4/\bT aA 89 6=some 6/\bT aA 89 7=some 7/\bT aA 119 0=some 0/\bT aA 119 1=some 1/\bT aA 119 2=some 2/\bT aA 91 0=some 0/\bT aA 91 1=some 1/\aL aA 105=true/\aL aA 106=true/\aL aA 108=true/\aL aA 107=true/\bT aA 111 0=some 0:=by and_intros<;>kernel_rfl
@[go_sem] theorem yC9:aL aA 109=true/\oK aA 111=some 2/\aL aA 110=true/\aL aA 112=true/\gS aA 117=some [AVal.lit (bC IntKind.u8 0),AVal.lit (bC aN 0),AVal.lit (bC aN 0)]/\fJ aA 117=true/\aL aA 113=true/\aL aA 115=true/\aL aA 114=true/\fJ aA 125=true/\gS aA 183=some [AVal.lit (bC aN 0),AVal.lit (bC bN 0),AVal.lit (dK none 0 0),AVal.lit (dK none 0 0),AVal.lit (dK none 0 0),AVal.lit (dK none 0 0),AVal.lit (dK none 0 0),AVal.lit (dK none 0 0)]/\fJ aA 183=true/\BT aA 183=none/\aL aA 116=true/\BT aA 91=none/\aL aA 117=true/\iS aA 111=some true/\BT aA 111=none/\sI aA 111=some [(0,0),(1,0)]/\xE aA 189=some bN/\pG aA 189=false/\aL aA 120=true/\aL aA 121=true/\aL aA 122=true/\aL aA 123=true:=by and_intros<;>kernel_rfl
@[go_sem] theorem bHT:aL aA 124=true/\aL aA 125=true/\aL aA 65=true/\aL aA 67=true/\aL aA 66=true/\aL aA 126=true/\aL aA 127=true/\aL aA 128=true/\aL aA 129=true/\aL aA 130=true/\sI aA 87=some [(0,0),(1,0)]/\aL aA 131=true/\aL aA 132=true/\aL aA 134=true/\aL aA 133=true/\aL aA 135=true/\aL aA 136=true/\aL aA 137=true/\fJ aA 150=false/\aED aA 150=some (3,1,false)/\gS aA 4=some [AVal.lit (mG false)]/\BT aA 4=none/\aL aA 139=true/\aL aA 141=true/\aL aA 142=true:=by and_intros<;>kernel_rfl
@[go_sem] theorem bHS:aL aA 143=true/\pG aA 50=false/\aL aA 156=true/\aL aA 159=true/\aL aA 160=true/\gS aA 201=some [AVal.lit (bC bN 0),AVal.lit (bC jF 0),AVal.lit (bC jF 0)]/\BT aA 201=none/\oK aA 201=some 3/\iS aA 201=some true/\bT aA 201 0=some 0/\bT aA 201 1=some 1/\fN aA 171=true/\CD aA 171=some 1/\aL aA 180=true/\aL aA 181=true/\aL aA 182=true/\aL aA 183=true/\fN aA 248=true/\aL aA 184=true/\fieldAt aA 251 0=some (0,1,false)/\aL aA 185=true/\aL aA 186=true/\aL aA 187=true/\aL aA 188=true/\aL aA 189=true:=by and_intros<;>kernel_rfl
@[go_sem] theorem bHR:aL aA 190=true/\iB aA 255=some (1,8,[AVal.lit Value.nilFunc])/\aL aA 191=true/\aL aA 192=true/\aL aA 193=true/\aL aA 194=true/\gS aA 256=some [AVal.lit (dK none 0 0),AVal.lit (dK none 0 0),AVal.lit (dK none 0 0)]/\fJ aA 256=false/\aED aA 256=some (3,1,false)/\BT aA 256=some (3,1)/\oK aA 256=some 3/\iS aA 256=some true/\fN aA 255=true/\CD aA 255=some 1/\iS aA 254=some false/\oK aA 254=some 1/\bT aA 183 1=some 7/\iS aA 122=some false/\oK aA 122=some 1/\aL aA 195=true/\yE aA 23=some 1/\yE aA 26=some 1/\yE aA 27=some 1/\yE aA 28=some 1/\yE aA 112=some 1:=by and_intros<;>kernel_rfl
@[go_sem] theorem bHQ:aL aA 208=true/\aL aA 209=true/\aL aA 210=true/\bT aA 201 2=some 2/\aL aA 211=true/\fJ aA 201=true/\aL aA 138=true/\aL aA 212=true/\aL aA 140=true/\aL aA 213=true/\aL aA 214=true/\aL aA 226=true/\aL aA 236=true/\aL aA 235=true/\aL aA 237=true/\gS aA 251=some [AVal.lit (bC bN 0),AVal.lit (bC aN 0),AVal.lit (bC aN 0)]/\fJ aA 251=true/\iS aA 251=some true/\oK aA 251=some 3/\BT aA 251=none/\CD aA 248=some 3/\aL aA 238=true/\aL aA 239=true/\aL aA 240=true/\aL aA 241=true:=by and_intros<;>kernel_rfl
@[go_sem] theorem bHP:aL aA 242=true/\aL aA 243=true/\bT aA 251 0=some 0/\bT aA 183 0=some 0/\aL aA 244=true/\aL aA 245=true/\iB aA 296=some (1,8,[AVal.lit (Value.pointer none)])/\gS aA 296=some [AVal.lit (dK none 0 0)]/\BT aA 296=none/\oK aA 296=some 1/\aL aA 246=true/\iS aA 296=some false/\fN aA 296=true/\CD aA 296=some 1/\iS aA 297=some false/\oK aA 297=some 1/\yE aA 297=some 0/\aL aA 253=true/\aL aA 254=true/\aL aA 271=true/\aL aA 272=true/\BT aA 289=none/\bT aA 289 2=some 2/\bT aA 289 1=some 1/\bT aA 289 0=some 0:=by and_intros<;>kernel_rfl
@[go_sem] theorem bHO:iS aA 289=some true/\oK aA 289=some 3/\gS aA 289=some [AVal.lit (bC bN 0),AVal.lit (bC jF 0),AVal.lit (bC jF 0)]/\fJ aA 289=true/\bT aA 251 1=some 1/\bT aA 251 2=some 2/\aL aA 275=true/\BT aA 22=none/\aL aA 285=true/\Tryz.f17.results.toList=[.cell 4 45,.tmp 5]/\Tryz.f19.results.toList=[.cell 2 36]/\aHO.results.toList=[.cell 4 36,.tmp 5]/\Tryz.f22.results.toList=[.cell 4 30,.tmp 5]/\Tryz.f34.results.toList=[.cell 6 36,.tmp 7]/\Tryz.f35.results.toList=[.cell 2 30]/\Tryz.f42.results.toList=[.cell 2 45]/\Tryz.f45.results.toList=[.cell 4 30,.tmp 5]/\Tryz.f46.results.toList=[.cell 6 45,.tmp 7]/\Tryz.f50.results.toList=[.cell 4 89,.tmp 5]/\Tryz.f61.results.toList=[.cell 2 30]/\Tryz.f77.results.toList=[.cell 6 150,.tmp 7]/\Tryz.f98.results.toList=[.cell 2 25]/\Tryz.f134.results.toList=[.cell 6 201]/\Tryz.f184.results.toList=[.cell 2 251]/\Tryz.f236.results.toList=[.cell 6 289]:=by and_intros<;>kernel_rfl
@[go_sem] theorem y1:gT aA 30=some {toList:=[(0,3),(3,1),(4,1),(5,1),(6,1)]}:=by kernel_rfl
@[go_sem] theorem y2:gT aA 36=some {toList:=[(0,1),(1,1),(2,1),(3,1),(4,1),(5,1)]}:=by kernel_rfl
@[go_sem] theorem y3:gT aA 87=some {toList:=[(0,1),(1,1)]}:=by kernel_rfl
@[go_sem] theorem y4:iB aA 33=some (2,16,[AVal.lit (bC aN 0),AVal.lit (bC aN 0)]):=by kernel_rfl
@[go_sem] theorem bGT{H0:aS}{k id:Nat}{l:List (List AVal)}{y:Option AVal}(hin:iU H0 id 2 l)(hid:id<k):iP aA (AM.look H0) k 33 (some (bV id l)) y=appR 2 16 k id l (y.bind (xW (AM.look H0))):=rM y4 hin hid
@[go_sem] theorem y5:iB aA 26=some (1,8,[AVal.lit (bC aN 0)]):=by kernel_rfl
@[go_sem] theorem bGW{H0:aS}{k id:Nat}{l:List (List AVal)}{y:Option AVal}(hin:iU H0 id 1 l)(hid:id<k):iP aA (AM.look H0) k 26 (some (bV id l)) y=appR 1 8 k id l (y.bind (xW (AM.look H0))):=rM y5 hin hid
@[go_sem] theorem y6:gT aA 89=some {toList:=[(0,1),(1,1),(2,1),(3,1),(4,1),(5,1),(6,1),(7,1)]}:=by kernel_rfl
@[go_sem] theorem y7:iB aA 27=some (8,64,[AVal.lit (bC aN 0),AVal.lit (bC aN 0),AVal.lit (bC aN 0),AVal.lit (bC aN 0),AVal.lit (bC bN 0),AVal.lit (mG false),AVal.lit (bC bN 0),AVal.lit (bC jF 0)]):=by kernel_rfl
@[go_sem] theorem bGV{H0:aS}{k id:Nat}{l:List (List AVal)}{y:Option AVal}(hin:iU H0 id 8 l)(hid:id<k):iP aA (AM.look H0) k 27 (some (bV id l)) y=appR 8 64 k id l (y.bind (xW (AM.look H0))):=rM y7 hin hid
@[go_sem] theorem y8:gT aA 93=some {toList:=[(0,1),(1,1),(2,3)]}:=by kernel_rfl
@[go_sem] theorem y9:iB aA 34=some (5,40,[AVal.lit (bC aN 0),AVal.lit (bC aN 0),AVal.lit (bC bN 0),AVal.lit (bC jF 0),AVal.lit (bC bN 0)]):=by kernel_rfl
@[go_sem] theorem bGS{H0:aS}{k id:Nat}{l:List (List AVal)}{y:Option AVal}(hin:iU H0 id 5 l)(hid:id<k):iP aA (AM.look H0) k 34 (some (bV id l)) y=appR 5 40 k id l (y.bind (xW (AM.look H0))):=rM y9 hin hid
@[go_sem] theorem y10:gT aA 111=some {toList:=[(0,1),(1,1)]}:=by kernel_rfl
@[go_sem] theorem y11:gT aA 25=some {toList:=[(0,1),(1,1),(2,1)]}:=by kernel_rfl
@[go_sem] theorem y12:gT aA 45=some {toList:=[(0,1),(1,1),(2,1),(3,1),(4,1),(5,1)]}:=by kernel_rfl
@[go_sem] theorem y13:gT aA 118=some {toList:=[(0,1),(1,1)]}:=by kernel_rfl
@[go_sem] theorem y14:iB aA 42=some (2,16,[AVal.lit (bC aN 0),AVal.lit (bC aN 0)]):=by kernel_rfl
@[go_sem] theorem bGR{H0:aS}{k id:Nat}{l:List (List AVal)}{y:Option AVal}(hin:iU H0 id 2 l)(hid:id<k):iP aA (AM.look H0) k 42 (some (bV id l)) y=appR 2 16 k id l (y.bind (xW (AM.look H0))):=rM y14 hin hid
@[go_sem] theorem y15:gT aA 119=some {toList:=[(0,1),(1,1),(2,3)]}:=by kernel_rfl
@[go_sem] theorem y16:iB aA 43=some (5,40,[AVal.lit (bC aN 0),AVal.lit (bC aN 0),AVal.lit (bC bN 0),AVal.lit (bC jF 0),AVal.lit (bC bN 0)]):=by kernel_rfl
@[go_sem] theorem bGQ{H0:aS}{k id:Nat}{l:List (List AVal)}{y:Option AVal}(hin:iU H0 id 5 l)(hid:id<k):iP aA (AM.look H0) k 43 (some (bV id l)) y=appR 5 40 k id l (y.bind (xW (AM.look H0))):=rM y16 hin hid
@[go_sem] theorem y17:gT aA 91=some {toList:=[(0,1),(1,1),(2,1)]}:=by kernel_rfl
@[go_sem] theorem y18:gT aA 147=some {toList:=[(0,7),(7,1)]}:=by kernel_rfl
@[go_sem] theorem y19:iB aA 28=some (1,24,[AVal.lit (dK none 0 0)]):=by kernel_rfl
@[go_sem] theorem bGU{H0:aS}{k id:Nat}{l:List (List AVal)}{y:Option AVal}(hin:iU H0 id 1 l)(hid:id<k):iP aA (AM.look H0) k 28 (some (bV id l)) y=appR 1 24 k id l (y.bind (xW (AM.look H0))):=rM y19 hin hid
@[go_sem] theorem y20:gT aA 117=some {toList:=[(0,1),(1,1),(2,1)]}:=by kernel_rfl
@[go_sem] theorem y21:iB aA 113=some (3,24,[AVal.lit (bC IntKind.u8 0),AVal.lit (bC aN 0),AVal.lit (bC aN 0)]):=by kernel_rfl
@[go_sem] theorem bFR{H0:aS}{k id:Nat}{l:List (List AVal)}{y:Option AVal}(hin:iU H0 id 3 l)(hid:id<k):iP aA (AM.look H0) k 113 (some (bV id l)) y=appR 3 24 k id l (y.bind (xW (AM.look H0))):=rM y21 hin hid
@[go_sem] theorem y22:gT aA 125=some {toList:=[(0,1),(1,1),(2,1)]}:=by kernel_rfl
@[go_sem] theorem y23:iB aA 122=some (3,24,[AVal.lit (bC IntKind.u8 0),AVal.lit (bC aN 0),AVal.lit (bC aN 0)]):=by kernel_rfl
@[go_sem] theorem bFQ{H0:aS}{k id:Nat}{l:List (List AVal)}{y:Option AVal}(hin:iU H0 id 3 l)(hid:id<k):iP aA (AM.look H0) k 122 (some (bV id l)) y=appR 3 24 k id l (y.bind (xW (AM.look H0))):=rM y23 hin hid
@[go_sem] theorem bCC{H0:aS}{k id:Nat}{l:List (List AVal)}(hin:iU H0 id 3 l):AF aA (AM.look H0) k 122 (some (bV id l))=some ⟨.lit (.int .i64 (l.length:Int)),k,[],pJ id l⟩:=aXJ (by kernel_rfl) hin
@[go_sem] theorem y24:gT aA 183=some {toList:=[(0,7),(7,1)]}:=by kernel_rfl
@[go_sem] theorem y25:gT aA 201=some {toList:=[(0,1),(1,1),(2,1)]}:=by kernel_rfl
@[go_sem] theorem y26:gT aA 251=some {toList:=[(0,1),(1,1),(2,1)]}:=by kernel_rfl
@[go_sem] theorem y27:iB aA 248=some (3,24,[AVal.lit (bC bN 0),AVal.lit (bC aN 0),AVal.lit (bC aN 0)]):=by kernel_rfl
@[go_sem] theorem bFP{H0:aS}{k id:Nat}{l:List (List AVal)}{y:Option AVal}(hin:iU H0 id 3 l)(hid:id<k):iP aA (AM.look H0) k 248 (some (bV id l)) y=appR 3 24 k id l (y.bind (xW (AM.look H0))):=rM y27 hin hid
@[go_sem] theorem y28:gT aA 289=some {toList:=[(0,1),(1,1),(2,1)]}:=by kernel_rfl
end Go.AM
end
section
namespace Go.Proofs.T
open Go Go.AM Go.Proofs
variable{Γ:List (Nat×List AVal)}
theorem KD(w:Int):Pure aA Γ 239 [w] (decide (1<=w/\w<=65536)):=by
 refine aZ Tryz.func239 rfl 9 rfl bB rfl λ k=>?_;refine bY rfl ?_;refine iF rfl [0,2] [] rfl (λ K hK=>?_);refine sT ?_;(refine hK _ _ _ _ (λ hx=>?_));clear hx hK;refine sT ?_;refine bY rfl ?_;refine iF rfl [0,2] [] rfl (λ K hK=>?_);refine sT ?_;(repeat'(refine iI (λ hg=>?_) (λ hg=>?_)<;>simp only[dTt,dFn,aT,dH]at hg<;>simp-dsimp-implicitDefEqProofs only[go_sem,hg,eq_self,↓reduceIte]));all_goals((refine hK _ _ _ _ (λ hx=>?_));clear hx hK;simp-dsimp-implicitDefEqProofs only[go_sem,eq_self,↓reduceIte])
 all_goals(refine aX rfl ⟨_,rfl,aI ?_⟩)
 all_goals((simp only[AVal.lit.injEq,mG.injEq];rw[aY];simp only[beq_iff_eq,bne_iff_ne,ne_eq,dTt,dFn,aC,bH,aT,beq_eq_false_iff_ne,aO,bM,true_iff,false_iff,iff_true,iff_false];omega))
theorem a2F(w:Int):Pure aA Γ 211 [w] (decide (1<=w/\w<=65536)):=by
 refine aZ Tryz.func211 rfl 9 rfl bB rfl λ k=>?_;refine bY rfl ?_;refine iF rfl [0,2] [] rfl (λ K hK=>?_);refine sT ?_;(refine hK _ _ _ _ (λ hx=>?_));clear hx hK;refine sT ?_;refine bY rfl ?_;refine iF rfl [0,2] [] rfl (λ K hK=>?_);refine sT ?_;(repeat'(refine iI (λ hg=>?_) (λ hg=>?_)<;>simp only[dTt,dFn,aT,dH]at hg<;>simp-dsimp-implicitDefEqProofs only[go_sem,hg,eq_self,↓reduceIte]));all_goals((refine hK _ _ _ _ (λ hx=>?_));clear hx hK;simp-dsimp-implicitDefEqProofs only[go_sem,eq_self,↓reduceIte])
 all_goals(refine aX rfl ⟨_,rfl,aI ?_⟩)
 all_goals((simp only[AVal.lit.injEq,mG.injEq];rw[aY];simp only[beq_iff_eq,bne_iff_ne,ne_eq,dTt,dFn,aC,bH,aT,beq_eq_false_iff_ne,aO,bM,true_iff,false_iff,iff_true,iff_false];omega))
def yP(v r w:Int):Bool:=decide (1<=w/\w<=65536/\r<w/\(v<18446744073709551615\/r=0))
theorem vV(v r w:Int)(hw:0<=w)(hw2:w<4294967296):Pure aA Γ 133 [.agg [.lit (.int .u64 v),.lit (.int .u32 r),.lit (.int .u32 w)]] (yP v r w):=by
 refine aZ Tryz.func133 rfl 24 rfl bB rfl λ k=>?_;refine bY rfl ?_;refine iF rfl [0,1,2] [] rfl (λ K hK=>?_);refine sT ?_;(refine hK _ _ _ _ (λ hx=>?_));clear hx hK;refine sT ?_;refine bY rfl ?_;refine iF rfl [0,1,2] [.ret (decide (1<=w/\w<=65536))] rfl (λ K hK=>?_);refine rR ?_;apply zN;rw[wrap_i64 oO oO];refine⟨a2F w,?_⟩;(repeat'(refine iI (λ hg=>?_) (λ hg=>?_)<;>simp only[dTt,dFn,aT,dH]at hg<;>simp-dsimp-implicitDefEqProofs only[go_sem,hg,eq_self,↓reduceIte]));all_goals((refine hK _ _ _ _ (λ hx=>?_));clear hx hK;simp-dsimp-implicitDefEqProofs only[go_sem,eq_self,↓reduceIte])
 all_goals(refine aX rfl ⟨_,rfl,aI ?_⟩)
 all_goals(unfold yP;(simp only[AVal.lit.injEq,mG.injEq];rw[aY];simp only[beq_iff_eq,bne_iff_ne,ne_eq,dTt,dFn,aC,bH,aT,beq_eq_false_iff_ne,aO,bM,true_iff,false_iff,iff_true,iff_false];omega))
theorem aSD(v r w:Int):Pure aA Γ 245 [.lit (.int .u64 v),.lit (.int .u32 r),w] (yP v r w):=by
 refine aZ Tryz.func245 rfl 21 rfl bB rfl λ k=>?_;refine bY rfl ?_;refine iF rfl [0,1,2,6] [] rfl (λ K hK=>?_);refine sT ?_;(refine hK _ _ _ _ (λ hx=>?_));clear hx hK;refine sT ?_;refine bY rfl ?_;refine iF rfl [6] [.ret (yP v r w)] rfl (λ K hK=>?_);refine sT ?_;(repeat'(first|(refine And.intro ?_ ?_)|(refine iI (λ hb=>?_) (λ hb=>?_)<;>(have hg:=hb;(try simp only[QH]at hg);simp-dsimp-implicitDefEqProofs only[go_sem,hb,hg,eq_self,↓reduceIte];clear hb;(try simp only[QG]at hg)))));(any_goals ((refine hK _ _ _ _ (λ hx=>?_));clear hx hK;refine sT ?_;(try simp(disch:=omega)only[wrap_i64,fF,wrap_u32,jV])));(all_goals(try omega));.rw[wrap_u32 oO oO];exact vV v r w oO oO
 all_goals(refine aX rfl ⟨_,rfl,aI ?_⟩)
 .rfl
 all_goals(unfold yP;(simp only[AVal.lit.injEq,mG.injEq];rw[aY];simp only[beq_iff_eq,bne_iff_ne,ne_eq,dTt,dFn,aC,bH,aT,beq_eq_false_iff_ne,aO,bM,true_iff,false_iff,iff_true,iff_false];omega))
theorem KW(v r w:Int)(hv:v<=18446744073709551615)(hr:0<=r):Pure aA Γ 235 [.agg [.lit (.int .u64 v),.lit (.int .u32 r),.lit (.int .u32 w)]] (yP v r w):=by
 refine aZ Tryz.func235 rfl 29 rfl bB rfl λ k=>?_;refine bY rfl ?_;refine iF rfl [0,1,2] [] rfl (λ K hK=>?_);refine sT ?_;(refine hK _ _ _ _ (λ hx=>?_));clear hx hK;refine sT ?_;refine bY rfl ?_;refine iF rfl [2] [] rfl (λ K hK=>?_);refine sT ?_;(repeat'(first|(refine And.intro ?_ ?_)|(refine iI (λ hb=>?_) (λ hb=>?_)<;>(have hg:=hb;(try simp only[QH]at hg);simp-dsimp-implicitDefEqProofs only[go_sem,hb,hg,eq_self,↓reduceIte];clear hb;(try simp only[QG]at hg)))));(any_goals ((refine hK _ _ _ _ (λ hx=>?_));clear hx hK;refine sT ?_;(try simp(disch:=omega)only[wrap_i64,fF,wrap_u32,jV])));(all_goals(try omega));all_goals(refine aX rfl ⟨_,rfl,aI ?_⟩)
 all_goals(unfold yP;(simp only[AVal.lit.injEq,mG.injEq];rw[aY];simp only[beq_iff_eq,bne_iff_ne,ne_eq,dTt,dFn,aC,bH,aT,beq_eq_false_iff_ne,aO,bM,true_iff,false_iff,iff_true,iff_false];omega))
theorem DF(v r w:Int)(hv:v<=18446744073709551615)(hr:0<=r):Pure aA Γ 242 [.lit (.int .u64 v),.lit (.int .u32 r),w] (yP v r w):=by
 refine aZ Tryz.func242 rfl 17 rfl bB rfl λ k=>?_;refine bY rfl ?_;refine iF rfl [0,1,2,6] [] rfl (λ K hK=>?_);refine sT ?_;(refine hK _ _ _ _ (λ hx=>?_));clear hx hK;refine sT ?_;refine bY rfl ?_;refine iF rfl [6] [.ret (decide (1<=w/\w<=65536)),.ret (yP v r w)] rfl (λ K hK=>?_);refine sT ?_;(repeat'(first|(refine And.intro ?_ ?_)|(refine iI (λ hb=>?_) (λ hb=>?_)<;>(have hg:=hb;(try simp only[QH]at hg);simp-dsimp-implicitDefEqProofs only[go_sem,hb,hg,eq_self,↓reduceIte];clear hb;(try simp only[QG]at hg)))));(any_goals ((refine hK _ _ _ _ (λ hx=>?_));clear hx hK;refine sT ?_;(try simp(disch:=omega)only[wrap_i64,fF,wrap_u32,jV])));(all_goals(try omega));.exact KD w
 .rw[wrap_u32 oO oO];exact KW v r w hv hr
 all_goals(refine aX rfl ⟨_,rfl,aI ?_⟩)
 .rfl
 all_goals(unfold yP;(simp only[AVal.lit.injEq,mG.injEq];rw[aY];simp only[beq_iff_eq,bne_iff_ne,ne_eq,dTt,dFn,aC,bH,aT,beq_eq_false_iff_ne,aO,bM,true_iff,false_iff,iff_true,iff_false];omega))
end Go.Proofs.T
end
