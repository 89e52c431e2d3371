import Derived.Test.YteimiejbhhgljaaGreatDoorZAI
import Derived.Shelf.SlGeneric
import Derived.Shelf.SlLaysF0
import Derived.Ground.SlsfProg
import Derived.Test.YteimiejbhhgljaaGreatDoorProg
import Derived.Shelf.SlSortCmp.WholeK
import Derived.WalkKit
import Derived.KernelRfl
import Derived.Shelf.SlSortCmp.NoneTotal
set_option linter.unusedVariables false
set_option linter.unusedSimpArgs false
set_option maxHeartbeats 0
set_option maxRecDepth 100000
open Array renaming eq_empty_of_size_eq_zero->lC,ext->aFB,ext'->bAQ,getElem?_eq_getElem->aP,getElem?_eq_none->gH,getElem?_modify->PL
open Bool renaming and_eq_true->aC,and_false->qP,and_self->a0W,eq_iff_iff->aY,false_and->kD,false_eq_true->aO,not_eq_true->aHU,not_eq_true'->aT,not_true->a0V,or_eq_true->bH,true_and->kQ,true_eq_false->bM
open Int renaming eq_ofNat_of_zero_le->FQ,fdiv_eq_ediv_of_nonneg->dL,natCast_nonneg->KB,toNat_natCast->gX,toNat_of_nonneg->gC
open Go.IntKind renaming i64->aN,u64->bN
open List renaming Pairwise->oG,Perm->fV,append_assoc->bL,append_eq_nil_iff->vW,append_nil->aR,eq_nil_of_length_eq_zero->fL,ext_getElem?->kP,getD_eq_getElem?_getD->bD,getElem?_eq_getElem->aE,getElem?_eq_none->cI,getElem?_map->aQ,getElem?_replicate->a0T,getElem?_set->fY,getElem_mem->bKH,length_append->bQ,length_cons->lZ,length_map->bP,map->jL,map_append->aH,map_cons->bG,map_map->jD,map_nil->aV,map_set->mI,mem_append->cD,nil_append->cN,pairwise_append->aAB,pairwise_iff_getElem->lN,range->aM,range_succ->CI,replicate->eI
open Nat renaming add_assoc->fS,add_mul->cX,add_sub_cancel->rN,add_sub_cancel_left->iW,le_refl->aF,lt_of_lt_of_le->oE,mod_eq_of_lt->HR,mul_one->bAM,not_lt_zero->bJ,one_mul->aMJ,pos_of_ne_zero->a0R,sub_self->PG,sub_zero->bFW,zero_add->dV,zero_le->aJ,zero_mul->tM
open Option renaming isSome_none->lA,map_eq_none_iff->dG,map_some->cB,some->mB
open Go.Proofs.Tryz renaming isAgg189->FN,isAgg3->PF,isAgg4->aME,isAgg5->aMD,isAgg50->PE,isAgg9->aMC,prog->aA,sizeOf0->bFT,sizeOf189->zH,sizeOf3->DR,sizeOf4->PD,sizeOf5->PC,sizeOf50->FM,sizeOf9->PB,underlying0->HP,underlying189->oB,underlying22->iL,underlying3->dB,underlying4->lW,underlying5->oR,underlying50->jB,underlying9->kC,zeroValue0->PA,zeroValue189->pU,zeroValue22->aHN,zeroValue3->qT,zeroValue4->vI,zeroValue5->vH,zeroValue50->rZ,zeroValue9->vG
open Go.Value renaming bool->mG
section
namespace Go.Proofs.T
open Go Go.AM Go.Proofs
variable{Γ:List (Nat×List AVal)}
def aJT:Option Int->AVal
 |none=> .lit (.pointer none)
 |some v=> .rp [.lit (.int .u64 v)]
theorem aBK(x:Option Int):clean (aJT x)=true:=by cases x<;>rfl
theorem QE:aJT none= .lit (.pointer none):=rfl
theorem QD(v:Int):aJT (some v)= .rp [.lit (.int .u64 v)]:=rfl
def vP(f:Nat->Option Int)(n:Nat):List (List AVal):=(aM n).map λ i=>[aJT (f i)]
theorem GI(f:Nat->Option Int)(n:Nat):(vP f n).length=n:=by simp[vP]
theorem wS(f:Nat->Option Int)(n g:Nat)(h:g<n):(vP f n)[g]? =some [aJT (f g)]:=by simp[vP,h]
theorem gM(f:Nat->Option Int)(n:Nat):((vP f n).all λ row=>row.all clean)=true:=SA λ i=>by simp[aBK]
def put(f:Nat->Option Int)(g:Nat)(v:Int):Nat->Option Int:=λ i=>if i=g then some v else f i
theorem kH(f:Nat->Option Int)(n g:Nat)(v:Int):(vP f n).set g [.rp [.lit (.int .u64 v)]]=vP (put f g v) n:=by
 apply kP;intro j;rw[fY];by_cases hj:j<n
 .rw[wS _ n j hj,wS _ n j hj,GI];by_cases he:g=j;.subst he;simp[put,hj,aJT]
  have:¬j=g:=λ e=>he e.symm;simp[he,put,this]
 have h1:(vP f n)[j]? =none:=by simp[vP,hj]
 have h2:(vP (put f g v) n)[j]? =none:=by simp[vP,hj]
 rw[h1,h2,GI];split;.rename_i he;subst he;simp[hj]
 rfl
def low(f:Nat->Option Int)(g:Nat)(v:Int):Nat->Option Int:=match f g with
 |none=>put f g v
 |some u=>if v<u then put f g v else f
def LW(T B n:Nat)(f:Nat->Option Int):aS:=[(T,⟨1,false,[[.sl B 0 n]]⟩),(B,⟨1,true,vP f n⟩)]
attribute [go_sem] LW GI
theorem a1L(k T B n:Nat)(f:Nat->Option Int)(g:Nat)(v:Int)(hT:T<k)(hB:B<k)(hne:T≠B)(hg:g<n):
 Tr aA Γ 246 k [g,.lit (.int .u64 v),.ptr T 0 0] (LW T B n f) (λ k1 r1 H1=>k1=k/\r1= .tup []/\H1=LW T B n (low f g v)):=by
 obtain⟨a1,a2,a3,a4,a5,a6⟩:=dW hT;obtain⟨b1,b2,b3,b4,b5,b6⟩:=dW hB;obtain⟨c1,c2⟩:=iE hne;have hget:=wS f n g hg;refine iD Tryz.func246 rfl 23 rfl bB (pS ?_)
 cases hf:f g with
 |none=>rw[hf,QE]at hget;have kp:Kp [0,1,2,4,19] (λ i=>if i=T then 0 else if i=B then 1 else i-k+2):=vD;have uU:=eQ @a1 @a2 @a3 @a4 @a5 @a6 @b1 @b2 (yA @b3 @b4 @b5 @b6 @c1 @c2 @hget);refine wl ?_;refine aU ⟨λ ht=>zN ?_⟩;refine⟨k,[],LW T B n (put f g v),?_,_,rfl,rfl,rfl,by rw[show low f g v=put f g v by simp only[low,hf]];rfl⟩;refine Mv.trans (dJ k (by simp-dsimp-implicitDefEqProofs only[go_sem,a1,a2,a3,a4,a5,a6,b1,b2,b3,b4,b5,b6,c1,c2,hget,eq_self,↓reduceIte];rfl) rfl) ?_;simp-dsimp-implicitDefEqProofs only[kX,fE,go_sem,a1,a2,a3,a4,a5,a6,b1,b2,b3,b4,b5,b6,c1,c2,mI,iJ (gM f n),kH,eq_self,↓reduceIte];refine Mv.trans (Mv.pure B (by simp-dsimp-implicitDefEqProofs only[go_sem,a1,a2,a3,a4,a5,a6,b1,b2,b3,b4,b5,b6,c1,c2,mI,iJ (gM f n),kH,eq_self,↓reduceIte];rfl) (gM _ _)) ?_;exact kU (vY oO (by simp-dsimp-implicitDefEqProofs only[go_sem,a1,a2,a3,a4,a5,a6,b1,b2,b3,b4,b5,b6,c1,c2,mI,iJ (gM f n),kH,aH,Flt.row,eq_self,↓reduceIte]) (by simp-dsimp-implicitDefEqProofs only[go_sem,a1,a2,a3,a4,a5,a6,b1,b2,b3,b4,b5,b6,c1,c2,mI,iJ (gM f n),kH,aH,Flt.row,eq_self,↓reduceIte]) (by simp-dsimp-implicitDefEqProofs only[go_sem,a1,a2,a3,a4,a5,a6,b1,b2,b3,b4,b5,b6,c1,c2,mI,iJ (gM f n),kH,aH,Flt.row,eq_self,↓reduceIte]) (by simp-dsimp-implicitDefEqProofs only[go_sem,a1,a2,a3,a4,a5,a6,b1,b2,b3,b4,b5,b6,c1,c2,mI,iJ (gM f n),kH,aH,Flt.row,eq_self,↓reduceIte]))
 |some u=>
  rw[hf,QD]at hget;have kp:Kp [0,1,2,4,19] (λ i=>if i=T then 0 else if i=B then 1 else i-k+2):=vD;have uU:=eQ @a1 @a2 @a3 @a4 @a5 @a6 @b1 @b2 (yA @b3 @b4 @b5 @b6 @c1 @c2 @hget);refine wl ?_;refine dD ⟨λ ht=>zN ?_⟩ ⟨λ ht=>zN ?_⟩;.refine⟨k,[],LW T B n (put f g v),?_,_,rfl,rfl,rfl,by rw[show low f g v=put f g v by simp only[low,hf,if_pos ht]];rfl⟩;refine Mv.trans (dJ k (by simp-dsimp-implicitDefEqProofs only[go_sem,a1,a2,a3,a4,a5,a6,b1,b2,b3,b4,b5,b6,c1,c2,hget,eq_self,↓reduceIte];rfl) rfl) ?_;simp-dsimp-implicitDefEqProofs only[kX,fE,go_sem,a1,a2,a3,a4,a5,a6,b1,b2,b3,b4,b5,b6,c1,c2,mI,iJ (gM f n),kH,eq_self,↓reduceIte];refine Mv.trans (Mv.pure B (by simp-dsimp-implicitDefEqProofs only[go_sem,a1,a2,a3,a4,a5,a6,b1,b2,b3,b4,b5,b6,c1,c2,mI,iJ (gM f n),kH,eq_self,↓reduceIte];rfl) (gM _ _)) ?_;exact kU (vY oO (by simp-dsimp-implicitDefEqProofs only[go_sem,a1,a2,a3,a4,a5,a6,b1,b2,b3,b4,b5,b6,c1,c2,mI,iJ (gM f n),kH,aH,Flt.row,eq_self,↓reduceIte]) (by simp-dsimp-implicitDefEqProofs only[go_sem,a1,a2,a3,a4,a5,a6,b1,b2,b3,b4,b5,b6,c1,c2,mI,iJ (gM f n),kH,aH,Flt.row,eq_self,↓reduceIte]) (by simp-dsimp-implicitDefEqProofs only[go_sem,a1,a2,a3,a4,a5,a6,b1,b2,b3,b4,b5,b6,c1,c2,mI,iJ (gM f n),kH,aH,Flt.row,eq_self,↓reduceIte]) (by simp-dsimp-implicitDefEqProofs only[go_sem,a1,a2,a3,a4,a5,a6,b1,b2,b3,b4,b5,b6,c1,c2,mI,iJ (gM f n),kH,aH,Flt.row,eq_self,↓reduceIte]))
  refine⟨k,[],LW T B n f,?_,_,rfl,rfl,rfl,by rw[show low f g v=f by simp only[low,hf,if_neg (Int.not_lt.2 ht)]];rfl⟩;(have uU:=eQ @a1 @a2 @a3 @a4 @a5 @a6 @b1 @b2 (yA @b3 @b4 @b5 @b6 @c1 @c2 @hget);exact oZ)
def sN(s:St)(c:Int)(i:Nat):Bool:=(s.tsk i).ready&&decide ((s.tsk i).cpu=c)
def fT(s:St)(c:Int):Nat->Nat->Option Int
 |0=>λ _=>none
 |i+1=>if sN s c i=true then low (fT s c i) (s.tsk i).group.toNat (s.tsk i).v else fT s c i
def DZ(s:St)(c g:Nat)(f:Nat->Option Int):Nat->Option Int:=match f g with
 |none=>f
 |some _=>if 0<g then low f (s.par g).toNat (s.sp g c).v else f
def DY(s:St)(c g:Nat)(f:Nat->Option Int):List Flt:=match f g with
 |none=>[]
 |some m=>gJ (decide ((s.sp g c).floor<m)) ⟨14,(g:Int),(c:Int)⟩
theorem GD(s:St)(c g:Nat)(f:Nat->Option Int):(DY s c g f).length<=1:=by
 unfold DY;split;.simp
 exact dM _ _
def dF(s:St)(c:Nat):Nat->Nat->Option Int
 |0=>fT s c s.nt
 |j+1=>DZ s c (s.ns-1-j) (dF s c j)
def rE(s:St)(c j:Nat):List Flt:=DY s c (s.ns-1-j) (dF s c j)
def qB(s:St)(c:Nat):List Flt:=bF (rE s c) s.ns
def vS(s:St):List Flt:=bF (qB s) s.cpus.toNat
structure FloorOk (s:St):Prop where
 grp:∀i,i<s.nt->0<=(s.tsk i).group/\(s.tsk i).group<s.ns
 par:∀g,1<=g->g<s.ns->0<=s.par g/\s.par g<g
 sp:∀g,g<s.ns->(s.nsp g:Int)=s.cpus
 ng:s.ns<=s.ng
 c0:0<=s.cpus
 c1:s.cpus<=64
 n12:s.ns<=12
theorem tG(n:Nat):eI n [AVal.lit (.pointer none)]=vP (λ _=>none) n:=by
 apply kP;intro j;by_cases hj:j<n;.rw[wS _ n j hj,a0T,if_pos hj];rfl
 rw[a0T,if_neg hj];simp[vP,hj]
theorem a4F(s:St)(hs:s.Small)(hk:FloorOk s):aVD Γ 194 s (vS s):=by
 obtain⟨hng,hnk,hnu,hnt,hns,hnsp⟩:=id hs;obtain⟨kgrp,kpar,ksp,kng,kc0,kc1,k12⟩:=hk;intro k L F l hL hF hne hl;obtain⟨a1,a2,a3,a4,a5,a6⟩:=dW hL;obtain⟨b1,b2,b3,b4,b5,b6⟩:=dW hF;obtain⟨c1,c2⟩:=iE hne;refine iD Tryz.func194 rfl 112 rfl bB (pS ?_);refine dI (BY F oO) ?_;have uU:=eQ @a1 @a2 @a3 @a4 @a5 @a6 @b1 @b2 (qQ @b3 @b4 @b5 @b6 @c1 @c2);refine rR ?_;apply zN;have kp:Kp [0,2,3,4,6,7,13,14,15,29,30,31,32,42,54,61,86] (λ i=>if i=L then 0 else i-k+1):=vD;refine wl ?_;refine aU (zs ?_);refine bE (X:=Nat) rfl [0,2,3,4,6,7,13,14,15,29,30,31,32,42,54,61,86] (k+1) (λ i=>[(14,i)]) (λ i=>LK L k s (l++bF (qB s) i)) (λ i=>i<=s.cpus.toNat) (λ i=>s.cpus.toNat-i) 0 ?_ (aJ _) ?_;.rw[dY,aR];refine rR ?_;apply zN;(have uU:=eQ @a1 @a2 @a3 @a4 @a5 @a6 @b1 @b2 (qQ @b3 @b4 @b5 @b6 @c1 @c2);exact oZ)
 intro c hc;have hfl:=cJ (f:=qB s) (m:=12) (λ i=>by have:=cJ (f:=rE s i) (m:=1) (λ j=>GD _ _ _ _) s.ns;unfold qB;omega) c;obtain⟨l0,e0,h0⟩:∃x,x=l++bF (qB s) c/\x.length<=l.length+c*12:=⟨_,rfl,by simp;omega⟩;rw[<-e0];have uU:=eQ @a1 @a2 @a3 @a4 @a5 @a6 @b1 @b2 (yA @b3 @b4 @b5 @b6 @c1 @c2 @tG);refine rR ?_;apply zN;refine wl ?_;refine dD ⟨λ ht=>zN ?_⟩ ⟨λ ht=>zN ?_⟩
 .refine bE (X:=Nat) rfl [0,2,3,4,6,7,13,14,15,29,30,31,32,42,54,61,86] (k+3) (λ i=>[(31,i)]) (λ i=>LW (k+2) (k+1) s.ns (fT s c i)++LK L k s l0) (λ i=>i<=s.nt) (λ i=>s.nt-i) 0 ?_ (aJ _) ?_;.rw[fT];refine rR ?_;apply zN;(have uU:=eQ @a1 @a2 @a3 @a4 @a5 @a6 @b1 @b2 (yA @b3 @b4 @b5 @b6 @c1 @c2 @tG);exact oZ)
  intro i hi;obtain⟨f,ef⟩:∃f,f=fT s c i:=⟨_,rfl⟩;rw[<-ef];have hstep:fT s c (i+1)=if sN s c i=true then low f (s.tsk i).group.toNat (s.tsk i).v else f:=by rw[ef];rfl
  refine rR ?_;apply zN;refine wl ?_;refine DT ⟨λ ht ht=>⟨λ hg=>⟨?_⟩⟩⟩ ⟨λ ht ht=>⟨λ hg=>⟨?_⟩⟩⟩ ⟨λ ht ht=>⟨λ hg=>⟨?_⟩⟩⟩ ⟨λ ht=>zN ?_⟩
  .obtain⟨hg1,hg2⟩:=kgrp i oO;have htk:sN s c i=true:=by simp[sN,hg,ht]
   obtain⟨f1,ef1⟩:∃f1,f1=low f (s.tsk i).group.toNat (s.tsk i).v:=⟨_,rfl⟩;refine cl [.gen (.tup []) (k+4) (LW (k+2) (k+1) s.ns f) (LW (k+2) (k+1) s.ns f1)] ?_;refine dD (zs ?_) (zs ?_);.have h:=a1L (Γ:=Γ) (k+4) (k+2) (k+1) s.ns f (s.tsk i).group.toNat (s.tsk i).v oO oO oO oO;rw[gC hg1,<-ef1]at h;exact h
   refine wl ?_;refine aU (zs ?_);refine⟨i+1,oO,oO,?_⟩;rw[hstep,if_pos htk,<-ef1];refine rR ?_;apply zN;(have uU:=eQ @a1 @a2 @a3 @a4 @a5 @a6 @b1 @b2 (yA @b3 @b4 @b5 @b6 @c1 @c2 @tG);exact oZ)
  .refine⟨i+1,oO,oO,?_⟩;rw[hstep,if_neg (by simp[sN,ht])];refine rR ?_;apply zN;(have uU:=eQ @a1 @a2 @a3 @a4 @a5 @a6 @b1 @b2 (yA @b3 @b4 @b5 @b6 @c1 @c2 @tG);exact oZ)
  .refine⟨i+1,oO,oO,?_⟩;rw[hstep,if_neg (by simp[sN,hg])];refine rR ?_;apply zN;(have uU:=eQ @a1 @a2 @a3 @a4 @a5 @a6 @b1 @b2 (yA @b3 @b4 @b5 @b6 @c1 @c2 @tG);exact oZ)
  have hi':i=s.nt:=oO;subst hi';clear hstep;refine bE (X:=Nat) rfl [0,2,3,4,6,7,13,14,15,29,30,31,32,42,54,61,86] (k+3) (λ j=>[(7,((s.ns:Int)-1-j:Int))]) (λ j=>LW (k+2) (k+1) s.ns (dF s c j)++LK L k s (l0++bF (rE s c) j)) (λ j=>j<=s.ns) (λ j=>s.ns-j) 0 ?_ (aJ _) ?_;.rw[dY,aR,dF,<-ef,(oO:((s.ns:Int)-1-((0:Nat):Int))=(s.ns:Int)-1)];refine rR ?_;apply zN;(have uU:=eQ @a1 @a2 @a3 @a4 @a5 @a6 @b1 @b2 (yA @b3 @b4 @b5 @b6 @c1 @c2 @tG);exact oZ)
  clear ef f;intro j hj;have hfj:=cJ (f:=rE s c) (m:=1) (λ j=>GD _ _ _ _) j;obtain⟨l1,e1,h1⟩:∃x,x=l0++bF (rE s c) j/\x.length<=l0.length+j:=⟨_,rfl,by simp;omega⟩;obtain⟨f,ef⟩:∃f,f=dF s c j:=⟨_,rfl⟩;rw[<-e1,<-ef];refine rR ?_;apply zN;by_cases hlt:j<s.ns
  .obtain⟨g,eg,hgn⟩:∃g:Nat,(s.ns:Int)-1-j=(g:Int)/\g=s.ns-1-j:=⟨s.ns-1-j,oO,rfl⟩;rw[eg];have hF:dF s c (j+1)=DZ s c g f:=by rw[ef,hgn];rfl
   have hLj:rE s c j=DY s c g f:=by rw[ef,hgn];rfl
   have hget:=wS f s.ns g oO
   cases hf:f g with
   |none=>rw[hf,QE]at hget;have uU:=eQ @a1 @a2 @a3 @a4 @a5 @a6 @b1 @b2 (yA @b3 @b4 @b5 @b6 @c1 @c2 @hget);refine wl ?_;refine aU ⟨λ ht ht=>zN ?_⟩;refine⟨j+1,oO,oO,?_⟩;rw[hF,show DZ s c g f=f by simp only[DZ,hf],cY,hLj,show DY s c g f=[]by simp only[DY,hf],aR,<-e1,(oO:((s.ns:Int)-1-((j+1:Nat):Int))=(g:Int)-1)];(have uU:=eQ @a1 @a2 @a3 @a4 @a5 @a6 @b1 @b2 (yA @b3 @b4 @b5 @b6 @c1 @c2 @hget);exact oZ)
   |some m=>
    rw[hf,QD]at hget;have hspg:=ksp g oO;have hnn:=eg;have uU:=eQ @a1 @a2 @a3 @a4 @a5 @a6 @b1 @b2 (yA @b3 @b4 @b5 @b6 @c1 @c2 @hget);refine wl ?_;refine aU ⟨λ ht ht=>zN ?_⟩;obtain⟨l2,e_l2,h_l2⟩:∃x,x=l1++gJ (decide ((s.sp g c).floor<m)) ⟨14,(g:Int),(c:Int)⟩/\x.length<=(l1).length+1:=⟨_,rfl,iQ _ _ _⟩;refine lY [0,2,3,4,6,7,13,14,15,29,30,31,32,42,54,61,86] (k+4) [] ((L,⟨8,false,[mX (k+3) s (l2)]⟩)::cA (k+3) 3 ((l2).map Flt.row) (LW (k+2) (k+1) s.ns f)) ?_ ?_;.refine dl [.gen (.tup []) (k+4) (LK (L) (k) s (l1)) (LK (L) (k+3) s (l2))] ?_;refine dD (zs ?_) (zs ?_);all_goals(first|(exact mF (k+3) (L) (k) s (l1) (l2) _ (decide ((s.sp g c).floor<m)) _ _ _ (by first|rfl|(rw[aY];simp only[beq_iff_eq,bne_iff_ne,ne_eq,dTt,dFn,aC,bH,aT,beq_eq_false_iff_ne,aO,bM,true_iff,false_iff,iff_true,iff_false];omega)|(simp[hg];done)|(simp[hg,hq];done)|(simp_all;done)|(simp_all;omega)) e_l2 oO oO oO oO)|((have uU:=eQ @a1 @a2 @a3 @a4 @a5 @a6 @b1 @b2 (yA @b3 @b4 @b5 @b6 @c1 @c2 @hget);exact oZ)))
    refine rR ?_;apply zN;have hl2:l0++bF (rE s c) (j+1)=l2:=by rw[cY,<-bL,<-e1,hLj,e_l2];simp only[DY,hf]
    refine wl ?_;refine dD ⟨λ ht=>zN ?_⟩ ⟨λ ht=>zN ?_⟩
    .obtain⟨hp1,hp2⟩:=kpar g oO oO;obtain⟨f1,ef1⟩:∃f1,f1=low f (s.par g).toNat (s.sp g c).v:=⟨_,rfl⟩;refine dl [.gen (.tup []) (k+4) (LW (k+2) (k+1) s.ns f) (LW (k+2) (k+1) s.ns f1)] ?_;refine dD (zs ?_) (zs ?_);.have h:=a1L (Γ:=Γ) (k+4) (k+2) (k+1) s.ns f (s.par g).toNat (s.sp g c).v oO oO oO oO;rw[gC hp1,<-ef1]at h;exact h
     refine wl ?_;refine aU (zs ?_);refine⟨j+1,oO,oO,?_⟩;rw[hF,show DZ s c g f=f1 by simp only[DZ,hf];rw[if_pos oO,ef1],hl2,(oO:((s.ns:Int)-1-((j+1:Nat):Int))=(g:Int)-1)];exact lM (k+3) k (wV (eQ (@a1) (@a2) (@a3) (@a4) (@a5) (@a6) (@b1) (@b2) (yA (@b3) (@b4) (@b5) (@b6) (@c1) (@c2) (@hget))))
    refine⟨j+1,oO,oO,?_⟩;rw[hF,show DZ s c g f=f by simp only[DZ,hf];rw[if_neg oO],hl2,(oO:((s.ns:Int)-1-((j+1:Nat):Int))=(g:Int)-1)];exact lM (k+3) k (wV (eQ (@a1) (@a2) (@a3) (@a4) (@a5) (@a6) (@b1) (@b2) (yA (@b3) (@b4) (@b5) (@b6) (@c1) (@c2) (@hget))))
  have uU:=eQ @a1 @a2 @a3 @a4 @a5 @a6 @b1 @b2 (qQ @b3 @b4 @b5 @b6 @c1 @c2);refine wl ?_;refine aU ⟨λ ht=>zN ?_⟩;have hj':j=s.ns:=oO;refine⟨c+1,oO,oO,?_⟩;rw[show l++bF (qB s) (c+1)=l1 by rw[cY,<-bL,<-e0,e1,hj'];rfl]
  refine rR ?_;apply zN;(have uU:=eQ @a1 @a2 @a3 @a4 @a5 @a6 @b1 @b2 (qQ @b3 @b4 @b5 @b6 @c1 @c2);exact oZ)
 have hi':c=s.cpus.toNat:=oO;refine⟨k+1,[],LK L k s l0,?_,_,rfl,rfl,rfl,by rw[e0,hi'];rfl⟩;(have uU:=eQ @a1 @a2 @a3 @a4 @a5 @a6 @b1 @b2 (qQ @b3 @b4 @b5 @b6 @c1 @c2);exact oZ)
structure Wf (s:St):Prop where
 mask0:∀i,0<=(s.tsk i).mask
 mask1:∀i,(s.tsk i).mask<18446744073709551616
 tv:∀i,(s.tsk i).v<=18446744073709551615
 tr:∀i,0<=(s.tsk i).r
 sv:∀g c,(s.sp g c).v<=18446744073709551615
 sr:∀g c,0<=(s.sp g c).r
def CJ(s:St)(i:Nat)(c:Nat):Bool:=decide (s.cpus<=(c:Int))&&tA (s.tsk i).mask c
def r8(s:St)(i:Nat):Bool:=jI (CJ s i) 64
def r9(s:St)(i:Nat):Bool:=onB s i&& !(tA (s.tsk i).mask (s.tsk i).cpu.toNat)
def VZ(s:St)(i:Nat)(r:Int):Bool:=if r=4 then t4 s i else if r=5 then t5 s i else if r=6 then t6 s i else if r=7 then t7 s i else if r=8 then r8 s i else if r=9 then r9 s i else t10 s i
theorem a9Z{s:St}{i:Nat}{r:Int}(h:r=4):VZ s i r=t4 s i:=by subst h;rfl
theorem a9Y{s:St}{i:Nat}{r:Int}(h:r=5):VZ s i r=t5 s i:=by subst h;rfl
theorem bEU{s:St}{i:Nat}{r:Int}(h:r=6):VZ s i r=t6 s i:=by subst h;rfl
theorem bET{s:St}{i:Nat}{r:Int}(h:r=7):VZ s i r=t7 s i:=by subst h;rfl
theorem bES{s:St}{i:Nat}{r:Int}(h:r=8):VZ s i r=r8 s i:=by subst h;rfl
theorem bER{s:St}{i:Nat}{r:Int}(h:r=9):VZ s i r=r9 s i:=by subst h;rfl
theorem bAA{s:St}{i:Nat}{r:Int}(h4:¬r=4)(h5:¬r=5)(h6:¬r=6)(h7:¬r=7)(h8:¬r=8)(h9:¬r=9):VZ s i r=t10 s i:=by simp[VZ,h4,h5,h6,h7,h8,h9]
theorem rI{f:Nat->Bool}:∀ {n:Nat},(∀j,j<n->f j=false)->jI f n=false
 |0,_=>rfl
 |n+1,h=>by rw[jI,rI (λ j hj=>h j oO),h n oO];rfl
theorem aDY(s:St)(hs:s.Small)(hw:Wf s)(hc0:0<=s.cpus)(hc1:s.cpus<=64)(i:Nat)(hi:i<s.nt)(r:Int):Pure aA Γ 241 [.agg s.cells,i,.lit (.int .u8 r)] (VZ s i r):=by
 obtain⟨hng,hnk,hnu,hnt,hns,hnsp⟩:=id hs;have hw1:aN.wrap ((i:Int)-1)=(i:Int)-1:=wrap_i64 oO oO;have hpn:((i:Int)-1).toNat=i-1:=oO;refine aZ Tryz.func241 rfl 103 rfl bB rfl λ k=>?_;obtain⟨B,eB⟩:∃B,B=VZ s i r:=⟨_,rfl⟩;rw[<-eB];(repeat'(first|(refine bY rfl ?_)|(refine eZ rfl ?_)|(refine fD rfl ?_;(try simp-dsimp-implicitDefEqProofs only[go_sem,hw1,hpn,eq_self,↓reduceIte]))|(refine jU rfl ?_;(try simp-dsimp-implicitDefEqProofs only[go_sem,hw1,hpn,eq_self,↓reduceIte]))|(refine gA rfl _ rfl (λ ht=>?_) (λ ht=>?_)<;>(try(simp only[nf]at ht))<;>(try(exfalso;omega)))|((first|(refine gL rfl [0,1,2,3,6,7,8,9,26,27,43,53,67,71,77,83,84] rfl rfl (λ K hK=>?_))|(refine aUV rfl [0,1,2,3,6,7,8,9,26,27,43,53,67,71,77,83,84] rfl (by kernel_rfl) rfl (λ K hK=>?_)));simp-dsimp-implicitDefEqProofs only[go_sem,hw1,hpn,eq_self,↓reduceIte];(repeat'(first|(refine And.intro ?_ ?_)|(refine iI (λ hb=>?_) (λ hb=>?_)<;>(have hg:=hb;(try simp only[QH]at hg);simp-dsimp-implicitDefEqProofs only[go_sem,hw1,hpn,hb,hg,eq_self,↓reduceIte];clear hb;(try simp only[QG]at hg)))));any_goals ((first|(refine hK _ _ _ _ (λ hx=>?_))|(refine hK _ _ _ _ (yR (λ i=>i-k) (by simp only[bG,aV,shG,hw1,hpn,↓reduceIte,iW,PG];rfl) (by decide+kernel) (sV (And.intro (@hw1) (@hpn)))) (λ hx=>?_))|(refine hK _ _ _ _ (BR (by kernel_rfl) (sV (And.intro (@hw1) (@hpn)))) (λ hx=>?_)));clear hx hK;simp-dsimp-implicitDefEqProofs only[go_sem,hw1,hpn,eq_self,↓reduceIte];(try simp(disch:=omega)only[wrap_i64,fF,wrap_u32,jV])))|omega))
 any_goals (refine aX rfl ⟨_,rfl,aI ?_⟩;first
  |(rw[eB,a9Z oO,t4];(simp only[AVal.lit.injEq,mG.injEq];rw[aY];simp only[beq_iff_eq,bne_iff_ne,ne_eq,dTt,dFn,aC,bH,aT,beq_eq_false_iff_ne,aO,bM,true_iff,false_iff,iff_true,iff_false];omega);done)
  |(rw[eB,a9Y oO,t5];(simp only[AVal.lit.injEq,mG.injEq];rw[aY];simp only[beq_iff_eq,bne_iff_ne,ne_eq,dTt,dFn,aC,bH,aT,beq_eq_false_iff_ne,aO,bM,true_iff,false_iff,iff_true,iff_false];omega);done)
  |(rw[eB,bEU oO,t6];(simp only[AVal.lit.injEq,mG.injEq];rw[aY];simp only[beq_iff_eq,bne_iff_ne,ne_eq,dTt,dFn,aC,bH,aT,beq_eq_false_iff_ne,aO,bM,true_iff,false_iff,iff_true,iff_false];omega);done)
  |(rw[eB,bET oO,t7,onB];(simp only[AVal.lit.injEq,mG.injEq];rw[aY];simp only[beq_iff_eq,bne_iff_ne,ne_eq,dTt,dFn,aC,bH,aT,beq_eq_false_iff_ne,aO,bM,true_iff,false_iff,iff_true,iff_false];omega);done))
 all_goals(try(have h8:B=r8 s i:=by rw[eB,bES oO]))
 all_goals(try(have h9:B=r9 s i:=by rw[eB,bER oO]))
 all_goals(try(have h10:B=t10 s i:=by rw[eB,bAA oO oO oO oO oO oO]))
 .have hst:(s.cpus.toNat:Int)=s.cpus:=oO;refine bE (X:=Nat) rfl [0,1,2,3,6,7,8,9,26,27,43,53,67,71,77,83,84] (k+2) (λ c=>[(9,c)]) (λ c=>[(k+1,⟨8,true,[tf s i]⟩),(k,⟨7,true,[s.cells]⟩)]) (λ c=>s.cpus<=(c:Int)/\c<=64/\∀j,j<c->CJ s i j=false) (λ c=>64-c) s.cpus.toNat ?_ ⟨oO,oO,λ j hj=>by simp only[CJ,decide_eq_false (oO:¬s.cpus<=(j:Int)),kD]⟩ ?_;.rw[hst];have uU:=zA @hw1 @hpn;refine rR ?_;apply zN;(have uU:=zA @hw1 @hpn;exact oZ)
  rintro c ⟨hcc,hc64,hall⟩;have uU:=zA @hw1 @hpn;refine rR ?_;apply zN;have kp:=fI k [0,1,2,3,6,7,8,9,26,27,43,53,67,71,77,83,84];refine wl ?_;refine dD ⟨λ ht=>zN ?_⟩ ⟨λ ht=>zN ?_⟩
  .refine cl [.ret (tA (s.tsk i).mask c)] ?_;refine dD (zs ?_) (zs ?_);.have h:=UZ (Γ:=Γ) (s.tsk i).mask (c:Int) (hw.mask0 i) (hw.mask1 i) oO;rw[gX]at h;exact h
   refine wl ?_;refine dD ⟨λ ht=>zN ?_⟩ ⟨λ ht=>zN ?_⟩;.refine aX rfl ⟨_,rfl,aI ?_⟩;rw[h8,r8,tL (i:=c) (by simp only[CJ,decide_eq_true hcc,ht,a0W]) oO]
   refine⟨c+1,⟨oO,oO,λ j hj=>?_⟩,oO,?_⟩
   .by_cases he:j=c;.subst he;simp only[CJ,ht,qP]
    exact hall j oO
   refine rR ?_;apply zN;(have uU:=zA @hw1 @hpn;exact oZ)
  refine aX rfl ⟨_,rfl,aI ?_⟩;rw[h8,r8,rI (λ j hj=>hall j oO)]
 .have hq:=hg;have kp:=fI k [0,1,2,3,6,7,8,9,26,27,43,53,67,71,77,83,84];have uU:=zA @hw1 @hpn;refine cl [.ret (tA (s.tsk i).mask (s.tsk i).cpu.toNat)] ?_;refine wM ⟨⟨λ hg=>⟨?_⟩⟩⟩ ⟨⟨λ hg=>⟨?_⟩⟩⟩ ⟨⟨λ hg=>⟨?_⟩⟩⟩;.exact UZ (s.tsk i).mask (s.tsk i).cpu (hw.mask0 i) (hw.mask1 i) oO
  all_goals(refine aX rfl ⟨_,rfl,aI ?_⟩;rw[h9,r9,onB])
  .simp[hq,hg]
  simp[hg]
 .have kp:=fI k [0,1,2,3,6,7,8,9,26,27,43,53,67,71,77,83,84];have uU:=zA @hw1 @hpn;refine wl ?_;refine aU (zs ?_);refine cl [.ret (yP (s.tsk i).v (s.tsk i).r (s.tsk i).weight)] ?_;refine dD (zs ?_) (zs ?_);.exact DF (s.tsk i).v (s.tsk i).r (s.tsk i).weight (hw.tv i) (hw.tr i)
  refine aX rfl ⟨_,rfl,aI ?_⟩;rw[h10,t10]
 .have hst:(s.cpus.toNat:Int)=s.cpus:=oO;refine bE (X:=Nat) rfl [0,1,2,3,6,7,8,9,26,27,43,53,67,71,77,83,84] (k+2) (λ c=>[(9,c)]) (λ c=>[(k+1,⟨8,true,[tf s i]⟩),(k,⟨7,true,[s.cells]⟩)]) (λ c=>s.cpus<=(c:Int)/\c<=64/\∀j,j<c->CJ s i j=false) (λ c=>64-c) s.cpus.toNat ?_ ⟨oO,oO,λ j hj=>by simp only[CJ,decide_eq_false (oO:¬s.cpus<=(j:Int)),kD]⟩ ?_;.rw[hst];have uU:=zA @hw1 @hpn;refine rR ?_;apply zN;(have uU:=zA @hw1 @hpn;exact oZ)
  rintro c ⟨hcc,hc64,hall⟩;have uU:=zA @hw1 @hpn;refine rR ?_;apply zN;have kp:=fI k [0,1,2,3,6,7,8,9,26,27,43,53,67,71,77,83,84];refine wl ?_;refine dD ⟨λ ht=>zN ?_⟩ ⟨λ ht=>zN ?_⟩
  .refine cl [.ret (tA (s.tsk i).mask c)] ?_;refine dD (zs ?_) (zs ?_);.have h:=UZ (Γ:=Γ) (s.tsk i).mask (c:Int) (hw.mask0 i) (hw.mask1 i) oO;rw[gX]at h;exact h
   refine wl ?_;refine dD ⟨λ ht=>zN ?_⟩ ⟨λ ht=>zN ?_⟩;.refine aX rfl ⟨_,rfl,aI ?_⟩;rw[h8,r8,tL (i:=c) (by simp only[CJ,decide_eq_true hcc,ht,a0W]) oO]
   refine⟨c+1,⟨oO,oO,λ j hj=>?_⟩,oO,?_⟩
   .by_cases he:j=c;.subst he;simp only[CJ,ht,qP]
    exact hall j oO
   refine rR ?_;apply zN;(have uU:=zA @hw1 @hpn;exact oZ)
  refine aX rfl ⟨_,rfl,aI ?_⟩;rw[h8,r8,rI (λ j hj=>hall j oO)]
 .have kp:=fI k [0,1,2,3,6,7,8,9,26,27,43,53,67,71,77,83,84];have uU:=zA @hw1 @hpn;refine cl [.ret (tA (s.tsk i).mask (s.tsk i).cpu.toNat)] ?_;refine aU (zs ?_);all_goals(refine aX rfl ⟨_,rfl,aI ?_⟩;rw[h9,r9,onB])
  simp[hg]
 have kp:=fI k [0,1,2,3,6,7,8,9,26,27,43,53,67,71,77,83,84];have uU:=zA @hw1 @hpn;refine wl ?_;refine aU (zs ?_);refine cl [.ret (yP (s.tsk i).v (s.tsk i).r (s.tsk i).weight)] ?_;refine dD (zs ?_) (zs ?_);.exact DF (s.tsk i).v (s.tsk i).r (s.tsk i).weight (hw.tv i) (hw.tr i)
 refine aX rfl ⟨_,rfl,aI ?_⟩;rw[h10,t10]
def oJ(s:St)(r i:Nat):List Flt:=gJ (VZ s i (r+4)) ⟨((r:Int)+4),(i:Int),0⟩
def AR(s:St)(r:Nat):List Flt:=bF (oJ s r) s.nt
def qX(s:St)(g c:Nat):List Flt:=gJ (!(yP (s.sp g c).v (s.sp g c).r (s.wt g))) ⟨11,(g:Int),(c:Int)⟩
def vB(s:St)(g:Nat):List Flt:=if g=0 then []else bF (qX s g) (s.nsp g)
def kG(s:St)(c:Nat):List Flt:=gJ (decide (0<(s.sp 0 c).v\/0<(s.sp 0 c).r)) ⟨12,(c:Int),0⟩
def jG(s:St):List Flt:=bF (gO s) s.nk++(bF (AR s) 7++(bF (vB s) s.ns++(bF (kG s) s.cpus.toNat++bF (lO s) s.cpus.toNat)))
structure PartOk (s:St):Prop where
 sp:∀g,g<s.ns->(s.nsp g:Int)=s.cpus
 ng:s.ns=s.ng
 ns1:1<=s.ns
 c0:0<=s.cpus
 c1:s.cpus<=64
 nu:(s.nu:Int)=s.cpus
 n12:s.ns<=12
theorem aJO(s:St)(hs:s.Small)(hw:Wf s)(hp:PartOk s):Pure aA Γ 188 [.agg s.cells] (rows 3 ((jG s).map Flt.row)):=by
 obtain⟨hng,hnk,hnu,hnt,hns,hnsp⟩:=id hs;obtain⟨ksp,kng,kns1,kc0,kc1,knu,k12⟩:=id hp;refine aZ Tryz.func188 rfl 170 rfl bB rfl λ k=>?_;obtain⟨R,eR⟩:∃R,R=(jG s).map Flt.row:=⟨_,rfl⟩;rw[<-eR];have kp:=fI k [0,1,2,3,4,5,6,7,8,9,10,15,31,38,45,51,62,72,101,112,134,144,163];refine wl ?_;refine aU (zs ?_);refine bE (X:=Nat) rfl [0,1,2,3,4,5,6,7,8,9,10,15,31,38,45,51,62,72,101,112,134,144,163] (k+2) (λ c=>[(4,c),(3,bV (k+1) ((bF (gO s) c).map Flt.row))]) (λ c=>cA (k+1) 3 ((bF (gO s) c).map Flt.row) [(k,⟨7,true,[s.cells]⟩)]) (λ c=>c<=s.nk) (λ c=>s.nk-c) 0 ?_ (aJ _) ?_;.rw[dY,aV];refine rR ?_;apply zN;exact fW
 intro c hc;have hfl:=cJ (f:=gO s) (m:=1) (λ c=>dM _ _) c;obtain⟨l1,e1,h1⟩:∃x,x=bF (gO s) c/\x.length<=c:=⟨_,rfl,oO⟩;rw[<-e1];have hsucc:bF (gO s) (c+1)=l1++gO s c:=by rw[e1];rfl
 refine rR ?_;apply zN;refine wl ?_;refine DT ⟨λ ht ht=>⟨λ hg=>⟨?_⟩⟩⟩ ⟨λ ht ht=>⟨λ hg=>⟨?_⟩⟩⟩ ⟨λ ht ht=>⟨λ hg=>⟨?_⟩⟩⟩ ⟨λ ht=>zN ?_⟩;.refine⟨c+1,oO,oO,?_⟩;rw[hsucc,show gO s c=[⟨3,(c:Int),0⟩]by rw[gO,decide_eq_true oO];rfl];refine rR ?_;apply zN;exact lM (k+3) (k+1) wL
 .refine⟨c+1,oO,oO,?_⟩;rw[hsucc,show gO s c=[]by rw[gO,decide_eq_false oO];rfl,aR];refine rR ?_;apply zN;exact fW
 .refine⟨c+1,oO,oO,?_⟩;rw[hsucc,show gO s c=[⟨3,(c:Int),0⟩]by rw[gO,decide_eq_true oO];rfl];refine rR ?_;apply zN;exact lM (k+3) (k+1) wL
 have hcn:c=s.nk:=oO;subst hcn;clear hsucc hfl;refine bE (X:=Nat) rfl [0,1,2,3,4,5,6,7,8,9,10,15,31,38,45,51,62,72,101,112,134,144,163] (k+2) (λ r=>[(5,.lit (.int .u8 ((r:Int)+4))),(3,bV (k+1) ((l1++bF (AR s) r).map Flt.row))]) (λ r=>cA (k+1) 3 ((l1++bF (AR s) r).map Flt.row) [(k,⟨7,true,[s.cells]⟩)]) (λ r=>r<=7) (λ r=>7-r) 0 ?_ (aJ _) ?_;.rw[dY,aR,show(((0:Nat):Int)+4)=4 from rfl];refine rR ?_;apply zN;exact fW
 intro r hr;have hfl:=cJ (f:=AR s) (m:=1000) (λ r=>by have:=cJ (f:=oJ s r) (m:=1) (λ i=>dM _ _) s.nt;unfold AR;omega) r;obtain⟨l2,e2,h2⟩:∃x,x=l1++bF (AR s) r/\x.length<=l1.length+r*1000:=⟨_,rfl,by simp;omega⟩;rw[<-e2];have hsucc2:l1++bF (AR s) (r+1)=l2++bF (oJ s r) s.nt:=by rw[e2,cY,bL];rfl
 refine rR ?_;apply zN;refine wl ?_;refine dD ⟨λ ht=>zN ?_⟩ ⟨λ ht=>zN ?_⟩
 .refine bE (X:=Nat) rfl [0,1,2,3,4,5,6,7,8,9,10,15,31,38,45,51,62,72,101,112,134,144,163] (k+2) (λ i=>[(6,i),(3,bV (k+1) ((l2++bF (oJ s r) i).map Flt.row))]) (λ i=>cA (k+1) 3 ((l2++bF (oJ s r) i).map Flt.row) [(k,⟨7,true,[s.cells]⟩)]) (λ i=>i<=s.nt) (λ i=>s.nt-i) 0 ?_ (aJ _) ?_;.rw[dY,aR];refine rR ?_;apply zN;exact fW
  intro i hi;have hfi:=cJ (f:=oJ s r) (m:=1) (λ i=>dM _ _) i;obtain⟨l3,e3,h3⟩:∃x,x=l2++bF (oJ s r) i/\x.length<=l2.length+i:=⟨_,rfl,by simp;omega⟩;rw[<-e3];have hsucc3:l2++bF (oJ s r) (i+1)=l3++oJ s r i:=by rw[e3,cY,bL]
  refine rR ?_;apply zN;refine wl ?_;refine dD ⟨λ ht=>zN ?_⟩ ⟨λ ht=>zN ?_⟩
  .obtain⟨b,eb⟩:∃b,b=VZ s i ((r:Int)+4):=⟨_,rfl⟩;refine cl [.ret b] ?_;refine dD (zs ?_) (zs ?_);.rw[eb];exact aDY s hs hw kc0 kc1 i oO ((r:Int)+4)
   refine wl ?_;refine dD ⟨λ ht=>zN ?_⟩ ⟨λ ht=>zN ?_⟩;.refine⟨i+1,oO,oO,?_⟩;rw[hsucc3,show oJ s r i=[⟨((r:Int)+4),(i:Int),0⟩]by rw[oJ,<-eb,ht];rfl];refine rR ?_;apply zN;exact lM (k+3) (k+1) wL
   refine⟨i+1,oO,oO,?_⟩;rw[hsucc3,show oJ s r i=[]by rw[oJ,<-eb,ht];rfl,aR];refine rR ?_;apply zN;exact fW
  have hin:i=s.nt:=oO;refine⟨r+1,oO,oO,?_⟩;rw[hsucc2,<-hin,<-e3,(oO:(((r+1:Nat):Int)+4)=(r:Int)+4+1)];(try(simp-dsimp-implicitDefEqProofs only[go_sem,eq_self,↓reduceIte]));exact fW
 have hrn:r=7:=oO;subst hrn;clear hsucc2 hfl;refine bE (X:=Nat) rfl [0,1,2,3,4,5,6,7,8,9,10,15,31,38,45,51,62,72,101,112,134,144,163] (k+2) (λ g=>[(7,g),(3,bV (k+1) ((l2++bF (vB s) g).map Flt.row))]) (λ g=>cA (k+1) 3 ((l2++bF (vB s) g).map Flt.row) [(k,⟨7,true,[s.cells]⟩)]) (λ g=>1<=g/\g<=s.ns) (λ g=>s.ns-g) 1 ?_ ⟨oO,oO⟩ ?_;.rw[show bF (vB s) 1=[]from rfl,aR];refine rR ?_;apply zN;exact fW
 rintro g ⟨hg1,hg2⟩
 have hfl:=mZ (f:=vB s) (m:=1000) g (λ g hg=>by
  unfold vB;split;.simp
  have:=cJ (f:=qX s g) (m:=1) (λ i=>dM _ _) (s.nsp g);have:=hnsp g oO;omega)
 obtain⟨l3,e3,h3⟩:∃x,x=l2++bF (vB s) g/\x.length<=l2.length+g*1000:=⟨_,rfl,by simp;omega⟩;rw[<-e3];have hsucc4:l2++bF (vB s) (g+1)=l3++bF (qX s g) (s.nsp g):=by rw[e3,cY,bL,vB,if_neg oO]
 refine rR ?_;apply zN;refine wl ?_;refine dD ⟨λ ht=>zN ?_⟩ ⟨λ ht=>zN ?_⟩
 .have hpg:s.nsp g<=1000:=hnsp g oO;refine bE (X:=Nat) rfl [0,1,2,3,4,5,6,7,8,9,10,15,31,38,45,51,62,72,101,112,134,144,163] (k+2) (λ c=>[(8,c),(3,bV (k+1) ((l3++bF (qX s g) c).map Flt.row))]) (λ c=>cA (k+1) 3 ((l3++bF (qX s g) c).map Flt.row) [(k,⟨7,true,[s.cells]⟩)]) (λ c=>c<=s.nsp g) (λ c=>s.nsp g-c) 0 ?_ (aJ _) ?_;.rw[dY,aR];refine rR ?_;apply zN;exact fW
  intro c hc;have hfi:=cJ (f:=qX s g) (m:=1) (λ i=>dM _ _) c;obtain⟨l4,e4,h4⟩:∃x,x=l3++bF (qX s g) c/\x.length<=l3.length+c:=⟨_,rfl,by simp;omega⟩;rw[<-e4];have hsucc5:l3++bF (qX s g) (c+1)=l4++qX s g c:=by rw[e4,cY,bL]
  refine rR ?_;apply zN;refine wl ?_;refine dD ⟨λ ht=>zN ?_⟩ ⟨λ ht=>zN ?_⟩
  .obtain⟨b,eb⟩:∃b,b=yP (s.sp g c).v (s.sp g c).r (s.wt g):=⟨_,rfl⟩;refine dl [.ret b] ?_;refine dD (zs ?_) (zs ?_);.rw[eb];exact DF (s.sp g c).v (s.sp g c).r (s.wt g) (hw.sv g c) (hw.sr g c)
   refine wl ?_;refine dD ⟨λ ht=>zN ?_⟩ ⟨λ ht=>zN ?_⟩;.refine⟨c+1,oO,oO,?_⟩;rw[hsucc5,show qX s g c=[⟨11,(g:Int),(c:Int)⟩]by rw[qX,<-eb,ht];rfl];refine rR ?_;apply zN;exact lM (k+3) (k+1) wL
   refine⟨c+1,oO,oO,?_⟩;rw[hsucc5,show qX s g c=[]by rw[qX,<-eb,ht];rfl,aR];refine rR ?_;apply zN;exact fW
  have hin:c=s.nsp g:=oO;refine⟨g+1,⟨oO,oO⟩,oO,?_⟩;rw[hsucc4,<-hin,<-e4];refine rR ?_;apply zN;exact fW
 have hgn:g=s.ns:=oO;subst hgn;clear hsucc4 hfl;have hst:(s.cpus.toNat:Int)=s.cpus:=oO;have hsp0:=ksp 0 oO;refine bE (X:=Nat) rfl [0,1,2,3,4,5,6,7,8,9,10,15,31,38,45,51,62,72,101,112,134,144,163] (k+2) (λ c=>[(9,c),(3,bV (k+1) ((l3++bF (kG s) c).map Flt.row))]) (λ c=>cA (k+1) 3 ((l3++bF (kG s) c).map Flt.row) [(k,⟨7,true,[s.cells]⟩)]) (λ c=>c<=s.cpus.toNat) (λ c=>s.cpus.toNat-c) 0 ?_ (aJ _) ?_;.rw[dY,aR];refine rR ?_;apply zN;exact fW
 intro c hc;have hfl:=cJ (f:=kG s) (m:=1) (λ c=>dM _ _) c;obtain⟨l4,e4,h4⟩:∃x,x=l3++bF (kG s) c/\x.length<=l3.length+c:=⟨_,rfl,by simp;omega⟩;rw[<-e4];have hsucc6:l3++bF (kG s) (c+1)=l4++kG s c:=by rw[e4,cY,bL]
 refine rR ?_;apply zN;refine wl ?_;refine DT ⟨λ ht ht=>⟨λ hg=>⟨?_⟩⟩⟩ ⟨λ ht ht=>⟨λ hg=>⟨?_⟩⟩⟩ ⟨λ ht ht=>⟨λ hg=>⟨?_⟩⟩⟩ ⟨λ ht=>zN ?_⟩;.refine⟨c+1,oO,oO,?_⟩;rw[hsucc6,show kG s c=[⟨12,(c:Int),0⟩]by rw[kG,decide_eq_true oO];rfl];refine rR ?_;apply zN;exact lM (k+3) (k+1) wL
 .refine⟨c+1,oO,oO,?_⟩;rw[hsucc6,show kG s c=[]by rw[kG,decide_eq_false oO];rfl,aR];refine rR ?_;apply zN;exact fW
 .refine⟨c+1,oO,oO,?_⟩;rw[hsucc6,show kG s c=[⟨12,(c:Int),0⟩]by rw[kG,decide_eq_true oO];rfl];refine rR ?_;apply zN;exact lM (k+3) (k+1) wL
 have hcn:c=s.cpus.toNat:=oO;subst hcn;clear hsucc6 hfl;refine bE (X:=Nat) rfl [0,1,2,3,4,5,6,7,8,9,10,15,31,38,45,51,62,72,101,112,134,144,163] (k+2) (λ c=>[(10,c),(3,bV (k+1) ((l4++bF (lO s) c).map Flt.row))]) (λ c=>cA (k+1) 3 ((l4++bF (lO s) c).map Flt.row) [(k,⟨7,true,[s.cells]⟩)]) (λ c=>c<=s.cpus.toNat) (λ c=>s.cpus.toNat-c) 0 ?_ (aJ _) ?_;.rw[dY,aR];refine rR ?_;apply zN;exact fW
 intro c hc;have hfl:=cJ (f:=lO s) (m:=1) (λ c=>dM _ _) c;obtain⟨l5,e5,h5⟩:∃x,x=l4++bF (lO s) c/\x.length<=l4.length+c:=⟨_,rfl,by simp;omega⟩;rw[<-e5];have hsucc7:l4++bF (lO s) (c+1)=l5++lO s c:=by rw[e5,cY,bL]
 refine rR ?_;apply zN;refine wl ?_;refine dD ⟨λ ht=>zN ?_⟩ ⟨λ ht=>zN ?_⟩
 .obtain⟨b,eb⟩:∃b,b=jI (fO s (s.cur c) c) s.nt:=⟨_,rfl⟩;refine dl [.ret b] ?_;refine wM ⟨⟨λ hg=>⟨?_⟩⟩⟩ ⟨⟨λ hg=>⟨?_⟩⟩⟩ ⟨⟨λ hg=>⟨?_⟩⟩⟩;.rw[eb];exact aJJ s (s.cur c) c hnt
  all_goals(refine wl ?_<;>and_intros<;>first|exact iH|(apply zM;(repeat intro ht);apply zM;(repeat intro hg);apply zM))
  .refine⟨c+1,oO,oO,?_⟩;rw[hsucc7,show lO s c=[⟨13,(c:Int),0⟩]by rw[lO,<-eb,ht,decide_eq_true hg];rfl];refine rR ?_;apply zN;exact lM (k+3) (k+1) wL
  .refine⟨c+1,oO,oO,?_⟩;rw[hsucc7,show lO s c=[]by rw[lO,<-eb,ht,a0V,qP];rfl,aR];refine rR ?_;apply zN;exact fW
  refine⟨c+1,oO,oO,?_⟩;rw[hsucc7,show lO s c=[]by rw[lO,decide_eq_false (λ h=>h hg),kD];rfl,aR];refine rR ?_;apply zN;exact fW
 have hcn:c=s.cpus.toNat:=oO;have hL:l5=jG s:=by rw[e5,e4,e3,e2,e1,jG,hcn];simp
 refine DO rfl (id:=k+1) (s:=3) (l:=jL Flt.row l5) 2 sL sL ?_;exact⟨_,rfl,by rw[eR,hL];exact aK _⟩
structure Mem where
 v:Int
 a:Int
 b:Int
def Mem.row (m:Mem):List AVal:=[.lit (.int .u64 m.v),.lit (.int .i64 m.a),.lit (.int .i64 m.b)]
attribute [go_sem] Mem.row
def jQ(f:Nat->List Mem):Nat->List Mem
 |0=>[]
 |n+1=>jQ f n++f n
theorem aCQ{f:Nat->List Mem}:jQ f 0=[]:=rfl
theorem MO{f:Nat->List Mem}{n:Nat}:jQ f (n+1)=jQ f n++f n:=rfl
theorem xJ{f:Nat->List Mem}{m:Nat}(h:∀i,(f i).length<=m):∀n,(jQ f n).length<=n*m
 |0=>by simp[jQ]
 |n+1=>by have:=xJ h n;have:=h n;simp only[jQ,bQ,cX,aMJ];omega
def ifM(b:Bool)(m:Mem):List Mem:=if b=true then [m]else []
theorem JP(b:Bool)(m:Mem):(ifM b m).length<=1:=by unfold ifM;split<;>simp
def inQ(s:St)(g c:Int)(i:Nat):Bool:=(s.tsk i).ready&&(decide ((s.tsk i).group=g)&&decide ((s.tsk i).cpu=c))
def wA(s:St)(g c i:Nat):List Mem:=ifM (inQ s g c i) ⟨(s.tsk i).v,0,(s.tsk i).id⟩
def vC(s:St)(c:Nat):Nat->Nat->List Mem
 |0,g=>jQ (wA s g c) s.nt
 |f+1,g=>jQ (wA s g c) s.nt++jQ (λ h=>ifM (decide (1<=h/\s.par h=(g:Int))&& !(vC s c f h).isEmpty) ⟨(s.sp h c).v,1,(h:Int)⟩) s.ns
def wZ(s:St)(c g:Nat)(sub:Nat->List Mem)(h:Nat):List Mem:=ifM (decide (1<=h/\s.par h=(g:Int))&& !(sub h).isEmpty) ⟨(s.sp h c).v,1,(h:Int)⟩
theorem EF(s:St)(hs:s.Small)(hp:PartOk s)(c:Nat)(hc:(c:Int)<s.cpus)(g:Nat)(sub:Nat->List Mem)
 (hsub:∀h,1<=h->h<s.ns->s.par h=(g:Int)->Pure aA Γ 183 [.agg s.cells,h,c] (rows 3 ((sub h).map Mem.row))):
 Pure aA Γ 183 [.agg s.cells,g,c] (rows 3 ((jQ (wA s g c) s.nt++jQ (wZ s c g sub) s.ns).map Mem.row)):=by
 obtain⟨hng,hnk,hnu,hnt,hns,hnsp⟩:=id hs;obtain⟨ksp,kng,kns1,kc0,kc1,knu,k12⟩:=id hp;refine aZ Tryz.func183 rfl 84 rfl bB rfl λ k=>?_;obtain⟨R,eR⟩:∃R,R=(jQ (wA s g c) s.nt++jQ (wZ s c g sub) s.ns).map Mem.row:=⟨_,rfl⟩;rw[<-eR];have kp:=fI k [0,1,2,3,6,7,8,9,10,15,36,49,68];refine wl ?_;refine aU (zs ?_);refine bE (X:=Nat) rfl [0,1,2,3,6,7,8,9,10,15,36,49,68] (k+2) (λ i=>[(8,i),(7,bV (k+1) ((jQ (wA s g c) i).map Mem.row))]) (λ i=>cA (k+1) 3 ((jQ (wA s g c) i).map Mem.row) [(k,⟨7,true,[s.cells]⟩)]) (λ i=>i<=s.nt) (λ i=>s.nt-i) 0 ?_ (aJ _) ?_;.rw[aCQ,aV];refine rR ?_;apply zN;exact fW
 intro i hi;have hfl:=xJ (f:=wA s g c) (m:=1) (λ i=>JP _ _) i;obtain⟨l1,e1,h1⟩:∃x,x=jQ (wA s g c) i/\x.length<=i:=⟨_,rfl,oO⟩;rw[<-e1];have hsucc:jQ (wA s g c) (i+1)=l1++wA s g c i:=by rw[e1];rfl
 refine rR ?_;apply zN;refine wl ?_;refine zq5 ⟨λ ht ht=>⟨λ hg hg=>⟨?_⟩⟩⟩ ⟨λ ht ht=>⟨λ hg hg=>⟨?_⟩⟩⟩ ⟨λ ht ht=>⟨λ hg hg=>⟨?_⟩⟩⟩ ⟨λ ht ht=>⟨λ hg=>⟨?_⟩⟩⟩ ⟨λ ht=>zN ?_⟩;.have hq:= ‹(s.tsk i).ready=true›;refine⟨i+1,oO,oO,?_⟩;rw[hsucc,show wA s g c i=[⟨(s.tsk i).v,0,(s.tsk i).id⟩]by simp[wA,ifM,inQ,hq,hg,ht]];refine rR ?_;apply zN;exact lM (k+4) (k+1) wL
 .refine⟨i+1,oO,oO,?_⟩;rw[hsucc,show wA s g c i=[]by simp[wA,ifM,inQ,ht],aR];refine rR ?_;apply zN;exact fW
 .refine⟨i+1,oO,oO,?_⟩;rw[hsucc,show wA s g c i=[]by simp[wA,ifM,inQ,hg],aR];refine rR ?_;apply zN;exact fW
 .refine⟨i+1,oO,oO,?_⟩;rw[hsucc,show wA s g c i=[]by simp[wA,ifM,inQ,hg],aR];refine rR ?_;apply zN;exact fW
 have hin:i=s.nt:=oO;subst hin;clear hsucc hfl;refine bE (X:=Nat) rfl [0,1,2,3,6,7,8,9,10,15,36,49,68] (k+2) (λ h=>[(10,h),(7,bV (k+1) ((l1++jQ (wZ s c g sub) h).map Mem.row))]) (λ h=>cA (k+1) 3 ((l1++jQ (wZ s c g sub) h).map Mem.row) [(k,⟨7,true,[s.cells]⟩)]) (λ h=>1<=h/\h<=s.ns) (λ h=>s.ns-h) 1 ?_ ⟨oO,oO⟩ ?_;.rw[show jQ (wZ s c g sub) 1=[]from by simp[jQ,wZ,ifM],aR];refine rR ?_;apply zN;exact fW
 rintro h ⟨hh1,hh2⟩;have hfl:=xJ (f:=wZ s c g sub) (m:=1) (λ i=>JP _ _) h;obtain⟨l2,e2,h2⟩:∃x,x=l1++jQ (wZ s c g sub) h/\x.length<=l1.length+h:=⟨_,rfl,by simp;omega⟩;rw[<-e2];have hsucc:l1++jQ (wZ s c g sub) (h+1)=l2++wZ s c g sub h:=by rw[e2,MO,bL]
 refine rR ?_;apply zN;refine wl ?_;refine dD ⟨λ ht=>zN ?_⟩ ⟨λ ht=>zN ?_⟩
 .by_cases hpg:s.par h=(g:Int)
  .have hb:(s.par h==(g:Int))=true:=by simp[hpg]
   have hsp:=ksp h oO;obtain⟨n,F,eF⟩:∃n F,(.rd 3 n F:AVal)=rows 3 ((sub h).map Mem.row)/\n=(sub h).length:=⟨_,_,rfl,sS⟩;have uU:= @hb;refine cl [.ret (.rd 3 n F)] ?_;refine dD (zs ?_) (zs ?_);.rw[eF.1];exact hsub h oO oO hpg
   have hn2:=eF.2;have uU:=Go.AM.uU;refine wl ?_;refine dD ⟨λ ht=>zN ?_⟩ ⟨λ ht=>zN ?_⟩
   .have hne:(sub h).isEmpty=false:=by
     cases hq:sub h with
     |nil=>rw[hq]at hn2;simp at hn2;omega
     |cons a b=>rfl
    refine⟨h+1,⟨oO,oO⟩,oO,?_⟩;rw[hsucc,show wZ s c g sub h=[⟨(s.sp h c).v,1,(h:Int)⟩]by rw[wZ,ifM,hne,decide_eq_true ⟨oO,hpg⟩];rfl];refine rR ?_;apply zN;exact lM (k+3) (k+1) wL
   have hne:(sub h).isEmpty=true:=by
    cases hq:sub h with
    |nil=>rfl
    |cons a b=>rw[hq]at hn2;simp at hn2;omega
   refine⟨h+1,⟨oO,oO⟩,oO,?_⟩;rw[hsucc,show wZ s c g sub h=[]by rw[wZ,ifM,hne,a0V,qP];rfl,aR];refine rR ?_;apply zN;exact fW
  have hb:(s.par h==(g:Int))=false:=by simp[hpg]
  have uU:= @hb;refine cl [.ret .junk] ?_;refine aU (zs ?_);refine wl ?_;refine aU ⟨λ ht=>zN ?_⟩;refine⟨h+1,⟨oO,oO⟩,oO,?_⟩;rw[hsucc,show wZ s c g sub h=[]by simp[wZ,ifM,hpg],aR];refine rR ?_;apply zN;(have uU:= @hb;exact oZ)
 have hin:h=s.ns:=oO;refine DO rfl (id:=k+1) (s:=3) (l:=jL Mem.row l2) 6 sL sL ?_;exact⟨_,rfl,by rw[eR,e2,e1,hin];exact aK _⟩
theorem GO(s:St)(c f g:Nat):vC s c (f+1) g=jQ (wA s g c) s.nt++jQ (wZ s c g (vC s c f)) s.ns:=rfl
theorem RG{f:Nat->List Mem}:∀ {n:Nat},(∀i,i<n->f i=[])->jQ f n=[]
 |0,_=>rfl
 |n+1,h=>by rw[jQ,RG (λ i hi=>h i oO),h n oO];rfl
theorem IA(s:St)(hs:s.Small)(hp:PartOk s)(hpar:∀g,1<=g->g<s.ns->s.par g<g)(c:Nat)(hc:(c:Int)<s.cpus):∀f g,s.ns-g<=f→
 Pure aA Γ 183 [.agg s.cells,g,c] (rows 3 ((vC s c f g).map Mem.row)):=by
 intro f
 induction f with
 |zero=>intro g hg;have h:=EF (Γ:=Γ) s hs hp c hc g (λ _=>[]) (λ h h1 h2 h3=>by have:=hpar h h1 h2;omega);rw[RG (f:=wZ s c g (λ _=>[])) (λ i hi=>by simp[wZ,ifM]),aR]at h;exact h
 |succ f ih=>intro g hg;rw[GO];exact EF s hs hp c hc g (vC s c f) (λ h h1 h2 h3=>ih h (by have:=hpar h h1 h2;omega))
def HI(f:Nat->Bool):Nat->Nat
 |0=>0
 |n+1=>HI f n+(if f n=true then 1 else 0)
theorem UU(f:Nat->Bool):∀n,HI f n<=n
 |0=>aF _
 |n+1=>by have:=UU f n;simp only[HI];split<;>omega
def aJZ(l:List Mem)(i:Nat):Int:=(l.getD i ⟨0,0,0⟩).v
def pH(s:St)(g c:Nat)(l:List Mem)(i:Nat):Bool:=decide ((s.sp g c).floor<aJZ l i)
def kV(s:St)(g c:Nat):List Flt:=gJ (decide (0<(vC s c s.ns g).length/\HI (pH s g c (vC s c s.ns g)) (vC s c s.ns g).length=(vC s c s.ns g).length)) ⟨14,(g:Int),(c:Int)⟩
def EP(s:St)(g:Nat):List Flt:=bF (kV s g) s.cpus.toNat
def nX(s:St):List Flt:=bF (EP s) s.ns
theorem XL(s:St)(c f g:Nat):(vC s c f g).length<=s.nt+s.ns:=by
 have h1:=xJ (f:=wA s g c) (m:=1) (λ i=>JP _ _) s.nt
 cases f with
 |zero=>rw[vC];omega
 |succ f=>have h2:=xJ (f:=wZ s c g (vC s c f)) (m:=1) (λ i=>JP _ _) s.ns;rw[GO,bQ];omega
theorem aCO(s:St)(hs:s.Small)(hp:PartOk s)(hpar:∀g,1<=g->g<s.ns->s.par g<g):Pure aA Γ 189 [.agg s.cells] (rows 3 ((nX s).map Flt.row)):=by
 obtain⟨hng,hnk,hnu,hnt,hns,hnsp⟩:=id hs;obtain⟨ksp,kng,kns1,kc0,kc1,knu,k12⟩:=id hp;refine aZ Tryz.func189 rfl 66 rfl bB rfl λ k=>?_;obtain⟨R,eR⟩:∃R,R=(nX s).map Flt.row:=⟨_,rfl⟩;rw[<-eR];have kp:=fI k [0,1,2,3,4,5,6,7,8,13,20,30,47,58];refine wl ?_;refine aU (zs ?_);refine bE (X:=Nat) rfl [0,1,2,3,4,5,6,7,8,13,20,30,47,58] (k+2) (λ g=>[(4,g),(3,bV (k+1) ((bF (EP s) g).map Flt.row))]) (λ g=>cA (k+1) 3 ((bF (EP s) g).map Flt.row) [(k,⟨7,true,[s.cells]⟩)]) (λ g=>g<=s.ns) (λ g=>s.ns-g) 0 ?_ (aJ _) ?_;.rw[dY,aV];refine rR ?_;apply zN;exact fW
 intro g hg;have hfl:=cJ (f:=EP s) (m:=64) (λ g=>by have:=cJ (f:=kV s g) (m:=1) (λ i=>dM _ _) s.cpus.toNat;unfold EP;omega) g;obtain⟨l1,e1,h1⟩:∃x,x=bF (EP s) g/\x.length<=g*64:=⟨_,rfl,hfl⟩;rw[<-e1];have hsucc:bF (EP s) (g+1)=l1++bF (kV s g) s.cpus.toNat:=by rw[e1];rfl
 refine rR ?_;apply zN;refine wl ?_;refine dD ⟨λ ht=>zN ?_⟩ ⟨λ ht=>zN ?_⟩
 .refine bE (X:=Nat) rfl [0,1,2,3,4,5,6,7,8,13,20,30,47,58] (k+2) (λ c=>[(5,c),(3,bV (k+1) ((l1++bF (kV s g) c).map Flt.row))]) (λ c=>cA (k+1) 3 ((l1++bF (kV s g) c).map Flt.row) [(k,⟨7,true,[s.cells]⟩)]) (λ c=>c<=s.cpus.toNat) (λ c=>s.cpus.toNat-c) 0 ?_ (aJ _) ?_;.rw[dY,aR];refine rR ?_;apply zN;exact fW
  intro c hc;have hfc:=cJ (f:=kV s g) (m:=1) (λ i=>dM _ _) c;obtain⟨l2,e2,h2⟩:∃x,x=l1++bF (kV s g) c/\x.length<=l1.length+c:=⟨_,rfl,by simp;omega⟩;rw[<-e2];have hsucc2:l1++bF (kV s g) (c+1)=l2++kV s g c:=by rw[e2,cY,bL]
  refine rR ?_;apply zN;refine wl ?_;refine dD ⟨λ ht=>zN ?_⟩ ⟨λ ht=>zN ?_⟩
  .obtain⟨ml,em⟩:∃ml,ml=vC s c s.ns g:=⟨_,rfl⟩;refine cl [.ret (.rd 3 ml.length (λ j=>(ml.map Mem.row).getD j []))] ?_;refine dD (zs ?_) (zs ?_);.have h:=IA (Γ:=Γ) s hs hp hpar c oO s.ns g oO;rw[<-em,rows,bP]at h;exact h
   refine wl ?_;refine aU (zs ?_);have hml:ml.length<=2000:=by rw[em];have:=XL s c s.ns g;omega
   have hspg:=ksp g oO;have hcnt:=UU (pH s g c ml);have hat:kV s g c=gJ (decide (0<ml.length/\HI (pH s g c ml) ml.length=ml.length)) ⟨14,(g:Int),(c:Int)⟩:=by rw[em];rfl
   refine bE (X:=Nat) rfl [0,1,2,3,4,5,6,7,8,13,20,30,47,58] (k+2) (λ i=>[(8,i),(7,(HI (pH s g c ml) i:Nat))]) (λ i=>cA (k+1) 3 (l2.map Flt.row) [(k,⟨7,true,[s.cells]⟩)]) (λ i=>i<=ml.length) (λ i=>ml.length-i) 0 ?_ (aJ _) ?_;.rw[HI];refine rR ?_;apply zN;exact fW
   intro i hi;have hci:=hcnt i;have hstep:HI (pH s g c ml) (i+1)=HI (pH s g c ml) i+(if pH s g c ml i=true then 1 else 0):=rfl;obtain⟨n,en⟩:∃n,n=HI (pH s g c ml) i:=⟨_,rfl⟩;rw[<-en];rw[<-en]at hci hstep;refine rR ?_;apply zN;by_cases hlt:i<ml.length
   .have hr:(ml.map Mem.row).getD i []=Mem.row (ml.getD i ⟨0,0,0⟩):=by simp[bD,aQ,aE hlt]
    have uU:=zA @hr @Mem.row.eq_1;refine wl ?_;refine dD ⟨λ ht ht=>zN ?_⟩ ⟨λ ht ht=>zN ?_⟩;.refine⟨i+1,oO,oO,?_⟩;rw[hstep,if_pos (by rw[pH,aJZ];exact decide_eq_true ht)];refine rR ?_;apply zN;(have uU:=zA @hr @Mem.row.eq_1;exact oZ)
    refine⟨i+1,oO,oO,?_⟩;rw[hstep,if_neg (by rw[pH,aJZ];simp only[dTt];omega)];refine rR ?_;apply zN;(have uU:=zA @hr @Mem.row.eq_1;exact oZ)
   have hin:i=ml.length:=oO;rw[hin]at en;refine wl ?_;refine wM ⟨λ ht ht=>⟨λ hg=>⟨?_⟩⟩⟩ ⟨λ ht ht=>⟨λ hg=>⟨?_⟩⟩⟩ ⟨λ ht ht=>⟨λ hg=>⟨?_⟩⟩⟩;.refine⟨c+1,oO,oO,?_⟩;rw[hsucc2,show kV s g c=[⟨14,(g:Int),(c:Int)⟩]by rw[hat,decide_eq_true ⟨oO,oO⟩];rfl];refine rR ?_;apply zN;exact lM (k+3) (k+1) wL
   .refine⟨c+1,oO,oO,?_⟩;rw[hsucc2,show kV s g c=[]by rw[hat,decide_eq_false (λ h=>by have h1:=h.1;have h2:=h.2;omega)];rfl,aR];refine rR ?_;apply zN;exact fW
   refine⟨c+1,oO,oO,?_⟩;rw[hsucc2,show kV s g c=[]by rw[hat,decide_eq_false (λ h=>by have h1:=h.1;have h2:=h.2;omega)];rfl,aR];refine rR ?_;apply zN;exact fW
  have hin:c=s.cpus.toNat:=oO;refine⟨g+1,oO,oO,?_⟩;rw[hsucc,<-hin,<-e2];(try(simp-dsimp-implicitDefEqProofs only[go_sem,eq_self,↓reduceIte]));exact fW
 have hgn:g=s.ns:=oO;refine DO rfl (id:=k+1) (s:=3) (l:=jL Flt.row l1) 2 sL sL ?_;exact⟨_,rfl,by rw[eR,e1,hgn];exact aK _⟩
def bW(s:St):List Flt:=if gE s=false then [⟨1,0,0⟩]else if 0<(fZ s).length then fZ s else if 0<(jG s).length then jG s else nX s
theorem aLJ(s:St)(hs:s.Small)(hw:Wf s)(hok:gE s=true->(fZ s).length=0->PartOk s/\∀g,1<=g->g<s.ns->s.par g<g):Pure aA Γ 112 [.agg s.cells] (rows 3 ((bW s).map Flt.row)):=by
 obtain⟨hng,hnk,hnu,hnt,hns,hnsp⟩:=id hs;refine aZ Tryz.func112 rfl 25 rfl bB rfl λ k=>?_;obtain⟨R,eR⟩:∃R,R=(bW s).map Flt.row:=⟨_,rfl⟩;rw[<-eR];have kp:=fI k [0,1,2,3,4,8,15,21];refine wl ?_;refine aU (zs ?_);refine cl [.ret (gE s)] ?_;refine dD (zs ?_) (zs ?_);.exact yX s
 refine wl ?_;refine dD ⟨λ ht=>zN ?_⟩ ⟨λ ht=>zN ?_⟩;.refine aHQ rfl (HS (id:=k+1) (s:=3) (l:=[Flt.row ⟨1,0,0⟩]) 2 sL sL) ⟨_,rfl,?_⟩;rw[eR,bW,if_pos ht];exact aK _
 have hcfg:=ht;refine cl [.ret (.rd 3 (fZ s).length (λ j=>((fZ s).map Flt.row).getD j []))] ?_;refine dD (zs ?_) (zs ?_);.have h:=aAZ (Γ:=Γ) s hns;rw[rows,bP]at h;exact h
 refine wl ?_;refine dD ⟨λ ht=>zN ?_⟩ ⟨λ ht=>zN ?_⟩;.refine aX rfl ⟨_,rfl,?_⟩;rw[eR,bW,if_neg (by rw[hcfg];simp),if_pos oO,rows,bP];exact aK _
 have hsh:(fZ s).length=0:=oO;obtain⟨hp,hpar⟩:=hok hcfg hsh;refine cl [.ret (.rd 3 (jG s).length (λ j=>((jG s).map Flt.row).getD j []))] ?_;refine dD (zs ?_) (zs ?_);.have h:=aJO (Γ:=Γ) s hs hw hp;rw[rows,bP]at h;exact h
 refine wl ?_;refine dD ⟨λ ht=>zN ?_⟩ ⟨λ ht=>zN ?_⟩;.refine aX rfl ⟨_,rfl,?_⟩;rw[eR,bW,if_neg (by rw[hcfg];simp),if_neg oO,if_pos oO,rows,bP];exact aK _
 refine cl [.ret (rows 3 ((nX s).map Flt.row))] ?_;refine dD (zs ?_) (zs ?_);.exact aCO s hs hp hpar
 refine aX rfl ⟨_,rfl,?_⟩;rw[eR,bW,if_neg (by rw[hcfg];simp),if_neg oO,if_neg oO];exact aK _
theorem HA{f:Nat->List Flt}:∀ {n:Nat},(bF f n).length=0->∀i,i<n->f i=[]
 |0,_,i,h=>oO
 |n+1,h,i,hi=>by
  simp only[bF,bQ]at h;by_cases he:i=n;.subst he;exact fL oO
  exact HA (n:=n) oO i oO
theorem shapes_nil{s:St}(h:(fZ s).length=0):(s.nk:Int)=s.cpus/\(s.nu:Int)=s.cpus/\s.ns=s.ng/\∀g,g<s.ns->(s.nsp g:Int)=s.cpus:=by
 unfold fZ at h;simp only[bQ]at h
 have h1:(s.nk:Int)=s.cpus:=by
  by_cases hc:(s.nk:Int)=s.cpus;.exact hc
  rw[if_pos hc]at h;simp at h
 have h2:(s.nu:Int)=s.cpus:=by
  by_cases hc:(s.nu:Int)=s.cpus;.exact hc
  rw[if_pos hc]at h;simp at h
 have h3:s.ns=s.ng:=by
  by_cases hc:s.ns=s.ng;.exact hc
  rw[if_pos hc]at h;simp at h
 refine⟨h1,h2,h3,λ g hg=>?_⟩;rw[if_neg (show ¬s.ns≠s.ng from λ hh=>hh h3)]at h;have:=HA (f:=gY s) oO g hg;unfold gY at this;split at this;.assumption
 cases this
theorem EC{par:Nat->Int}{g:Nat}(hg:1<=g)(h:zE par 5 g 0<=4):0<=par g/\par g<g:=by
 rw[zE,if_neg oO]at h;by_cases hc:par g<0\/(g:Int)<=par g;.rw[if_pos hc]at h;omega
 omega
theorem eY{s:St}(h:gE s=true):(1<=s.cpus/\s.cpus<=64/\s.credit<=1099511627776/\1<=s.ng/\s.ng<=256/\s.par 0=0/\s.wt 0=1)/\∀g,1<=g->g<s.ng->okR s g=true:=by simp only[gE,aC,dTt,Option.isNone_iff_eq_none]at h;exact⟨h.1,fb_none_iff.1 h.2⟩
theorem aBF{s:St}(h12:s.ns<=12)(h:gE s=true)(hsh:(fZ s).length=0):PartOk s/\∀g,1<=g->g<s.ns->s.par g<g:=by obtain⟨⟨h1,h2,h3,h4,h5,h6,h7⟩,hall⟩:=eY h;obtain⟨k1,k2,k3,k4⟩:=shapes_nil hsh;refine⟨⟨k4,k3,oO,oO,h2,k2,h12⟩,λ g hg hn=>?_⟩;have:=hall g hg oO;simp only[okR,aC,dTt]at this;exact(EC hg this.2).2
end Go.Proofs.T
end
section
namespace Go.Proofs.T
open Go Go.AM Go.Proofs
theorem QB{par:Nat->Int}:∀(F g:Nat),g<=F->(∀j,1<=j->j<=g->0<=par j/\par j<j)->sG par F g=sG par g g:=by
 intro F
 induction F using Nat.strongRecOn with
 |_ F ih=>
  intro g hg hv
  cases F with
  |zero=>have:g=0:=oO;subst this;rfl
  |succ F=>
   cases g with
   |zero=>simp[sG]
   |succ g=>obtain⟨h1,h2⟩:=hv (g+1) oO oO;have hv':∀j,1<=j->j<=(par (g+1)).toNat->0<=par j/\par j<j:=λ j h3 h4=>hv j h3 oO;rw[sG,sG,if_neg oO,if_neg oO,ih F oO _ oO hv',ih g oO _ oO hv']
theorem GK{par:Nat->Int}:∀(f g n:Nat),(∀j,1<=j->j<=g->0<=par j/\par j<j)->zE par f g n=n+min f (sG par g g)
 |0,g,n,_=>by simp[zE]
 |f+1,0,n,_=>by simp[zE,sG]
 |f+1,g+1,n,hv=>by obtain⟨h1,h2⟩:=hv (g+1) oO oO;have hv':∀j,1<=j->j<=(par (g+1)).toNat->0<=par j/\par j<j:=λ j h3 h4=>hv j h3 oO;rw[zE,if_neg oO,if_neg oO,GK f _ _ hv',sG,if_neg oO,QB g _ oO hv'];omega
theorem aTD(s:St):((VY s).2==0)=true↔(s.ng<=256/\1<=s.ng/\s.par 0=0/\s.wt 0=1)/\∀g,1<=g->g<s.ng->okG s g=true:=by
 unfold VY;by_cases h1:256<s.ng;.rw[if_pos h1];simp;omega
 rw[if_neg h1];by_cases h2:s.ng=0\/¬(s.par 0=0/\s.wt 0=1)
 .rw[if_pos h2];simp only[Int.reduceBEq,aO,false_iff];rintro⟨⟨h3,h4,h5⟩,_⟩;rcases h2 with h2|h2;.omega
  exact h2 h5
 rw[if_neg h2];have h3:¬s.ng=0:=λ h=>h2 (.inl h);have h4:s.par 0=0/\s.wt 0=1:=Classical.byContradiction λ h=>h2 (.inr h)
 cases hf:fb (okG s) s.ng with
 |none=>simp only[beq_self_eq_true,true_iff];exact⟨⟨oO,oO,h4⟩,fb_none_iff.1 hf⟩
 |some g=>
  have hne:(UW s g==0)=false:=by unfold UW;split<;>(try split)<;>rfl
  simp only[hne,aO,false_iff];rintro⟨_,hall⟩;rw[fb_none_iff.2 hall]at hf;cases hf
theorem a3L(s:St)(n:Nat):(∀g,1<=g->g<n->okG s g=true)↔∀g,1<=g->g<n->okR s g=true:=by
 constructor
 .intro h g h1 h2;have hv:∀j,1<=j->j<=g->0<=s.par j/\s.par j<j:=λ j h3 h4=>by have:=h j h3 oO;simp only[okG,okP,aC,dTt]at this;exact this.1
  have:=h g h1 h2;simp only[okG,aC,dTt]at this;simp only[okR,aC,dTt];refine⟨this.2.1,?_⟩;rw[GK 5 g 0 hv];omega
 intro h g h1 h2;have hv:∀j,1<=j->j<=g->0<=s.par j/\s.par j<j:=λ j h3 h4=>by have:=h j h3 oO;simp only[okR,aC,dTt]at this;exact EC h3 this.2
 have:=h g h1 h2;simp only[okR,aC,dTt]at this;simp only[okG,okP,aC,dTt];have h5:=this.2;rw[GK 5 g 0 hv]at h5;exact⟨hv g h1 (aF _),this.1,oO⟩
theorem DI(s:St):oN s=gE s:=by
 rw[aY];simp only[oN,gE,aC,dTt,Option.isNone_iff_eq_none,fb_none_iff,aTD,a3L];constructor;.rintro⟨⟨h1,h2,h3⟩,⟨h4,h5,h6,h7⟩,h8⟩;exact⟨⟨h1,h2,h3,h5,h4,h6,h7⟩,h8⟩
 rintro⟨⟨h1,h2,h3,h5,h4,h6,h7⟩,h8⟩;exact⟨⟨h1,h2,h3⟩,⟨h4,h5,h6,h7⟩,h8⟩
theorem mA{b:Bool}{f:Flt}:gJ b f=[]↔b=false:=by cases b<;>simp[gJ]
theorem BB(s:St):pW s=fZ s:=by unfold pW fZ gJ;by_cases h1:(s.nk:Int)=s.cpus<;>by_cases h2:(s.nu:Int)=s.cpus<;>by_cases h3:s.ns=s.ng<;>simp[h1,h2,h3]<;>omega
end Go.Proofs.T
end
section
namespace Go.Proofs
open Go.Shelf
def Tryz.sortF_ren:Go.Shelf.Ren:=⟨λ |6=>195|15=>119|14=>247|28=>206|29=>207|20=>276|21=>277|22=>278|23=>279|24=>280|25=>281|26=>282|27=>283|46=>301|47=>249|48=>250|49=>302|50=>303|57=>316|n=>n,λ |22=>122|24=>125|25=>258|3=>3|39=>189|0=>0|53=>50|55=>22|4=>4|46=>261|45=>260|50=>204|5=>5|9=>9|66=>300|70=>303|76=>326|77=>285|n=>n,λ |n=>n⟩
theorem Tryz.sortF:Go.Proofs.SlLaysF0.n6 aA Tryz.sortF_ren:={
 mixed:=by kernel_rfl
 f6:=⟨Tryz.f195.name,by decide,Tryz.func195.trans (congrArg some (by kernel_rfl))⟩
 f14:=⟨Tryz.f247.name,by decide,Tryz.func247.trans (congrArg some (by kernel_rfl))⟩
 f15:=Tryz.func119.trans (congrArg some (by kernel_rfl))
 f20:=⟨Tryz.f276.name,by decide,Tryz.func276.trans (congrArg some (by kernel_rfl))⟩
 f21:=⟨Tryz.f277.name,by decide,Tryz.func277.trans (congrArg some (by kernel_rfl))⟩
 f22:=⟨Tryz.f278.name,by decide,Tryz.func278.trans (congrArg some (by kernel_rfl))⟩
 f23:=⟨Tryz.f279.name,by decide,Tryz.func279.trans (congrArg some (by kernel_rfl))⟩
 f24:=⟨Tryz.f280.name,by decide,Tryz.func280.trans (congrArg some (by kernel_rfl))⟩
 f25:=⟨Tryz.f281.name,by decide,Tryz.func281.trans (congrArg some (by kernel_rfl))⟩
 f26:=⟨Tryz.f282.name,by decide,Tryz.func282.trans (congrArg some (by kernel_rfl))⟩
 f27:=⟨Tryz.f283.name,by decide,Tryz.func283.trans (congrArg some (by kernel_rfl))⟩
 f28:=Tryz.func206.trans (congrArg some (by kernel_rfl))
 f29:=Tryz.func207.trans (congrArg some (by kernel_rfl))
 f46:=⟨Tryz.f301.name,by decide,Tryz.func301.trans (congrArg some (by kernel_rfl))⟩
 f47:=Tryz.func249.trans (congrArg some (by kernel_rfl))
 f48:=Tryz.func250.trans (congrArg some (by kernel_rfl))
 f49:=⟨Tryz.f302.name,by decide,Tryz.func302.trans (congrArg some (by kernel_rfl))⟩
 f50:=⟨Tryz.f303.name,by decide,Tryz.func303.trans (congrArg some (by kernel_rfl))⟩
 f57:=⟨Tryz.f316.name,by decide,Tryz.func316.trans (congrArg some (by kernel_rfl))⟩
 t0:=HP
 a0:=Tryz.isAgg0
 z0:=bFT
 v0:=PA
 t3:=dB
 a3:=PF
 z3:=DR
 v3:=qT
 t4:=lW
 a4:=aME
 z4:=PD
 v4:=vI
 t5:=oR
 a5:=aMD
 z5:=PC
 v5:=vH
 t9:=kC
 a9:=aMC
 z9:=PB
 v9:=vG
 t22:=Tryz.underlying122
 a22:=Tryz.isAgg122
 z22:=Tryz.sizeOf122
 v22:=Tryz.zeroValue122
 t25:=Tryz.underlying258
 a25:=Tryz.isAgg258
 z25:=Tryz.sizeOf258
 v25:=Tryz.zeroValue258
 t39:=oB
 a39:=FN
 z39:=zH
 v39:=pU
 t45:=Tryz.underlying260
 a45:=Tryz.isAgg260
 z45:=Tryz.sizeOf260
 v45:=Tryz.zeroValue260
 t46:=Tryz.underlying261
 a46:=Tryz.isAgg261
 z46:=Tryz.sizeOf261
 v46:=Tryz.zeroValue261
 t50:=Tryz.underlying204
 a50:=Tryz.isAgg204
 z50:=Tryz.sizeOf204
 v50:=Tryz.zeroValue204
 t53:=jB
 a53:=PE
 z53:=FM
 v53:=rZ
 t55:=iL
 a55:=Tryz.isAgg22
 z55:=Tryz.sizeOf22
 v55:=aHN
 t66:=Tryz.underlying300
 a66:=Tryz.isAgg300
 z66:=Tryz.sizeOf300
 v66:=Tryz.zeroValue300
 t70:=Tryz.underlying303
 a70:=Tryz.isAgg303
 z70:=Tryz.sizeOf303
 v70:=Tryz.zeroValue303
 t76:=Tryz.underlying326
 a76:=Tryz.isAgg326
 z76:=Tryz.sizeOf326
 v76:=Tryz.zeroValue326
 t77:=Tryz.underlying285
 a77:=Tryz.isAgg285
 z77:=Tryz.sizeOf285
 v77:=Tryz.zeroValue285}
end Go.Proofs
end
section
namespace Go.AM
open Go.Sort Go.Proofs
section
variable{Γ:List (Nat×List AVal)}{w w':World}{G G':Nat->Prop}{ρ ρ':cM}{H:lP}
theorem GC(S:bU)(os:Array Obj):Step S w G ρ (grow w os) G ρ:=
 ⟨by rw[size_grow];omega,λ b hb _=>heap_grow_old w os hb,λ b hb=>shp_of (heap_grow_old w os hb),λ _ h=>h,λ _ h=> .inl h,λ _ h=> .inl h,λ _ _=> .inr rfl,rfl,rfl,rfl⟩
theorem HRel.grow (h:HRel Γ w G ρ H)(os:Array Obj):HRel Γ (grow w os) G ρ H:=
 h.after (GC (λ _=>True) os) H h.dom (λ id B A hH=>by obtain⟨hA,b,hb,hg,_⟩:=h.blk id B A hH;exact⟨hA,.inl ⟨A,b,hH,λ _ h=>h,λ _ _=>trivial,rfl,hb,heap_grow_old w os (h.owned_lt ⟨id,_,hb⟩),hg⟩⟩) h.inj (λ b hb=>by rw[size_grow];have:=h.ro b hb;omega)
theorem HRel.rows {S:bU}(h:HRel Γ w G ρ H){id b:Nat}{B B':Blk}{A:bU}(hid:H id=some (B,A))(hb:ρ id=some (b,B.sz))(hsz:B'.sz=B.sz){C C':Array Value}{ty:TypeId}{H':lP}
 (hH':∀i,H' i=if i=id then some (B',A)else H i)
 (hC0:w.heap[b]? =some (.cells C ty (0,0))) (hC:w'.heap[b]? =some (.cells C' ty (0,0))) (hcs:C'.size=C.size) (hother:∀j,j≠b->w'.heap[j]? =w.heap[j]?) (hsize:w'.heap.size=w.heap.size)
 (h1:w'.os=w.os) (h2:w'.tape=w.tape) (h3:w'.output=w.output)
 (hS:∀i B A,H i=some (B,A)->∀j,A j->S j)
 (hl:∀(r:Nat) row,B'.rows[r]? =some row->row.length=B'.sz)
 (hr:∀r row c v,B'.rows[r]? =some row->row[c]? =some v->∃cv,C'[r*B'.sz+c]? =some cv/\V w G bR cF v cv) (hp:B'.pure=true):
 HRel Γ w' G ρ H'/\Step S w G ρ w' G ρ:=by
 have hbo:oI ρ b:=⟨id,_,hb⟩;have hbg:=h.owned_not_ro hbo
 have hs:Step S w G ρ w' G ρ:=by
  refine⟨oO,λ j hj ho=>hother j (λ he=>ho (he▸hbo)),λ j hj=>?_,λ _ h=>h,λ _ h=> .inl h,λ _ h=> .inl h,λ _ _=> .inr rfl,h1,h2,h3⟩;by_cases he:j=b;.subst he;unfold BA;rw[hC,hC0];simp only[cB,hcs]
  exact shp_of (hother j he)
 refine⟨h.after hs _ ?_ ?_ h.inj (λ c hc=>by rw[hsize];exact h.ro c hc),hs⟩
 .intro i hi;rw[hH']at hi;split at hi;.cases hi
  exact h.dom i hi
 intro i B1 A1 hi;rw[hH']at hi;split at hi;.rename_i he;subst he;cases hi;obtain⟨hA,_⟩:=h.blk i B A hid;refine⟨hA,.inr ⟨b,by rw[hsz];exact hb,hbg,⟨⟨C',_,⟨hC,.cells⟩,λ r row c v hrow hc=>?_⟩,hl⟩⟩⟩;obtain⟨cv,hcv,hv⟩:=hr r row c v hrow hc;refine⟨cv,hcv,?_⟩;simp only[hp,if_true];exact hv.mono hs.g (λ b hb=>hs.keep b (h.ro b hb) (λ ho=>h.owned_not_ro ho hb)) hs.shape (λ _ h=>h) (λ _ h=>h.elim)
 rename_i hne;obtain⟨hAid,b1,hb1,hg1,hBR⟩:=h.blk i B1 A1 hi;exact⟨hAid,.inl ⟨A1,b1,hi,λ _ h=>h,hS i B1 A1 hi,rfl,hb1,hother b1 (by rintro rfl;exact hne (h.inj i id _ _ _ hb1 hb)),hg1⟩⟩
end
end Go.AM
namespace Go.Proofs.T
open Go Go.Proofs Go.Shelf Go.RowKit Go.Lib Go.Sort
def cfI(r a b r' a' b':Int):Int:=if r=r' then(if a=a' then b-b' else a-a')else r-r'
theorem dA{n:Int}(h1: -9223372036854775808<=n)(h2:n<=9223372036854775807):aN.wrap n=n:=by simp[IntKind.wrap,IntKind.bits,IntKind.signed];omega
theorem aZK(r a b r' a' b':Int)(hr:0<=r/\r<256)(ha:0<=a/\a<1000000)(hb:0<=b/\b<1000000)(hr':0<=r'/\r'<256)(ha':0<=a'/\a'<1000000)(hb':0<=b'/\b'<1000000)(W:World):
 Calls aA 196 #[.agg #[.int .u8 r,.int .i64 a,.int .i64 b],.agg #[.int .u8 r',.int .i64 a',.int .i64 b']] W λ e w'=>e= .returned (.int .i64 (cfI r a b r' a' b'))/\∃q os',w'=grow (W.drewN q) os':=by
 by_cases h1:r=r'
 .by_cases h2:a=a'
  .have e:cfI r a b r' a' b'=b-b':=by simp[cfI,h1,h2]
   rw[e];subst h1 h2;clear e;go_enter Tryz.func196,Tryz.ntmps196
   go_wp2
   go_ret
   exact⟨rfl,0,_,by rw[alloc_eq_grow,alloc_eq_grow,grow_grow];rfl⟩
  have e:cfI r a b r' a' b'=a-a':=by simp[cfI,h1,h2]
  rw[e];subst h1;clear e;go_enter Tryz.func196,Tryz.ntmps196
  go_wp2
  go_ret
  exact⟨rfl,0,_,by rw[alloc_eq_grow,alloc_eq_grow,grow_grow];rfl⟩
 have e:cfI r a b r' a' b'=r-r':=by simp[cfI,h1]
 rw[e];clear e;go_enter Tryz.func196,Tryz.ntmps196
 go_wp2
 go_ret
 exact⟨rfl,0,_,by rw[alloc_eq_grow,alloc_eq_grow,grow_grow];rfl⟩
end Go.Proofs.T
namespace Go.Proofs.T
open Go Go.AM Go.Proofs Go.Shelf Go.RowKit Go.Lib Go.Sort
def Flt.ok (f:Flt):Prop:=(0<=f.r/\f.r<256)/\(0<=f.a/\f.a<1000000)/\(0<=f.b/\f.b<1000000)
structure BF where
 f:Flt
 h:f.ok
instance:Inhabited BF:=⟨⟨⟨0,0,0⟩,by unfold Flt.ok;simp⟩⟩
def DG(x:BF):List Value:=[.int .u8 x.f.r,.int .i64 x.f.a,.int .i64 x.f.b]
def cfF(x y:Flt):Int:=cfI x.r x.a x.b y.r y.a y.b
def cfB(x y:BF):Int:=cfF x.f y.f
theorem ltB_iff(x y:BF):ltOf cfB x y=true↔cfF x.f y.f<0:=⟨λ h=>of_decide_eq_true h,λ h=>decide_eq_true h⟩
theorem BJ(x y:BF):ltOf cfB x y=false↔0<=cfF x.f y.f:=⟨λ h=>Int.not_lt.1 (of_decide_eq_false h),λ h=>decide_eq_false (Int.not_lt.2 h)⟩
theorem aTH(x y:Flt):cfF x y<0↔(x.r<y.r\/(x.r=y.r/\(x.a<y.a\/(x.a=y.a/\x.b<y.b)))):=by
 unfold cfF cfI;split;.split<;>omega
 omega
theorem NK(x y:Flt):0<=cfF x y↔¬(x.r<y.r\/(x.r=y.r/\(x.a<y.a\/(x.a=y.a/\x.b<y.b)))):=by rw[<-aTH];omega
theorem a2S:SWO (ltOf cfB) where
 irrefl x:=by rw[BJ,NK];omega
 trans x y z h1 h2:=by rw[ltB_iff,aTH]at*;omega
 ntrans x y z h1 h2:=by rw[BJ,NK]at*;omega
theorem bBE(x y:Flt)(h1:0<=cfF x y)(h2:0<=cfF y x):x=y:=by
 rw[NK]at h1 h2;cases x;cases y;simp only[Flt.mk.injEq]at*
 omega
theorem bEK(blk off size:Nat)(w:World):CmpLays aA 196 #[] DG 3 cfB blk off size w:=λ _ _ _ _ x y=>
 aZK x.f.r x.f.a x.f.b y.f.r y.f.a y.f.b x.h.1 x.h.2.1 x.h.2.2 y.h.1 y.h.2.1 y.h.2.2 _
def FY(l:List Flt)(hb:∀f∈l,f.ok):Array BF:=(l.pmap (λ f h=>(⟨f,h⟩:BF)) hb).toArray
theorem mR(l:List Flt)(hb:∀f∈l,f.ok):(FY l hb).size=l.length:=by simp[FY]
theorem JD(l:List Flt)(hb:∀f∈l,f.ok)(i:Nat)(hi:i<l.length):((FY l hb)[i]!).f=l[i]:=by rw[getElem!_pos (FY l hb) i (by rw[mR];exact hi)];simp[FY]
theorem YG(x:BF)(c:Nat)(v:AVal)(h:(Flt.row x.f)[c]? =some v):v= .lit ((DG x)[c]!):=by
 match c with
 |0=>simp[Flt.row]at h;simp[DG,h]
 |1=>simp[Flt.row]at h;simp[DG,h]
 |2=>simp[Flt.row]at h;simp[DG,h]
 |c+3=>simp[Flt.row]at h
theorem aOS(x:BF)(c:Nat)(hc:c<3):(Flt.row x.f)[c]? =some (.lit ((DG x)[c]!)):=by
 match c with
 |0=>rfl
 |1=>rfl
 |2=>rfl
theorem holdsF{w:World}{G:Nat->Prop}{b:Nat}{C:Array Value}{ty:TypeId}(l:List Flt)(hb:∀f∈l,f.ok)(hC:w.heap[b]? =some (.cells C ty (0,0)))
 (hr:∀r row c v,(l.map Flt.row)[r]? =some row->row[c]? =some v->∃cv,C[r*3+c]? =some cv/\V w G bR cF v cv):HoldsK DG 3 w b 0 (FY l hb):=by
 intro j hj;rw[size_flatK,mR]at hj;have hq:j/3<l.length:=oO;refine⟨?_,?_⟩
 .rw[get_flatK DG 3 _ j (by rw[mR];exact hj)];have h1:(l.map Flt.row)[j/3]? =some (Flt.row ((FY l hb)[j/3]!).f):=by rw[aQ,aE hq,JD l hb _ hq];rfl
  obtain⟨cv,h3,h4⟩:=hr (j/3) _ (j%3) _ h1 (aOS _ (j%3) (Nat.mod_lt _ oO));cases h4;unfold World.cell?;simp only[hC];rw[(oO:j/3*3+j%3=j)]at h3;simp[h3]
 unfold World.frozen?;simp[hC]
theorem aAN(l R:List Flt)(hb:∀f∈l,f.ok)(hR:∀f∈R,f.ok)(hp:R.Perm l)(hs:R.Pairwise (λ x y=>0<=cfF y x))(d:Array BF)(h1:PermIn 0 (FY l hb).size (FY l hb) d)(h2:SortedIn (ltOf cfB) 0 (FY l hb).size d):d=FY R hR:=by
 have hT:∀x y:BF,ltOf cfB x y=false->ltOf cfB y x=false->x=y:=λ x y h3 h4=>by rw[BJ]at h3 h4;have:=bBE _ _ h3 h4;cases x;cases y;cases this;rfl
 have e1:=sorted_unique_holds a2S hT _ _ h1 h2;have hsz:(FY R hR).size=(FY l hb).size:=by rw[mR,mR,hp.length_eq]
 have hpm:(FY R hR).toList.Perm (FY l hb).toList:=by simp only[FY];have:∀(a b:List Flt) (ha:∀f∈a,f.ok) (hb:∀f∈b,f.ok),a.Perm b->(a.pmap (λ f h=>(⟨f,h⟩:BF)) ha).Perm (b.pmap (λ f h=>(⟨f,h⟩:BF)) hb):=λ a b ha hb h=>h.pmap _;exact this _ _ _ _ hp
 have h3:PermIn 0 (FY l hb).size (FY l hb) (FY R hR):=by
  refine⟨hsz,λ i hi=>?_,?_⟩
  .rcases hi with hi|hi;.omega
   rw[getElem!_neg _ i oO,getElem!_neg _ i oO]
  rw[Array.extract_size,<-hsz,Array.extract_size];exact hpm
 have h4:SortedIn (ltOf cfB) 0 (FY l hb).size (FY R hR):=by intro i j _ hij hj;rw[mR,<-hp.length_eq]at hj;rw[BJ,JD R hR j hj,JD R hR i oO];exact lN.1 hs i j oO hj hij
 exact bAQ (e1.trans (sorted_unique_holds a2S hT _ _ h3 h4).symm)
end Go.Proofs.T
namespace Go.Proofs.T
open Go Go.AM Go.Proofs Go.Shelf Go.RowKit Go.Lib Go.Sort
variable{Γ:List (Nat×List AVal)}
theorem WV{w:World}{b:Nat}{C:Array Value}{ty:TypeId}(n:Nat)(F:Array Value)(hC:w.heap[b]? =some (.cells C ty (0,0))):
 (putRow id (Sort.ahead w n) b 0 F).heap[b]? =some (.cells (putCells id 0 F C) ty (0,0))/\(∀j,j≠b->(putRow id (Sort.ahead w n) b 0 F).heap[j]? =w.heap[j]?)/\(putRow id (Sort.ahead w n) b 0 F).heap.size=w.heap.size:=by
 refine⟨?_,λ j hj=>?_,?_⟩;.simp only[putRow,mapBlock,Sort.ahead,PL,if_true];rw[hC];rfl
 .simp only[putRow,mapBlock,Sort.ahead,PL];rw[if_neg (λ h=>hj h.symm)]
 simp[putRow,mapBlock,Sort.ahead]
theorem SY(F C:Array Value)(j:Nat)(hj:j<F.size)(hC:j<C.size):(putCells id 0 F C)[j]? =some F[j]! :=by simp only[putCells,Array.getElem?_mapIdx,aP hC,cB,aJ,dV,hj,and_self,if_true,bFW,id]
theorem aNU(k F:Nat)(l R:List Flt)(hb:∀f∈l,f.ok)(hp:R.Perm l)(hs:R.Pairwise (λ x y=>0<=cfF y x))(hl:l.length<=100000)
 (hnone:∀w,Calls aA 195 #[.slice none 0 0,.func (.func 196) #[] #[]] w λ e w'=>e= .returned (.tuple #[])/\w'=w):
 Tr aA Γ 195 k [bV F (l.map Flt.row),.fn 196 []] (cA F 3 (l.map Flt.row) []) (λ k1 r1 H1=>k1=k/\r1= .tup []/\H1=cA F 3 (R.map Flt.row) []):=by
 intro A hA w G ρ cargs hr hvs;obtain⟨hlen,hv⟩:=hvs;have h0:=hv 0 _ rfl;have h1:=hv 1 _ rfl
 have hc2:cargs= #[cargs.getD 0 undef,cargs.getD 1 undef]:=by
  have hsz:cargs.size=2:=hlen.symm;apply aFB;.simp[hsz]
  intro i hi1 hi2
  match i with
  |0=>simp[Array.getD,hsz]
  |1=>simp[Array.getD,hsz]
  |i+2=>omega
 obtain⟨cs,hfn,hcs⟩:∃cs:Array Value,cargs.getD 1 undef= .func (.func 196) #[] cs/\cs.size=0:=by
  generalize cargs.getD 1 undef=x at h1
  cases h1 with
  |fn hl _=>exact⟨_,rfl,hl.symm⟩
 have hcs':cs= #[]:=lC hcs;subst hcs'
 cases l with
 |nil=>
  have hR:R=[]:=hp.eq_nil;subst hR;have e0:cargs.getD 0 undef= .slice none 0 0:=by generalize cargs.getD 0 undef=x at h0;cases h0;rfl
  rw[hc2,e0,hfn];refine(hnone w).mono ?_;rintro e w' ⟨rfl,rfl⟩;refine⟨.tuple #[],G,ρ,k,.tup [],[],rfl,⟨rfl,rfl,rfl⟩,aF _,?_,.tup rfl (λ j v hj=>by simp at hj),jT _ _ _ _⟩;exact⟨λ id _=>hr.dom id rfl,λ id B A' hid=>by simp[bK,AM.look]at hid,hr.inj,hr.ro,hr.glob⟩
 |cons x t=>
  obtain⟨l,el⟩:∃l,l=x::t:=⟨_,rfl⟩;have hne:l.length≠0:=by rw[el];simp
  have eV:bV F ((x::t).map Flt.row)= .sl F 0 l.length:=by rw[el];simp[bV]
  have eH:∀q:List Flt,q.length≠0->cA F 3 (q.map Flt.row) []=[(F,⟨3,true,q.map Flt.row⟩)]:=λ q hq=>by
   cases q with
   |nil=>simp at hq
   |cons a b=>rfl
  rw[eV]at h0;rw[<-el,eH l hne]at hr;rw[<-el]at hb hp hl;clear eV;have hRne:R.length≠0:=by rw[hp.length_eq];exact hne
  rw[eH R hRne];have hid:bK [(F,⟨3,true,l.map Flt.row⟩)] A F=some (⟨3,true,l.map Flt.row⟩,A):=by simp[bK,AM.look]
  obtain⟨hAF,b,hρ,hgb,hBRF⟩:=hr.blk F _ _ hid;simp only at hρ
  obtain⟨cap,e0,sh,hsh⟩:∃cap,cargs.getD 0 undef= .slice (some ⟨b,0,none⟩) l.length cap/\∃sh,w.shape? b=some sh:=by
   generalize cargs.getD 0 undef=x at h0;generalize hll:l.length=ll at h0⊢
   cases h0 with
   |dangs _ hn=>rw[hρ]at hn;cases hn
   |sl0=>exact absurd hll hne
   |sl _ hs hsh _ hnc _ ho=>
    rw[hρ]at hs;cases hs;rcases ho with ho|ho;.omega
    rw[ho,tM];exact⟨_,rfl,_,hsh⟩
  obtain⟨⟨C,ty,hC,hrow⟩,hrl⟩:=hBRF.old hsh;simp only[if_true]at hrow;have hRok:∀f∈R,f.ok:=λ f hf=>hb f (hp.mem_iff.1 hf);have hblt:b<w.heap.size:=hr.owned_lt ⟨F,3,hρ⟩;have eg:∀args w,(callFunc 196 args).run aA w= .ok (.enter 196 args) w:=enters_of Tryz.func196 (by kernel_rfl) rfl;have hcon:=AnyQ.slices_SortFunc Tryz.sortF 3 Tryz.isAgg125 Tryz.sizeOf125 DG (λ _=>rfl) (λ x v hv=>by simp[DG]at hv;rcases hv with rfl|rfl|rfl<;>rfl) cfB a2S 196 #[] b 0 cap (FY l hb) w eg (bEK _ _ _ _) (holdsF l hb hC hrow) hblt (by rw[mR];omega);change Calls aA 195 _ _ _ at hcon;rw[hc2,e0,hfn];rw[mR]at hcon;refine hcon.mono ?_;rintro e w' ⟨rfl,d',n,os,hpm,hso,rfl⟩;rw[<-mR l hb]at hpm hso;have hd:=aAN l R hb hRok hp hs d' hpm hso;subst hd;have hF:(flatK DG 3 (FY R hRok)).size=l.length*3:=by rw[size_flatK,mR,hp.length_eq]
  obtain⟨p1,p2,p3⟩:=WV n (flatK DG 3 (FY R hRok)) hC
  have hrows:∀r row c v,(R.map Flt.row)[r]? =some row->row[c]? =some v->∃cv,(putCells id 0 (flatK DG 3 (FY R hRok)) C)[r*3+c]? =some cv/\V w G bR cF v cv:=by
   intro r row c v hrw hcv
   have hrlt:r<R.length:=by
    by_cases h:r<R.length;.exact h
    rw[cI (by simp;omega)]at hrw;cases hrw
   have hrow':row=Flt.row ((FY R hRok)[r]!).f:=by rw[aQ,aE hrlt,cB,mB.injEq]at hrw;rw[JD R hRok r hrlt];exact hrw.symm
   subst hrow'
   have hc3:c<3:=by
    by_cases h:c<3;.exact h
    rw[cI (by simp[Flt.row];omega)]at hcv;cases hcv
   have hv':=YG _ c v hcv;have hll:r<l.length:=by rw[<-hp.length_eq];exact hrlt
   have hCs:r*3+c<C.size:=by
    obtain⟨cv,hcv1,_⟩:=hrow r _ c _ (by rw[aQ,aE hll];rfl) (by rw[aE (by simp[Flt.row];omega)]);by_cases h:r*3+c<C.size;.exact h
    rw[gH oO]at hcv1;cases hcv1
   refine⟨(DG ((FY R hRok)[r]!))[c]!,?_,by rw[hv'];exact .lit⟩;rw[SY _ _ _ oO hCs,get_flatK DG 3 _ _ (by rw[mR];omega)];rw[(oO:(r*3+c)/3=r),(oO:(r*3+c)%3=c)]
  have hHF:∀i,bK [(F,(⟨3,true,R.map Flt.row⟩:Blk))] A i=if i=F then some ((⟨3,true,R.map Flt.row⟩:Blk),A)else bK [(F,(⟨3,true,l.map Flt.row⟩:Blk))] A i:=λ i=>by
   by_cases h:i=F;.subst h;simp[bK,AM.look]
   have h':¬F=i:=λ e=>h e.symm;rw[if_neg h];simp[bK,AM.look,h']
  obtain⟨q1,q2⟩:=HRel.rows (S:=kN k) (H':=bK [(F,⟨3,true,R.map Flt.row⟩)] A) (B':=⟨3,true,R.map Flt.row⟩) hr hid hρ rfl hHF hC p1 (by simp[putCells]) p2 p3 rfl rfl rfl
   (λ i B A' hi j hj=>by
     have:A'=A:=by simp only[bK,AM.look]at hi;split at hi<;>simp at hi;exact hi.2.symm
     subst this;exact hA j hj)
   (λ r row hrw=>by
     rw[aQ]at hrw
     cases hR:R[r]? with
     |none=>rw[hR]at hrw;cases hrw
     |some f=>rw[hR]at hrw;cases hrw;rfl)
   hrows rfl
  refine⟨.tuple #[],G,ρ,k,.tup [],[(F,⟨3,true,R.map Flt.row⟩)],rfl,⟨rfl,rfl,rfl⟩,aF _,?_,.tup rfl (λ j v hj=>by simp at hj),?_⟩
  .refine(q1.grow os).allow _ ?_ ?_;.intro i hi;simp only[bK,dG]at hi⊢;exact hi
   intro i B A' hi;simp only[bK]at hi⊢
   cases hlk:AM.look [(F,(⟨3,true,R.map Flt.row⟩:Blk))] i with
   |none=>rw[hlk]at hi;cases hi
   |some B1=>rw[hlk]at hi;cases hi;exact⟨A,rfl,λ i hi=> .inl hi⟩
  exact q2.trans (GC (kN k) os) (λ _ h=>h)
end Go.Proofs.T
end
section
namespace Go.Proofs.T
open Go Go.AM Go.Proofs
variable{Γ:List (Nat×List AVal)}
theorem aIO(w:World):Calls aA 195 #[.slice none 0 0,.func (.func 196) #[] #[]] w λ e w'=>e= .returned (.tuple #[])/\w'=w:=
 AnyF.slices_SortFunc_none Tryz.sortF none 0 _ w
theorem sorted(k L F:Nat)(s:St)(l R:List Flt)(hL:L<k)(hF:F<k)(hne:L≠F)(hb:∀f∈l,f.ok)(hp:R.Perm l)(hs:R.Pairwise (λ x y=>0<=cfF y x))(hl:l.length<=100000):
 Tr aA Γ 117 k [.ptr L 0 0] (LK L F s l) (λ k1 r1 H1=>k1=k/\r1=bV F (R.map Flt.row)/\H1=LK L F s R):=by
 obtain⟨a1,a2,a3,a4,a5,a6⟩:=dW hL;obtain⟨b1,b2,b3,b4,b5,b6⟩:=dW hF;obtain⟨c1,c2⟩:=iE hne
 have hV:bV F (l.map Flt.row)=bV F (R.map Flt.row):=by
  cases l with
  |nil=>rw[hp.eq_nil]
  |cons a b=>
   cases R with
   |nil=>exact absurd hp.length_eq sS
   |cons c d=>simp only[bG,bV,lZ,bP];rw[show d.length=b.length by have:=hp.length_eq;simpa using this]
 refine iD Tryz.func117 rfl 12 rfl bB (pS ?_);have kp:=fI k [0,2];have uU:=eQ @a1 @a2 @a3 @a4 @a5 @a6 @b1 @b2 (qQ @b3 @b4 @b5 @b6 @c1 @c2);refine wl ?_;refine aU (zs ?_);refine cl [.gen (.tup []) k (cA F 3 (l.map Flt.row) []) (cA F 3 (R.map Flt.row) [])] ?_;refine dD (zs ?_) (zs ?_);.exact aNU k F l R hb hp hs hl aIO
 refine wl ?_;refine aU (zs ?_);refine aX rfl ?_;rw[hV];refine⟨k,[(2,bV F (R.map Flt.row))],LK L F s R,?_,_,rfl,rfl,rfl,rfl⟩;(have uU:=eQ @a1 @a2 @a3 @a4 @a5 @a6 @b1 @b2 (qQ @b3 @b4 @b5 @b6 @c1 @c2);exact oZ)
def rC(s:St):List Flt:=sZ s++(yB s++zO s)
def yS(s:St):List Flt:=if 0<(pW s).length then pW s else if 0<(rC s).length then rC s else vS s
theorem sE {kb k:Nat}{fr:Fr}{H:aS}(id:Nat){s:Nat}{p:Bool}{rows:List (List AVal)}(hH:AM.look H id=some ⟨s,p,rows⟩):
 Mv kb k fr H k fr ((id,⟨s,false,rows⟩)::del H id):=λ hk=>kU ⟨hk,λ t v h=>⟨v,h,aK v⟩,λ i B hB=>by
 rw[wE]at hB
 split at hB
 · rename_i he
   subst he
   cases hB
   exact⟨_,hH,rfl,λ q row hq=>⟨row,hq,rfl,λ c u v hu hv=>by rw[hu]at hv;cases hv;exact aK _⟩,λ h=>by cases h⟩
 · exact⟨B,hB,pE B⟩,.inl rfl⟩ hk
structure PreOk (s:St):Prop where
 sm:s.Small
 n12:s.ns<=12
 p12:∀g,g<s.ns->s.nsp g<=12
theorem CR(s:St)(h:s.ns<=12):(pW s).length<=100:=by have h1:=cJ (zP s) s.ns;unfold pW gJ;simp only[bQ];split<;>split<;>split<;>split<;>simp<;>omega
theorem IH(s:St)(h:s.ns<=12)(hc:s.cpus<=64):(vS s).length<=800:=by have:=cJ (f:=qB s) (m:=12) (λ i=>by have:=cJ (f:=rE s i) (m:=1) (λ j=>GD _ _ _ _) s.ns;unfold qB;omega) s.cpus.toNat;unfold vS;omega
theorem IN(s:St)(hs:s.Small):(sZ s).length<=2000:=by have h1:=cJ (f:=gO s) (m:=1) (λ i=>dM _ _) s.nk;have h2:=cJ (f:=lO s) (m:=1) (λ i=>dM _ _) s.nu;have:=hs.nk;have:=hs.nu;unfold sZ;rw[bQ];omega
theorem KI(s:St)(hs:s.Small):(yB s).length<=7000:=by have h1:=cJ (f:=tQ s) (m:=7) (KJ s) s.nt;have:=hs.nt;unfold yB;omega
theorem KM(s:St)(hs:PreOk s):(zO s).length<=144:=by have h1:=mZ (f:=sQ s) (m:=12) s.ns (λ g hg=>by have:=cJ (f:=tS s g) (m:=1) (CP s g) (s.nsp g);have:=hs.p12 g hg;unfold sQ;omega);have:=hs.n12;unfold zO;omega
theorem check(hD:FU Γ)(s:St)(hq:PreOk s)(R:List Flt)(hcfg:oN s=false->R=[⟨1,0,0⟩])
 (hfl:oN s=true->(pW s).length=0->(rC s).length=0->FloorOk s)
 (hb:oN s=true->∀f∈yS s,f.ok) (hp:oN s=true->R.Perm (yS s)) (hso:oN s=true->R.Pairwise (λ x y=>0<=cfF y x)):
 Pure aA Γ 113 [.agg s.cells] (rows 3 (R.map Flt.row)):=by
 obtain⟨hs,h12,hp12⟩:=id hq;obtain⟨hng,hnk,hnu,hnt,hns,hnsp⟩:=id hs;refine aZ Tryz.func113 rfl 45 rfl bB rfl λ k=>?_;have kp:=fI k [0,1,2,3,4,6,8,15,22,23,24,26,27,28,29,41];refine wl ?_;refine aU (zs ?_);refine cl [.ret (oN s)] ?_;refine dD (zs ?_) (zs ?_);.exact zU hD s
 refine gA rfl _ rfl (λ ht=>?_) (λ hf=>?_)
 .refine wl ?_;refine aU (zs ?_);have ht':oN s=false:=by simpa using ht
  rw[hcfg ht'];refine aHQ rfl (HS (id:=k+2) (s:=3) (l:=[Flt.row ⟨1,0,0⟩]) 2 sL sL) ⟨_,rfl,?_⟩;exact aK _
 have hcf:oN s=true:=by simpa using hf
 have hrc:=hcf;rw[DI]at hrc;obtain⟨⟨r1,r2,r3,r4,r5,r6,r7⟩,rall⟩:=eY hrc;refine fD rfl ?_;refine sT ?_;refine bY rfl ?_;refine cl [] ?_;refine aU (zs ?_);refine dI (sE (k+1) (by simp-dsimp-implicitDefEqProofs only[go_sem,eq_self,↓reduceIte];rfl)) ?_;refine dI (dJ (k+2) (by simp-dsimp-implicitDefEqProofs only[go_sem,eq_self,↓reduceIte];rfl) rfl) ?_;simp-dsimp-implicitDefEqProofs only[kX,fE,go_sem,eq_self,↓reduceIte];refine dI (dJ (k+3) (by simp-dsimp-implicitDefEqProofs only[go_sem,eq_self,↓reduceIte];rfl) rfl) ?_;simp-dsimp-implicitDefEqProofs only[kX,fE,go_sem,eq_self,↓reduceIte];refine dI (dJ (k+4) (by simp-dsimp-implicitDefEqProofs only[go_sem,eq_self,↓reduceIte];rfl) rfl) ?_;simp-dsimp-implicitDefEqProofs only[kX,fE,go_sem,eq_self,↓reduceIte];refine yU (X:=List Flt) rfl [2,3] (k+3) (λ l=>[]) (λ l=>LK (k+1) (k+2) s l) (λ l=>l=yS s) ?_ ?_
 .refine bY rfl ?_;refine cl [] ?_;refine aU (zs ?_);refine dI (kU (fr1:=[(23,.lit (.int .i64 0)),(22,.agg [.rd 1 1 (λ q=>([[AVal.fn 190 []]]:List (List AVal)).getD q []),.rd 1 3 (λ q=>([[AVal.fn 191 []],[AVal.fn 192 []],[AVal.fn 193 []]]:List (List AVal)).getD q []),.rd 1 1 (λ q=>([[AVal.fn 194 []]]:List (List AVal)).getD q [])]),(3,.ptr (k+1) 0 0),(2,.lit (.slice none 0 0))]) (k1:=k+3) (H1:=LK (k+1) (k+2) s []) wL) ?_;refine rR ?_;apply zN;refine eZ rfl ?_;refine FV rfl 4 ?_;refine AM.rounds_succ ?_;refine wl ?_;refine aU ⟨λ ht=>zN ?_⟩;refine FV rfl 2 ?_;refine AM.rounds_succ ?_;refine wl ?_;refine aU ⟨λ ht=>zN ?_⟩;obtain⟨l1,e1,h1⟩:∃x,x=pW s/\x.length<=100:=⟨_,rfl,CR s h12⟩;refine lY [0,1,2,3,4,6,8,15,22,23,24,26,27,28,29,41] (k+3) [] (LK (k+1) (k+2) s l1) ?_ ?_
  .refine cl [.gen (.tup []) (k+4) (LK (k+1) (k+2) s []) (LK (k+1) (k+3) s l1)] ?_;refine dD (zs ?_) (zs ?_);.have h:=shape (Γ:=Γ) s hs (k+3) (k+1) (k+2) [] oO oO oO sS;rw[cN,<-e1]at h;exact h
   exact lM (k+3) (k+2) wL
  refine rR ?_;apply zN;refine wl ?_;refine dD ⟨λ ht ht=>zN ?_⟩ ⟨λ ht ht ht=>zN ?_⟩;.refine⟨l1,by rw[yS,<-e1,if_pos oO],?_⟩;exact fW
  obtain rfl:l1=[]:=fL oO;have hz:(pW s).length=0:=by rw[<-e1];rfl
  have hchk:yS s=if 0<(rC s).length then rC s else vS s:=by rw[yS,if_neg oO]
  obtain⟨z1,z2,z3,z4⟩:=shapes_nil (s:=s) (by rw[<-BB];exact hz);refine FV rfl 4 ?_;refine AM.rounds_succ ?_;refine wl ?_;refine aU ⟨λ ht=>zN ?_⟩;obtain⟨p1,f1,g1⟩:∃x,x=sZ s/\x.length<=2000:=⟨_,rfl,IN s hs⟩;refine lY [0,1,2,3,4,6,8,15,22,23,24,26,27,28,29,41] (k+3) [] (LK (k+1) (k+2) s p1) ?_ ?_
  .refine cl [.gen (.tup []) (k+4) (LK (k+1) (k+2) s []) (LK (k+1) (k+3) s p1)] ?_;refine dD (zs ?_) (zs ?_);.have h:=a5C (Γ:=Γ) s hs (k+3) (k+1) (k+2) [] oO oO oO sS;rw[cN,<-f1]at h;exact h
   exact lM (k+3) (k+2) wL
  refine rR ?_;apply zN;refine wl ?_;refine aU ⟨λ ht=>zN ?_⟩;obtain⟨p2,f2,g2⟩:∃x,x=p1++yB s/\x.length<=9000:=⟨_,rfl,by have:=KI s hs;rw[bQ];omega⟩;refine lY [0,1,2,3,4,6,8,15,22,23,24,26,27,28,29,41] (k+3) [] (LK (k+1) (k+2) s p2) ?_ ?_
  .refine cl [.gen (.tup []) (k+4) (LK (k+1) (k+2) s p1) (LK (k+1) (k+3) s p2)] ?_;refine dD (zs ?_) (zs ?_);.have h:=a6O (Γ:=Γ) s hs oO (k+3) (k+1) (k+2) p1 oO oO oO oO;rw[<-f2]at h;exact h
   exact lM (k+3) (k+2) wL
  refine rR ?_;apply zN;refine wl ?_;refine aU ⟨λ ht=>zN ?_⟩;obtain⟨p3,f3,g3⟩:∃x,x=p2++zO s/\x.length<=9144:=⟨_,rfl,by have:=KM s hq;rw[bQ];omega⟩;refine lY [0,1,2,3,4,6,8,15,22,23,24,26,27,28,29,41] (k+3) [] (LK (k+1) (k+2) s p3) ?_ ?_
  .refine cl [.gen (.tup []) (k+4) (LK (k+1) (k+2) s p2) (LK (k+1) (k+3) s p3)] ?_;refine dD (zs ?_) (zs ?_);.have h:=a6Q (Γ:=Γ) s hs oO h12 hp12 (k+3) (k+1) (k+2) p2 oO oO oO oO;rw[<-f3]at h;exact h
   exact lM (k+3) (k+2) wL
  refine rR ?_;apply zN;have f3':p3=rC s:=by rw[f3,f2,f1,rC,bL]
  clear f3 f2 f1;refine wl ?_;refine dD ⟨λ ht ht=>zN ?_⟩ ⟨λ ht ht ht=>zN ?_⟩;.refine⟨p3,by rw[hchk,<-f3',if_pos oO],?_⟩;exact fW
  obtain rfl:p3=[]:=fL oO;have hz2:(rC s).length=0:=by rw[<-f3'];rfl
  refine FV rfl 2 ?_;refine AM.rounds_succ ?_;refine wl ?_;refine aU ⟨λ ht=>zN ?_⟩;obtain⟨q1,u1,v1⟩:∃x,x=vS s/\x.length<=800:=⟨_,rfl,IH s h12 r2⟩;refine lY [0,1,2,3,4,6,8,15,22,23,24,26,27,28,29,41] (k+3) [] (LK (k+1) (k+2) s q1) ?_ ?_
  .refine cl [.gen (.tup []) (k+4) (LK (k+1) (k+2) s []) (LK (k+1) (k+3) s q1)] ?_;refine dD (zs ?_) (zs ?_);.have h:=a4F (Γ:=Γ) s hs (hfl hcf hz hz2) (k+3) (k+1) (k+2) [] oO oO oO sS;rw[cN,<-u1]at h;exact h
   exact lM (k+3) (k+2) wL
  refine rR ?_;apply zN;refine wl ?_;refine dD ⟨λ ht ht=>zN ?_⟩ ⟨λ ht ht ht=>zN ?_⟩;.refine⟨q1,by rw[hchk,if_neg oO];exact u1,?_⟩;exact fW
  refine⟨q1,by rw[hchk,if_neg oO];exact u1,?_⟩;exact fW
 intro l hl;have hb':=hb hcf;have hp':=hp hcf;rw[<-hl]at hb' hp'
 have hll:l.length<=100000:=by
  rw[hl];have h1:=CR s h12;have h2:=IN s hs;have h3:=KI s hs;have h4:=KM s hq;have h5:=IH s h12 r2;unfold yS rC;split;.omega
  split;.simp only[bQ];omega
  omega
 refine rR ?_;apply zN;refine wl ?_;refine aU (zs ?_);refine cl [.gen (bV (k+2) (R.map Flt.row)) (k+3) (LK (k+1) (k+2) s l) (LK (k+1) (k+2) s R)] ?_;refine dD (zs ?_) (zs ?_);.exact sorted (k+3) (k+1) (k+2) s l R oO oO oO hb' hp' (hso hcf) hll
 refine DO rfl (id:=k+2) (s:=3) (l:=jL Flt.row R) 2 sL sL ?_;exact⟨_,rfl,aK _⟩
end Go.Proofs.T
end
section
namespace Go.Proofs.T
open Go Go.AM Go.Proofs
theorem nA{f g:Nat->List Flt}:∀ {n:Nat},(∀i,i<n->f i=g i)->bF f n=bF g n
 |0,_=>rfl
 |n+1,h=>by rw[cY,cY,nA (λ i hi=>h i oO),h n oO]
theorem MM{f g:Nat->List Flt}:∀ {n:Nat},(∀i,i<n->(f i).Perm (g i))->(bF f n).Perm (bF g n)
 |0,_=>fV.refl _
 |n+1,h=>(MM (λ i hi=>h i oO)).append (h n oO)
theorem YP{n:Nat}:bF (λ _=>[]) n=[]:=by
 induction n with
 |zero=>rfl
 |succ n ih=>rw[cY,ih];rfl
theorem aJM{α:Type}(a b c d:List α):((a++b)++(c++d)).Perm ((a++c)++(b++d)):=by rw[bL,bL];refine fV.append_left a ?_;rw[<-bL,<-bL];exact fV.append_right d List.perm_append_comm
theorem RF{f g:Nat->List Flt}:∀ {n:Nat},(bF (λ i=>f i++g i) n).Perm (bF f n++bF g n)
 |0=>fV.refl _
 |n+1=>((RF (f:=f) (g:=g) (n:=n)).append_right _).trans (aJM _ _ _ _)
theorem flats_comm{f:Nat->Nat->List Flt}{m:Nat}:∀ {n:Nat},(bF (λ i=>bF (f i) m) n).Perm (bF (λ j=>bF (λ i=>f i j) n) m)
 |0=>by show fV [] (bF (λ j=>[]) m);rw[YP]
 |n+1=>by rw[cY];exact((flats_comm (f:=f) (m:=m) (n:=n)).append_right _).trans (RF (f:=λ j=>bF (λ i=>f i j) n) (g:=f n)).symm
theorem vT{f:Nat->List Flt}:∀ {n:Nat},bF f (n+1)=f 0++bF (λ i=>f (i+1)) n
 |0=>by simp[bF]
 |n+1=>by rw[cY,vT,cY,bL]
theorem RE{f:Nat->List Flt}:∀ {n:Nat},(bF (λ j=>f (n-1-j)) n).Perm (bF f n)
 |0=>fV.refl _
 |n+1=>by
  rw[vT,cY];have:bF (λ i=>f (n+1-1-(i+1))) n=bF (λ j=>f (n-1-j)) n:=nA λ i hi=>by show f _=f _;congr 1;omega
  rw[this];exact((RE (f:=f) (n:=n)).append_left _).trans List.perm_append_comm
theorem mem_flats{f:Nat->List Flt}{x:Flt}:∀ {n:Nat},x∈bF f n↔∃i,i<n/\x∈f i
 |0=>by simp[bF]
 |n+1=>by
  rw[cY,cD,mem_flats];constructor
  .rintro(⟨i,h1,h2⟩|h);.exact⟨i,oO,h2⟩
   exact⟨n,oO,h⟩
  rintro⟨i,h1,h2⟩;by_cases he:i=n;.subst he;exact .inr h2
  exact .inl ⟨i,oO,h2⟩
theorem mem_iff1{b:Bool}{f x:Flt}:x∈gJ b f↔b=true/\x=f:=by cases b<;>simp[gJ]
theorem kM{R:Flt->Flt->Prop}{f:Nat->List Flt}:∀ {n:Nat},(∀i,i<n->(f i).Pairwise R)->(∀i j,i<j->j<n->∀x∈f i,∀y∈f j,R x y)->(bF f n).Pairwise R
 |0,_,_=>oG.nil
 |n+1,h1,h2=>by rw[cY,aAB];refine⟨kM (λ i hi=>h1 i oO) (λ i j hij hj=>h2 i j hij oO),h1 n oO,λ x hx y hy=>?_⟩;obtain⟨i,hi,hx⟩:=mem_flats.1 hx;exact h2 i n hi oO x hx y hy
theorem IF{R:Flt->Flt->Prop}{b:Bool}{f:Flt}:(gJ b f).Pairwise R:=by cases b<;>simp[gJ]
def leF(x y:Flt):Prop:=¬(y.r<x.r\/(y.r=x.r/\(y.a<x.a\/(y.a=x.a/\y.b<x.b))))
theorem aKB(m:Nat)(c:Nat)(hm:m<2^64)(hc:c<=64):0<m/2^c↔∃i,i<64/\c<=i/\m/2^i%2=1:=by
 constructor
 .intro h;obtain⟨i,hi⟩:=Nat.exists_testBit_of_ne_zero (x:=m/2^c) oO;rw[Nat.testBit_div_two_pow]at hi
  have hlt:i+c<64:=by
   rcases Nat.lt_or_ge (i+c) 64 with h|h;.exact h
   rw[Nat.testBit_lt_two_pow (oE hm (Nat.pow_le_pow_right oO h))]at hi;cases hi
  refine⟨i+c,hlt,oO,?_⟩;rw[Nat.testBit_eq_decide_div_mod_eq]at hi;exact of_decide_eq_true hi
 rintro⟨i,h1,h2,h3⟩;have h4:2^c<=2^i:=Nat.pow_le_pow_right oO h2;have h5:m/2^i<=m/2^c:=Nat.div_le_div_left h4 (Nat.two_pow_pos c);have h6:m/2^i≠0:=λ h=>by rw[h]at h3;cases h3
 exact oE (a0R h6) h5
theorem aHA(m c:Nat):((m:Int)/2^c)=((m/2^c:Nat):Int):=by
 have:((2:Int)^c)=((2^c:Nat):Int):=by simp
 rw[this];rfl
theorem ZM(m c:Nat):tA (m:Int) c=decide (m/2^c%2=1):=by unfold tA;rw[aHA];congr 1;apply propext;omega
theorem YQ(m c:Nat):((m:Int).fdiv (2^c))=((m/2^c:Nat):Int):=by
 rw[dL _ (by have:((2:Int)^c)=((2^c:Nat):Int):=by simp
             rw[this];exact KB _),aHA]
theorem aNE(s:St)(hw:Wf s)(i:Nat)(h0:0<=s.cpus)(h1:s.cpus<=64):t8 s i=r8 s i:=by
 obtain⟨m,hm⟩:=FQ (hw.mask0 i);obtain⟨n,hn⟩:=FQ h0;have hb:=hw.mask1 i;have key:=aKB m n oO oO;have hmin:min (n:Int).toNat 64=n:=oO;rw[aY];unfold t8 r8 shr;rw[anyB_iff,hm,hn,hmin,YQ];simp only[CJ,aC,dTt,hm,hn,ZM];constructor;.rintro⟨h2,h3⟩;obtain⟨j,j1,j2,j3⟩:=key.1 oO;exact⟨j,j1,oO,j3⟩
 rintro⟨j,j1,j2,j3⟩;have:=key.2 ⟨j,j1,oO,j3⟩;exact⟨oO,oO⟩
theorem aUF(m:Nat)(hm:m<2^64):a5K (m:Int)=((m%2:Nat):Int):=by
 unfold a5K;have h1:(BitVec.ofInt bN.bits (m:Int)&&&BitVec.ofInt bN.bits 1).toNat=m%2:=by show(BitVec.ofInt 64 (m:Int)&&&BitVec.ofInt 64 1).toNat=m%2;rw[BitVec.toNat_and,BitVec.ofInt_natCast,BitVec.toNat_ofNat,HR hm];show m&&&1=m%2;exact Nat.and_one_is_mod m
 rw[h1];exact fF oO oO
theorem a6P(s:St)(hw:Wf s)(i:Nat)(h1:s.cpus<=64):t9 s i=r9 s i:=by
 unfold t9 r9;by_cases ho:onB s i=true
 .rw[ho,kQ,kQ];have ho':0<=(s.tsk i).cpu/\(s.tsk i).cpu<s.cpus:=by simpa [onB]using ho
  obtain⟨m,hm⟩:=FQ (hw.mask0 i);obtain⟨n,hn⟩:=FQ ho'.1;have hb:=hw.mask1 i;have e1:XM (n:Int)=n:=by unfold XM;rw[if_neg oO]
  have e2:min (n:Int).toNat 64=n:=oO;unfold shr;rw[hm,hn,e1,e2,YQ,aUF _ (Nat.lt_of_le_of_lt (Nat.div_le_self _ _) oO),gX,ZM];rcases Nat.mod_two_eq_zero_or_one (m/2^n)with h|h<;>rw[h]<;>rfl
 rw[aHU]at ho;rw[ho];rfl
def OMin(o:Option Int)(P:Int->Prop):Prop:=match o with
 |none=>∀x,¬P x
 |some m=>P m/\∀x,P x->m<=x
theorem OMin.congr {o:Option Int}{P Q:Int->Prop}(h:OMin o P)(hq:∀x,P x↔Q x):OMin o Q:=by have:P=Q:=funext λ x=>propext (hq x);rwa [<-this]
theorem OMin.some_iff {o:Option Int}{P:Int->Prop}(h:OMin o P):o.isSome=true↔∃x,P x:=by
 cases o with
 |none=>simp only[lA,aO,false_iff,not_exists];exact h
 |some m=>simp only[Option.isSome_some,true_iff];exact⟨m,h.1⟩
theorem aGE{f:Nat->Option Int}{g h:Nat}{v:Int}{P:Int->Prop}(hf:OMin (f h) P):OMin (low f g v h) (λ x=>P x\/(g=h/\x=v)):=by
 by_cases he:h=g
 .subst he
  cases ho:f h with
  |none=>
   rw[ho]at hf;have:low f h v h=some v:=by simp[low,ho,put]
   rw[this];refine⟨.inr ⟨rfl,rfl⟩,λ x hx=>?_⟩;rcases hx with hx|⟨_,hx⟩;.exact absurd hx (hf x)
   omega
  |some m=>
   rw[ho]at hf;by_cases hv:v<m
   .have:low f h v h=some v:=by simp[low,ho,put,hv]
    rw[this];refine⟨.inr ⟨rfl,rfl⟩,λ x hx=>?_⟩;rcases hx with hx|⟨_,hx⟩;.have:=hf.2 x hx;omega
    omega
   have:low f h v h=some m:=by simp[low,ho,put,hv]
   rw[this];refine⟨.inl hf.1,λ x hx=>?_⟩;rcases hx with hx|⟨_,hx⟩;.exact hf.2 x hx
   omega
 have:low f g v h=f h:=by
  unfold low
  cases f g with
  |none=>simp[put,he]
  |some u=>by_cases hv:v<u<;>simp[put,he,hv]
 rw[this];exact hf.congr λ x=>⟨.inl,λ hx=>hx.elim id λ hx=>absurd hx.1.symm he⟩
theorem aRW(s:St)(c:Int)(h:Nat):∀n,OMin (fT s c n h) (λ x=>∃i,i<n/\sN s c i=true/\(s.tsk i).group.toNat=h/\x=(s.tsk i).v)
 |0=>λ x hx=>by obtain⟨i,hi,_⟩:=hx;omega
 |n+1=>by
  have ih:=aRW s c h n;rw[fT];by_cases ht:sN s c n=true
  .rw[if_pos ht];refine(aGE (g:=(s.tsk n).group.toNat) (v:=(s.tsk n).v) ih).congr λ x=>?_;constructor
   .rintro(⟨i,h1,h2⟩|⟨h1,h2⟩);.exact⟨i,oO,h2⟩
    exact⟨n,oO,ht,h1,h2⟩
   rintro⟨i,h1,h2,h3,h4⟩;by_cases he:i=n;.subst he;exact .inr ⟨h3,h4⟩
   exact .inl ⟨i,oO,h2,h3,h4⟩
  rw[if_neg ht];refine ih.congr λ x=>?_;constructor;.rintro⟨i,h1,h2⟩;exact⟨i,oO,h2⟩
  rintro⟨i,h1,h2,h3⟩;by_cases he:i=n;.subst he;exact absurd h2 ht
  exact⟨i,oO,h2,h3⟩
def aKI(s:St)(c j h:Nat)(x:Int):Prop:=
 (∃i,i<s.nt/\sN s c i=true/\(s.tsk i).group.toNat=h/\x=(s.tsk i).v)∨
 (∃q,q<j/\0<s.ns-1-q/\(dF s c q (s.ns-1-q)).isSome=true/\(s.par (s.ns-1-q)).toNat=h/\x=(s.sp (s.ns-1-q) c).v)
theorem MZ(s:St)(c h:Nat):∀j,OMin (dF s c j h) (aKI s c j h)
 |0=>(aRW s c h s.nt).congr λ x=>⟨.inl,λ hx=>hx.elim id λ⟨q,hq,_⟩=>absurd hq (bJ _)⟩
 |j+1=>by
  have ih:=MZ s c h j;rw[dF,DZ];have mono:∀x,aKI s c j h x->aKI s c (j+1) h x:=λ x hx=>hx.elim .inl λ⟨q,hq,r⟩=> .inr ⟨q,oO,r⟩
  cases hm:dF s c j (s.ns-1-j)with
  |none=>
   have hn:=hm;refine ih.congr λ x=>⟨mono x,?_⟩;rintro(hx|⟨q,hq,h1,h2,h3⟩);.exact .inl hx
   by_cases he:q=j;.subst he;rw[hn]at h2;cases h2
   exact .inr ⟨q,oO,h1,h2,h3⟩
  |some m=>
   simp only;by_cases hg:0<s.ns-1-j
   .rw[if_pos hg];refine(aGE ih).congr λ x=>⟨?_,?_⟩
    .rintro(hx|⟨h1,h2⟩);.exact mono x hx
     exact .inr ⟨j,oO,hg,by rw[hm];rfl,h1,h2⟩
    rintro(hx|⟨q,hq,h1,h2,h3,h4⟩);.exact .inl (.inl hx)
    by_cases he:q=j;.subst he;exact .inr ⟨h3,h4⟩
    exact .inl (.inr ⟨q,oO,h1,h2,h3,h4⟩)
   rw[if_neg hg];refine ih.congr λ x=>⟨mono x,?_⟩;rintro(hx|⟨q,hq,h1,h2,h3⟩);.exact .inl hx
   by_cases he:q=j;.subst he;exact absurd h1 hg
   exact .inr ⟨q,oO,h1,h2,h3⟩
theorem mem_flatM{f:Nat->List Mem}{x:Mem}:∀ {n:Nat},x∈jQ f n↔∃i,i<n/\x∈f i
 |0=>by simp[jQ]
 |n+1=>by
  rw[MO,cD,mem_flatM];constructor
  .rintro(⟨i,h1,h2⟩|h);.exact⟨i,oO,h2⟩
   exact⟨n,oO,h⟩
  rintro⟨i,h1,h2⟩;by_cases he:i=n;.subst he;exact .inr h2
  exact .inl ⟨i,oO,h2⟩
theorem mem_ifM{b:Bool}{f x:Mem}:x∈ifM b f↔b=true/\x=f:=by cases b<;>simp[ifM]
theorem XK(s:St)(hk:FloorOk s)(g c:Nat)(x:Int):(∃m∈jQ (wA s g c) s.nt,m.v=x)↔∃i,i<s.nt/\sN s c i=true/\(s.tsk i).group.toNat=g/\x=(s.tsk i).v:=by
 constructor;.rintro⟨m,hm,rfl⟩;obtain⟨i,hi,hm⟩:=mem_flatM.1 hm;obtain⟨h1,rfl⟩:=mem_ifM.1 hm;simp only[inQ,aC,dTt]at h1;exact⟨i,hi,by simp[sN,h1],oO,rfl⟩
 rintro⟨i,hi,h1,h2,rfl⟩;simp only[sN,aC,dTt]at h1;have:=hk.grp i hi;exact⟨_,mem_flatM.2 ⟨i,hi,mem_ifM.2 ⟨by simp only[inQ,aC,dTt];exact⟨h1.1,oO,h1.2⟩,rfl⟩⟩,rfl⟩
theorem XJ(s:St)(hk:FloorOk s)(c:Nat):∀(f g:Nat),g<s.ns->s.ns-g<=f+1->∀x,(∃m∈vC s c f g,m.v=x)↔aKI s c (s.ns-1-g) g x
 |0,g,hg,hf,x=>by have e:s.ns-1-g=0:=oO;rw[vC,XK s hk,e];exact⟨.inl,λ hx=>hx.elim id λ⟨q,hq,_⟩=>absurd hq (bJ _)⟩
 |f+1,g,hg,hf,x=>by
  have ih:=XJ s hk c f;have hT:=XK s hk g c x
  have sub:∀h,h<s.ns->g<h->((vC s c f h).isEmpty=false↔(dF s c (s.ns-1-h) h).isSome=true):=λ h h1 h2=>by
   rw[(MZ s c h (s.ns-1-h)).some_iff];constructor
   .intro he
    cases hl:vC s c f h with
    |nil=>rw[hl]at he;cases he
    |cons m l=>exact⟨m.v,(ih h h1 oO m.v).1 ⟨m,by rw[hl];simp,rfl⟩⟩
   rintro⟨y,hy⟩;obtain⟨m,hm,_⟩:=(ih h h1 oO y).2 hy
   cases hl:vC s c f h with
   |nil=>rw[hl]at hm;cases hm
   |cons m l=>rfl
  rw[GO];constructor
  .rintro⟨m,hm,hv⟩;rcases cD.1 hm with hm|hm;.exact .inl (hT.1 ⟨m,hm,hv⟩)
   obtain⟨h,h1,hm⟩:=mem_flatM.1 hm;obtain⟨h2,rfl⟩:=mem_ifM.1 hm;simp only[aC,dTt,aT]at h2;obtain⟨⟨h3,h4⟩,h5⟩:=h2;have hp:=hk.par h h3 h1;have hs:=(sub h h1 oO).1 h5;have e:s.ns-1-(s.ns-1-h)=h:=oO;refine .inr ⟨s.ns-1-h,oO,oO,?_,?_,?_⟩;.rw[e];exact hs
   .rw[e];omega
   rw[e];exact hv.symm
  rintro(hx|⟨q,hq,h1,h2,h3,h4⟩);.obtain⟨m,hm,hv⟩:=hT.2 hx;exact⟨m,List.mem_append_left _ hm,hv⟩
  obtain⟨h,eh⟩:∃h,h=s.ns-1-q:=⟨_,rfl⟩;rw[<-eh]at h1 h2 h3 h4;have hp:=hk.par h h1 oO;have hq':q=s.ns-1-h:=oO;rw[hq']at h2;refine⟨⟨(s.sp h c).v,1,(h:Int)⟩,List.mem_append_right _ (mem_flatM.2 ⟨h,oO,mem_ifM.2 ⟨?_,rfl⟩⟩),h4.symm⟩;simp only[aC,dTt,aT];exact⟨⟨h1,oO⟩,(sub h oO oO).2 h2⟩
theorem NE{f:Nat->Bool}:∀ {n:Nat},HI f n=n↔∀i,i<n->f i=true
 |0=>⟨λ _ i hi=>oO,λ _=>rfl⟩
 |n+1=>by
  have h1:=UU f n;have ih:=NE (f:=f) (n:=n);rw[HI];by_cases hf:f n=true
  .rw[hf];constructor
   .intro h i hi;by_cases he:i=n;.subst he;exact hf
    exact ih.1 (by simp at h;omega) i oO
   intro h;have:=ih.2 λ i hi=>h i oO;simp;omega
  rw[aHU]at hf;rw[hf];constructor;.intro h;simp at h;omega
  intro h;have:=h n oO;rw[hf]at this;cases this
theorem YO(s:St)(hk:FloorOk s)(g c:Nat)(hg:g<s.ns):rE s c (s.ns-1-g)=kV s g c:=by
 have e:s.ns-1-(s.ns-1-g)=g:=oO;have hm:=MZ s c g (s.ns-1-g);have hi:=XJ s hk c s.ns g hg oO
 have hall:∀l:List Mem,HI (pH s g c l) l.length=l.length↔∀m∈l,(s.sp g c).floor<m.v:=λ l=>by
  rw[NE];constructor;.intro h m hm;obtain⟨i,hi,rfl⟩:=List.getElem_of_mem hm;have:=h i hi;simpa [pH,aJZ,bD,aE hi]using this
  intro h i hi;have:=h l[i] (bKH hi);simpa [pH,aJZ,bD,aE hi]using this
 unfold rE DY kV;rw[e]
 cases hd:dF s c (s.ns-1-g) g with
 |none=>
  rw[hd]at hm
  have:vC s c s.ns g=[]:=by
   cases hl:vC s c s.ns g with
   |nil=>rfl
   |cons m l=>exact absurd ((hi m.v).1 ⟨m,by rw[hl];simp,rfl⟩) (hm m.v)
  rw[this];simp[gJ]
 |some v=>
  rw[hd]at hm;simp only;congr 1;rw[aY,dTt,dTt,hall];constructor;.intro h;obtain⟨m,hm1,hm2⟩:=(hi v).2 hm.1;refine⟨List.length_pos_of_mem hm1,λ m' hm'=>?_⟩;have:=hm.2 m'.v ((hi m'.v).1 ⟨m',hm',rfl⟩);omega
  rintro⟨_,h⟩;obtain⟨m,hm1,hm2⟩:=(hi v).2 hm.1;have:=h m hm1;omega
theorem YN(s:St)(hk:FloorOk s):(nX s).Perm (vS s):=by unfold nX vS EP qB;refine flats_comm.trans (MM λ c hc=>?_);refine fV.trans ?_ (RE (f:=rE s c) (n:=s.ns));rw[nA (f:=λ g=>kV s g c) (g:=λ g=>rE s c (s.ns-1-g)) λ g hg=>(YO s hk g c hg).symm]
theorem aIH(s:St)(hw:Wf s)(i:Nat)(h0:0<=s.cpus)(h1:s.cpus<=64):tQ s i=bF (λ r=>oJ s r i) 7:=by have e8:=aNE s hw i h0 h1;have e9:=a6P s hw i h1;simp[bF,oJ,VZ,tQ,bL,e8,e9]
theorem aAP(s:St)(hw:Wf s)(h0:0<=s.cpus)(h1:s.cpus<=64):(bF (AR s) 7).Perm (yB s):=by unfold yB AR;rw[nA (f:=tQ s) (g:=λ i=>bF (λ r=>oJ s r i) 7) λ i _=>aIH s hw i h0 h1];exact flats_comm
theorem aNQ(s:St)(hw:Wf s)(hv:∀g c,0<=(s.sp g c).v)(hp:PartOk s):zO s=bF (kG s) s.cpus.toNat++bF (vB s) s.ns:=by
 obtain⟨n,hn⟩:∃n,s.ns=n+1:=⟨s.ns-1,by have:=hp.ns1;omega⟩;unfold zO;have h0:s.nsp 0=s.cpus.toNat:=by have:=hp.sp 0 oO;omega
 rw[hn,vT,vT];have e0:vB s 0=[]:=rfl;rw[e0,cN];congr 1;unfold sQ;rw[h0];refine nA λ c hc=>?_;unfold tS kG;rw[if_pos rfl];congr 1;have:=hv 0 c;have:=hw.sr 0 c;rw[aY,dTt,dTt];omega
theorem aBJ(s:St)(hw:Wf s)(hv:∀g c,0<=(s.sp g c).v)(hp:PartOk s):(jG s).Perm (sZ s++(yB s++zO s)):=by
 have hT:=aAP s hw hp.c0 hp.c1;have hnu:s.cpus.toNat=s.nu:=by have:=hp.nu;omega
 rw[aNQ s hw hv hp];unfold jG sZ;rw[hnu];have hc:=List.perm_iff_count.1 hT;rw[List.perm_iff_count];intro a;have:=hc a;simp only[List.count_append];omega
theorem yY{x y:Flt}(h:x.r<y.r):leF x y:=by unfold leF;omega
theorem QT{x y:Flt}(h:x.r=y.r)(h1:x.a<y.a):leF x y:=by unfold leF;omega
theorem a1M{x y:Flt}(h:x.r=y.r)(h1:x.a=y.a)(h2:x.b<=y.b):leF x y:=by unfold leF;omega
theorem AB{s:St}{g:Nat}{x:Flt}(h:x∈gY s g):x=⟨2,3,g⟩:=by unfold gY at h;split at h<;>simp at h;exact h
theorem aPR{s:St}{n:Nat}{x:Flt}(h:x∈bF (gO s) n):x.r=3/\(0<=x.a/\x.a<n)/\x.b=0:=by obtain⟨i,hi,h⟩:=mem_flats.1 h;obtain⟨_,rfl⟩:=mem_iff1.1 h;exact⟨rfl,by simp only;omega,rfl⟩
theorem LQ{s:St}{n:Nat}{x:Flt}(h:x∈bF (lO s) n):x.r=13/\(0<=x.a/\x.a<n)/\x.b=0:=by obtain⟨i,hi,h⟩:=mem_flats.1 h;obtain⟨_,rfl⟩:=mem_iff1.1 h;exact⟨rfl,by simp only;omega,rfl⟩
theorem LP{s:St}{n:Nat}{x:Flt}(h:x∈bF (kG s) n):x.r=12/\(0<=x.a/\x.a<n)/\x.b=0:=by obtain⟨i,hi,h⟩:=mem_flats.1 h;obtain⟨_,rfl⟩:=mem_iff1.1 h;exact⟨rfl,by simp only;omega,rfl⟩
theorem TI{s:St}{r:Nat}{x:Flt}(h:x∈AR s r):x.r=r+4/\(0<=x.a/\x.a<s.nt)/\x.b=0:=by obtain⟨i,hi,h⟩:=mem_flats.1 h;obtain⟨_,rfl⟩:=mem_iff1.1 h;exact⟨rfl,by simp only;omega,rfl⟩
theorem TH{s:St}{g:Nat}{x:Flt}(h:x∈vB s g):x.r=11/\x.a=g/\(0<=x.b/\x.b<s.nsp g):=by
 unfold vB at h;split at h;.cases h
 obtain⟨i,hi,h⟩:=mem_flats.1 h;obtain⟨_,rfl⟩:=mem_iff1.1 h;exact⟨rfl,rfl,by simp only;omega⟩
theorem aBU{s:St}{g:Nat}{x:Flt}(h:x∈EP s g):x.r=14/\x.a=g/\(0<=x.b/\x.b<s.cpus.toNat):=by obtain⟨i,hi,h⟩:=mem_flats.1 h;obtain⟨_,rfl⟩:=mem_iff1.1 h;exact⟨rfl,rfl,by simp only;omega⟩
theorem rH{R:Flt->Flt->Prop}{a b:List Flt}(h1:a.Pairwise R)(h2:b.Pairwise R)(h3:∀x∈a,∀y∈b,R x y):(a++b).Pairwise R:=aAB.2 ⟨h1,h2,h3⟩
theorem uI{f:Nat->List Flt}{n:Nat}{r:Int}{b:Nat->Bool}(h:∀i,f i=gJ (b i) ⟨r,(i:Int),0⟩):(bF f n).Pairwise leF:=
 kM (λ i _=>by rw[h];exact IF) (λ i j hij _ x hx y hy=>by rw[h]at hx hy;obtain⟨_,rfl⟩:=mem_iff1.1 hx;obtain⟨_,rfl⟩:=mem_iff1.1 hy;exact QT rfl (by simp only;omega))
theorem CS{f:Nat->List Flt}{n:Nat}{r a:Int}{b:Nat->Bool}(h:∀i,f i=gJ (b i) ⟨r,a,(i:Int)⟩):(bF f n).Pairwise leF:=
 kM (λ i _=>by rw[h];exact IF) (λ i j hij _ x hx y hy=>by rw[h]at hx hy;obtain⟨_,rfl⟩:=mem_iff1.1 hx;obtain⟨_,rfl⟩:=mem_iff1.1 hy;exact a1M rfl rfl (by simp only;omega))
theorem MC{R:Flt->Flt->Prop}{p:Prop} [Decidable p]{f:Flt}:(if p then [f]else []).Pairwise R:=by split<;>simp
theorem JM{p:Prop} [Decidable p]{f x:Flt}(h:x∈(if p then [f]else [])):x=f:=by split at h<;>simp at h;exact h
theorem HU{s:St}{x:Flt}(h:x∈(if s.ns≠s.ng then [⟨2,2,0⟩]else bF (gY s) s.ns)):x.r=2/\(2<=x.a/\x.a<=3)/\(0<=x.b/\x.b<=s.ns):=by
 split at h;.simp at h;subst h;exact⟨rfl,sS,sS⟩
 obtain⟨i,hi,h⟩:=mem_flats.1 h;rw[AB h];exact⟨rfl,sS,by simp only;omega⟩
theorem OI(s:St):(fZ s).Pairwise leF:=by
 unfold fZ;refine rH (rH MC MC λ x hx y hy=>?_) ?_ λ x hx y hy=>?_;.rw[JM hx,JM hy];exact QT rfl sS
 .split;.simp
  refine kM (λ i _=>by unfold gY;split<;>simp) λ i j hij _ x hx y hy=>?_;rw[AB hx,AB hy];exact a1M rfl rfl (by simp only;omega)
 obtain⟨h1,h2,h3⟩:=HU hy;rcases cD.1 hx with hx|hx<;>rw[JM hx]<;>exact QT h1.symm (by simp only;omega)
theorem SZ(s:St):(jG s).Pairwise leF:=by
 have hB:∀x∈bF (AR s) 7,4<=x.r/\x.r<=10:=λ x hx=>by obtain⟨i,hi,hx⟩:=mem_flats.1 hx;have:=TI hx;omega
 have hS:∀x∈bF (vB s) s.ns,x.r=11:=λ x hx=>by obtain⟨i,hi,hx⟩:=mem_flats.1 hx;exact(TH hx).1
 unfold jG;refine rH (uI λ i=>rfl) (rH ?_ (rH ?_ (rH (uI λ i=>rfl) (uI λ i=>rfl) λ x hx y hy=>?_) λ x hx y hy=>?_) λ x hx y hy=>?_) λ x hx y hy=>?_;.refine kM (λ i _=>uI λ i=>rfl) λ i j hij _ x hx y hy=>?_;have:=TI hx;have:=TI hy;exact yY oO
 .refine kM (λ i _=>?_) λ i j hij _ x hx y hy=>?_
  .unfold vB;split;.exact oG.nil
   exact CS λ i=>rfl
  have:=TH hx;have:=TH hy;exact QT oO oO
 .have:=LP hx;have:=LQ hy;exact yY oO
 .have:=hS x hx;rcases cD.1 hy with hy|hy;.have:=LP hy;exact yY oO
  have:=LQ hy;exact yY oO
 .have:=hB x hx;rcases cD.1 hy with hy|hy;.have:=hS y hy;exact yY oO
  rcases cD.1 hy with hy|hy;.have:=LP hy;exact yY oO
  have:=LQ hy;exact yY oO
 have:=aPR hx;rcases cD.1 hy with hy|hy;.have:=hB y hy;exact yY oO
 rcases cD.1 hy with hy|hy;.have:=hS y hy;exact yY oO
 rcases cD.1 hy with hy|hy;.have:=LP hy;exact yY oO
 have:=LQ hy;exact yY oO
theorem OQ(s:St):(nX s).Pairwise leF:=by refine kM (λ i _=>CS λ i=>rfl) λ i j hij _ x hx y hy=>?_;have:=aBU hx;have:=aBU hy;exact QT oO oO
theorem OX(s:St):(bW s).Pairwise leF:=by
 unfold bW;split;.simp
 split;.exact OI s
 split;.exact SZ s
 exact OQ s
def okN(x:Flt):Prop:=(0<=x.r/\x.r<256)/\(0<=x.a/\x.a<1000000)/\(0<=x.b/\x.b<1000000)
theorem aIQ(s:St)(hs:s.Small):∀x∈fZ s,okN x:=λ x hx=>by
 have:=hs.ns;unfold fZ at hx;rcases cD.1 hx with hx|hx;.rcases cD.1 hx with hx|hx<;>rw[JM hx]<;>simp[okN]
 have:=HU hx;unfold okN;omega
theorem aPC(s:St)(hs:s.Small)(hc:s.cpus<=64):∀x∈jG s,okN x:=λ x hx=>by
 obtain⟨hng,hnk,hnu,hnt,hns,hnsp⟩:=id hs;unfold okN;unfold jG at hx;rcases cD.1 hx with hx|hx;.have:=aPR hx;omega
 rcases cD.1 hx with hx|hx;.obtain⟨i,hi,hx⟩:=mem_flats.1 hx;have:=TI hx;omega
 rcases cD.1 hx with hx|hx;.obtain⟨i,hi,hx⟩:=mem_flats.1 hx;have:=TH hx;have:=hnsp i hi;omega
 rcases cD.1 hx with hx|hx;.have:=LP hx;omega
 have:=LQ hx;omega
theorem aKV(s:St)(hs:s.Small)(hc:s.cpus<=64):∀x∈nX s,okN x:=λ x hx=>by have:=hs.ns;obtain⟨i,hi,hx⟩:=mem_flats.1 hx;have:=aBU hx;unfold okN;omega
theorem aLL(s:St)(hs:s.Small):∀x∈bW s,okN x:=by
 intro x hx;unfold bW at hx;by_cases hr:gE s=false;.rw[if_pos hr]at hx;simp at hx;subst hx;simp[okN]
 rw[if_neg hr]at hx;have hc:=(eY (s:=s) (by simpa using hr)).1.2.1;split at hx;.exact aIQ s hs x hx
 split at hx;.exact aPC s hs hc x hx
 exact aKV s hs hc x hx
theorem floorOk(s:St)(h12:s.ns<=12)(hr:gE s=true)(hsh:(fZ s).length=0)(hT:(yB s).length=0):FloorOk s:=by
 obtain⟨⟨h1,h2,h3,h4,h5,h6,h7⟩,hall⟩:=eY hr;obtain⟨k1,k2,k3,k4⟩:=shapes_nil hsh;refine⟨λ i hi=>?_,λ g hg hn=>?_,k4,oO,oO,h2,h12⟩
 .have h:=HA hT i hi;have h6:t6 s i=false:=by unfold tQ at h;simp only[vW,mA]at h;exact h.2.2.1
  simp only[t6,dFn]at h6;omega
 have:=hall g hg oO;simp only[okR,aC,dTt]at this;exact EC hg this.2
end Go.Proofs.T
end
