import Derived.Test.YteimiejbhhgljaaGreatDoorZAP
import Derived.Test.YteimiejbhhgljaaGreatDoorRows
set_option linter.unusedVariables false
set_option linter.unusedSimpArgs false
set_option maxHeartbeats 0
set_option maxRecDepth 100000
open Array renaming getD_eq_getD_getElem?->aI,getElem?_eq_getElem->aQ,getElem?_eq_some_iff->dA
open Bool renaming and_eq_false_iff->AF,and_eq_true->aH,and_true->iC,eq_false_iff->gB,eq_iff_iff->bH,false->aE,false_and->KU,false_eq_true->aS,false_or->AE,not_eq_false'->jI,not_eq_true'->bD,or_eq_false_iff->fO,or_eq_true->bL,true->aB,true_and->lG,true_eq_false->bX,true_or->AD
open Int renaming ediv_nonneg->a5D,fdiv_eq_ediv_of_nonneg->dU,le_refl->bR,pow_nonneg->AW,toNat_natCast->bP
open Go.IntKind renaming i64->aL,u32->lM,u64->aY,u8->fA
open List renaming all_cons->fU,append_eq_nil_iff->bBK,append_nil->cZ,eq_nil_of_length_eq_zero->jU,ext_getElem?->dZ,getD->oH,getD_eq_getElem?_getD->aR,getElem?_append_left->gP,getElem?_append_right->iK,getElem?_cons_zero->lF,getElem?_eq_getElem->aJ,getElem?_eq_none->aX,getElem?_eq_some_iff->aK,getElem?_set->dD,getElem_mem->JR,length_append->bM,length_filter_le->bKU,length_map->cX,length_replicate->gI,map->rS,map_append->aM,map_congr_left->fD,map_cons->bI,map_map->jM,map_nil->bQ,mem_range->dK,range->aN,replicate->bE
open Nat renaming add_assoc->gD,add_sub_cancel->a4V,add_sub_cancel_left->lE,eq_zero_or_pos->a4U,le_refl->aF,le_trans->qX,lt_irrefl->qR,lt_of_lt_of_le->oD,lt_succ_iff_lt_or_eq->jF,lt_trichotomy->kA,mul_comm->iW,mul_one->HW,not_lt_zero->bO,reduceAdd->YG,sub_self->RX,zero_add->fH,zero_le->aZ
open Option renaming isSome_iff_exists->fS,isSome_none->rQ,none->aC,some->aA
open Go.Proofs.Tryz renaming prog->aD,underlying5->dH,underlying50->lD
open Go.Value renaming bool->EA,okWide->bKN
section
namespace Go.Proofs.T
open Go Go.AM Go.Proofs
variable{Γ:dL}
attribute [local irreducible] jE del
theorem a6Z(f0:Nat)(l:List Tk)(a m b:Nat)(h1:a+1<m)(h2:m+1<b)(h3:b<=l.length)(h4:b-a<=f0+1)(hl:l.length<=100000)(k id:Nat)(hid:id<k)
 (ih:∀(l:List Tk) (a m b:Nat),a<m->m<b->b<=l.length->b-a<=f0->l.length<=100000->AM.Tr aD Γ 209 k [.sl id 0 l.length,a,m,b,.fn 69 []] [(id,⟨8,aB,(l).map tR⟩)] (λ k1 r1 H1=>k1=k/\r1= .tup []/\H1=[(id,⟨8,aB,(rW gX iO f0 l a m b).map tR⟩)])):
 AM.Tr aD Γ 209 k [.sl id 0 l.length,a,m,b,.fn 69 []] [(id,⟨8,aB,(l).map tR⟩)] (λ k1 r1 H1=>k1=k/\r1= .tup []/\H1=[(id,⟨8,aB,(rW gX iO (f0+1) l a m b).map tR⟩)]):=by
 have i0:¬id=k:=oO;have i4:∀q,id<k+q:=λ q=>oO;have i1:∀q,¬id=k+q:=λ q=>oO;have i2:¬k=id:=oO;have i3:∀q,¬k+q=id:=λ q=>oO;obtain⟨N,eN⟩:∃N,N=l.length:=⟨_,rfl⟩;rw[<-eN];obtain⟨mid,emid⟩:∃x,x=(a+b)/2:=⟨_,rfl⟩;obtain⟨n,en⟩:∃x,x=mid+m:=⟨_,rfl⟩;obtain⟨s0,es0⟩:∃x,x=if mid<m then n-b else a:=⟨_,rfl⟩
 obtain⟨r0,er0⟩:∃x,x=if mid<m then mid else m:=⟨_,rfl⟩
 obtain⟨p,ep⟩:∃p:Nat->Bool,p=λ c=> !(iO (l.getD (n-1-c) gX) (l.getD c gX)):=⟨_,rfl⟩;obtain⟨B,eB⟩:∃B,B=DY p (b-a) s0 r0:=⟨_,rfl⟩;obtain⟨en',een⟩:∃x,x=n-B:=⟨_,rfl⟩;obtain⟨l1,el1⟩:∃x,x=if B<m/\m<en' then rot gX l B m en' else l:=⟨_,rfl⟩
 obtain⟨l2,el2⟩:∃x,x=if a<B/\B<mid then rW gX iO f0 l1 a B mid else l1:=⟨_,rfl⟩
 obtain⟨l3,el3⟩:∃x,x=if mid<en'/\en'<b then rW gX iO f0 l2 mid en' b else l2:=⟨_,rfl⟩
 have hres:rW gX iO (f0+1) l a m b=l3:=by rw[rW,iN oO,iN oO];simp only;rw[<-emid,<-en,<-es0,<-er0,<-ep,<-eB,<-een,<-el1,<-el2,<-el3]
 rw[hres];have hr0:s0<=r0/\r0<=mid/\r0<=m/\a<=s0/\n<=s0+b/\r0-s0<=b-a/\r0<=n:=by rw[es0,er0];split<;>omega
 have hB:=rP (p:=p) (f:=b-a) (i:=s0) (j:=r0) hr0.1;rw[<-eB]at hB
 have hl1:l1.length=N:=by
  rw[el1];split;.rw[(NN oO oO oO).length_eq,eN]
  exact eN.symm
 have hl2:l2.length=N:=by
  rw[el2];split;.rw[(xD oO oO oO).length_eq,hl1]
  exact hl1
 obtain⟨R,eR⟩:∃R,R=l.map tR:=⟨_,rfl⟩;have hRl:R.length=N:=by rw[eR,cX,eN]
 rw[<-eR];have hrot:B<m->m<en'->AM.Tr aD Γ 253 k [.sl id 0 N,B,m,en',.fn 69 []] [(id,⟨8,aB,(l).map tR⟩)] (λ k1 r1 H1=>k1=k/\r1= .tup []/\H1=[(id,⟨8,aB,(l1).map tR⟩)]):=λ q1 q2=>by have h:=bCF (Γ:=Γ) l B m en' q1 q2 oO hl k id hid;rw[el1,iP ⟨q1,q2⟩,eN];exact h
 have hsy1:a<B->B<mid->AM.Tr aD Γ 209 k [.sl id 0 N,a,B,mid,.fn 69 []] [(id,⟨8,aB,(l1).map tR⟩)] (λ k1 r1 H1=>k1=k/\r1= .tup []/\H1=[(id,⟨8,aB,(l2).map tR⟩)]):=λ q1 q2=>by have h:=ih l1 a B mid q1 q2 oO oO oO;rw[el2,iP ⟨q1,q2⟩,<-hl1];exact h
 have hsy2:mid<en'->en'<b->AM.Tr aD Γ 209 k [.sl id 0 N,mid,en',b,.fn 69 []] [(id,⟨8,aB,(l2).map tR⟩)] (λ k1 r1 H1=>k1=k/\r1= .tup []/\H1=[(id,⟨8,aB,(l3).map tR⟩)]):=λ q1 q2=>by have h:=ih l2 mid en' b q1 q2 oO oO oO;rw[el3,iP ⟨q1,q2⟩,<-hl2];exact h
 refine cN Tryz.func209 rfl 220 rfl bB ?_;have wma:aL.wrap ((m:Int)-(a:Int))=((m-a:Nat):Int):=by rw[dP oO oO];omega
 have wbm:aL.wrap ((b:Int)-(m:Int))=((b-m:Nat):Int):=by rw[dP oO oO];omega
 have hne1:¬((m-a:Nat):Int)=1:=oO;have hne2:¬((b-m:Nat):Int)=1:=oO;have e1:aY.wrap ((a:Int)+(b:Int))=(a:Int)+(b:Int):=wrap_u64 oO oO;have e0:aL.wrap ((a:Int)+(b:Int))=(a:Int)+(b:Int):=wrap_i64 oO oO;have e2:((a:Int)+(b:Int)).fdiv (2^min 1 64)=(mid:Int):=by rw[show(2:Int)^min 1 64=2 from rfl,dU _ oO];omega
 have e3:aL.wrap (mid:Int)=(mid:Int):=wrap_i64 oO oO;have e4:aL.wrap ((mid:Int)+(m:Int))=(n:Int):=by rw[dP oO oO];omega
 have e5:aL.wrap ((n:Int)-1)=((n-1:Nat):Int):=by rw[dP oO oO];omega
 have uU:=fP hid i0 i1 i2 i3 i4 wma wbm (AO hne1 hne2 e0 e1 e2 e3 e4 e5);refine fJ ?_;apply zN;refine gW rfl ?_;refine gW rfl ?_;(refine pN rfl [0,1,2,3,4,10,11,12,13,14,15,16,17,18,19,20,21,22,23,24,28,33,50,58,80,85,103,110,140,151,171,185,199,213] rfl rfl (λ K hK=>?_));simp-dsimp-implicitDefEqProofs (disch:=omega)only[go_sem,gY,hid,i0,i1,i2,i3,i4,wma,wbm,hne1,hne2,e0,e1,e2,e3,e4,e5,eq_self,↓reduceIte];(refine hK _ _ _ _ (λ hx=>?_));clear hx hK;simp-dsimp-implicitDefEqProofs (disch:=omega)only[go_sem,gY,hid,i0,i1,i2,i3,i4,wma,wbm,hne1,hne2,e0,e1,e2,e3,e4,e5,eq_self,↓reduceIte];clear K;refine tK rfl _ rfl (λ ht=>?_) (λ ht=>?_);.exact absurd (eq_of_beq ht) hne1
 refine AB rfl ?_;refine fJ ?_;apply zN;refine gW rfl ?_;refine gW rfl ?_;(refine pN rfl [0,1,2,3,4,10,11,12,13,14,15,16,17,18,19,20,21,22,23,24,28,33,50,58,80,85,103,110,140,151,171,185,199,213] rfl rfl (λ K hK=>?_));simp-dsimp-implicitDefEqProofs (disch:=omega)only[go_sem,gY,hid,i0,i1,i2,i3,i4,wma,wbm,hne1,hne2,e0,e1,e2,e3,e4,e5,eq_self,↓reduceIte];(refine hK _ _ _ _ (λ hx=>?_));clear hx hK;simp-dsimp-implicitDefEqProofs (disch:=omega)only[go_sem,gY,hid,i0,i1,i2,i3,i4,wma,wbm,hne1,hne2,e0,e1,e2,e3,e4,e5,eq_self,↓reduceIte];clear K;refine tK rfl _ rfl (λ ht=>?_) (λ ht=>?_);.exact absurd (eq_of_beq ht) hne2
 refine AB rfl ?_;refine fJ ?_;apply zN;refine gW rfl ?_;(refine pN rfl [0,1,2,3,4,10,11,12,13,14,15,16,17,18,19,20,21,22,23,24,28,33,50,58,80,85,103,110,140,151,171,185,199,213] rfl rfl (λ K hK=>?_));simp-dsimp-implicitDefEqProofs (disch:=omega)only[go_sem,gY,hid,i0,i1,i2,i3,i4,wma,wbm,hne1,hne2,e0,e1,e2,e3,e4,e5,eq_self,↓reduceIte];(refine hK _ _ _ _ (λ hx=>?_));clear hx hK;simp-dsimp-implicitDefEqProofs (disch:=omega)only[go_sem,gY,hid,i0,i1,i2,i3,i4,wma,wbm,hne1,hne2,e0,e1,e2,e3,e4,e5,eq_self,↓reduceIte];clear K;refine gW rfl ?_;(refine pN rfl [0,1,2,3,4,10,11,12,13,14,15,16,17,18,19,20,21,22,23,24,28,33,50,58,80,85,103,110,140,151,171,185,199,213] rfl rfl (λ K hK=>?_));simp-dsimp-implicitDefEqProofs (disch:=omega)only[go_sem,gY,hid,i0,i1,i2,i3,i4,wma,wbm,hne1,hne2,e0,e1,e2,e3,e4,e5,eq_self,↓reduceIte];(refine hK _ _ _ _ (λ hx=>?_));clear hx hK;simp-dsimp-implicitDefEqProofs (disch:=omega)only[go_sem,gY,hid,i0,i1,i2,i3,i4,wma,wbm,hne1,hne2,e0,e1,e2,e3,e4,e5,eq_self,↓reduceIte];clear K;refine gW rfl ?_;(refine pN rfl [0,1,2,3,4,10,11,12,13,14,15,16,17,18,19,20,21,22,23,24,28,33,50,58,80,85,103,110,140,151,171,185,199,213] rfl rfl (λ K hK=>?_));simp-dsimp-implicitDefEqProofs (disch:=omega)only[go_sem,gY,hid,i0,i1,i2,i3,i4,wma,wbm,hne1,hne2,e0,e1,e2,e3,e4,e5,eq_self,↓reduceIte];(refine hK _ _ _ _ (λ hx=>?_));clear hx hK;simp-dsimp-implicitDefEqProofs (disch:=omega)only[go_sem,gY,hid,i0,i1,i2,i3,i4,wma,wbm,hne1,hne2,e0,e1,e2,e3,e4,e5,eq_self,↓reduceIte];clear K;refine FI (X:=Unit) rfl [0,1,2,3,4,10,11,12,13,14,15,16,17,18,19,20,21,22,23,24,28,33,50,58,80,85,103,110,140,151,171,185,199,213] k (λ _=>[(20,s0),(21,r0)]) (λ _=>[(id,⟨8,aB,R⟩)]) (λ _=>True) ?_ ?_
 .by_cases q1:mid<m
  .have q1':(mid:Int)<(m:Int):=oO;have w1:aL.wrap ((n:Int)-(b:Int))=(s0:Int):=by rw[dP oO oO,es0,iP q1];omega
   have w2:mid=r0:=by rw[er0,iP q1]
   have uU:=AO hid i0 i1 i2 i3 i4 q1' w1;refine fJ ?_;apply zN;have kp:Kp [0,1,2,3,4,10,11,12,13,14,15,16,17,18,19,20,21,22,23,24,28,33,50,58,80,85,103,110,140,151,171,185,199,213] (λ i=>if k<=i then i-k+1 else 0):=jZ;refine fC ?_;refine dI λ ht=>?_;refine⟨(),?_⟩;rw[<-w2];exact gM
  have q1':¬(mid:Int)<(m:Int):=oO;have w1:a=s0:=by rw[es0,iN q1]
  have w2:m=r0:=by rw[er0,iN q1]
  have uU:=xC hid i0 i1 i2 i3 i4 q1';refine fJ ?_;apply zN;have kp:Kp [0,1,2,3,4,10,11,12,13,14,15,16,17,18,19,20,21,22,23,24,28,33,50,58,80,85,103,110,140,151,171,185,199,213] (λ i=>if k<=i then i-k+1 else 0):=jZ;refine fC ?_;refine dI λ ht=>?_;refine⟨(),?_⟩;rw[<-w1,<-w2];exact gM
 rintro _ _;have uU:=xC hid i0 i1 i2 i3 i4 e5;refine fJ ?_;apply zN;have kp:Kp [0,1,2,3,4,10,11,12,13,14,15,16,17,18,19,20,21,22,23,24,28,33,50,58,80,85,103,110,140,151,171,185,199,213] (λ i=>if k<=i then i-k+1 else 0):=jZ;refine fC ?_;refine cA ?_;refine bY (X:=Nat×Nat×Nat) rfl [0,1,2,3,4,10,11,12,13,14,15,16,17,18,19,20,21,22,23,24,28,33,50,58,80,85,103,110,140,151,171,185,199,213] k (λ x=>[(20,x.1),(21,x.2.1)]) (λ x=>[(id,⟨8,aB,R⟩)]) (λ x=>s0<=x.1/\x.1<=x.2.1/\x.2.1<=r0/\x.2.1-x.1<=x.2.2/\DY p x.2.2 x.1 x.2.1=B) (λ x=>x.2.1-x.1) (s0,r0,b-a) ?_ ⟨by simp only;omega,by simp only;omega,by simp only;omega,by simp only;omega,eB.symm⟩ ?_;.refine fJ ?_;apply zN;exact gM
 rintro⟨i,j,f⟩ ⟨hi1,hi2,hi3,hf,hbs⟩;simp only at hi1 hi2 hi3 hf hbs;simp only;by_cases hij:i<j
 .obtain⟨f,rfl⟩:∃f',f=f'+1:=⟨f-1,oO⟩;have e1:aY.wrap ((i:Int)+(j:Int))=(i:Int)+(j:Int):=wrap_u64 oO oO;have e0:aL.wrap ((i:Int)+(j:Int))=(i:Int)+(j:Int):=wrap_i64 oO oO;have e2:((i:Int)+(j:Int)).fdiv (2^min 1 64)=(((i+j)/2:Nat):Int):=by rw[show(2:Int)^min 1 64=2 from rfl,dU _ oO];omega
  obtain⟨h,eh⟩:∃h,h=(i+j)/2:=⟨_,rfl⟩;rw[<-eh]at e2;have e3:aL.wrap (h:Int)=(h:Int):=wrap_i64 oO oO;have e4:aL.wrap ((h:Int)+1)=(h:Int)+1:=wrap_i64 oO oO;have hij':(i:Int)<(j:Int):=oO;have wp:aL.wrap (((n-1:Nat):Int)-(h:Int))=((n-1-h:Nat):Int):=by rw[dP oO oO];omega
  obtain⟨g,eg⟩:∃g,g=n-1-h:=⟨_,rfl⟩;rw[<-eg]at wp;have gh:=rV (L:=l) (i:=h) oO;obtain⟨y,ey⟩:∃y,y=l.getD h gX:=⟨_,rfl⟩;rw[<-eR,<-ey]at gh;have gg:=rV (L:=l) (i:=g) oO;obtain⟨x,ex⟩:∃x,x=l.getD g gX:=⟨_,rfl⟩;rw[<-eR,<-ex]at gg;simp only[tR]at gh gg;have bh:h<N:=oO;have bg:g<N:=oO;have hcc:=aLI (Γ:=Γ) x y;obtain⟨v,ev⟩:∃v,v=aL.wrap (Tk.id x-Tk.id y):=⟨_,rfl⟩;rw[<-ev]at hcc;have hlv:iO x y=decide (v<0):=by rw[iO,ev]
  simp only[tR]at hcc;by_cases hv:v<0
  .have hp:p h=aE:=by rw[ep];simp only;rw[<-eg,<-ey,<-ex,hlv];simp[hv]
   rw[aHF hij eh hp]at hbs;have uU:=fP hid i0 i1 i2 i3 i4 e0 e1 (fP e2 e3 e4 hij' hv wp gh gg (tZ bh bg hRl));refine fJ ?_;apply zN;refine fC ?_;refine dI λ ht=>?_;refine YO [.ret v] ?_;refine cA ?_;refine fC ?_;refine dI λ ht=>?_;refine⟨(i,h,f),⟨hi1,by simp only;omega,by simp only;omega,by simp only;omega,hbs⟩,by simp only;omega,?_⟩;simp only;exact gM
  have hp:p h=aB:=by rw[ep];simp only;rw[<-eg,<-ey,<-ex,hlv];simp[hv]
  rw[aHE hij eh hp]at hbs;have uU:=fP hid i0 i1 i2 i3 i4 e0 e1 (fP e2 e3 e4 hij' hv wp gh gg (tZ bh bg hRl));refine fJ ?_;apply zN;refine fC ?_;refine dI λ ht=>?_;refine YO [.ret v] ?_;refine cA ?_;refine fC ?_;refine dI λ ht=>?_;refine⟨(h+1,j,f),⟨by simp only;omega,by simp only;omega,hi3,by simp only;omega,hbs⟩,by simp only;omega,?_⟩;simp only;rw[(oO:((h+1:Nat):Int)=(h:Int)+1)];exact gM
 have hij':¬(i:Int)<(j:Int):=oO;rw[XR hij]at hbs;have wen:aL.wrap ((n:Int)-(B:Int))=(en':Int):=by rw[dP oO oO];omega
 rw[hbs];have uU:=xC hid i0 i1 i2 i3 i4 wen;refine fJ ?_;apply zN;refine gW rfl ?_;refine gW rfl ?_;(refine pN rfl [0,1,2,3,4,10,11,12,13,14,15,16,17,18,19,20,21,22,23,24,28,33,50,58,80,85,103,110,140,151,171,185,199,213] rfl rfl (λ K hK=>?_));simp-dsimp-implicitDefEqProofs (disch:=omega)only[go_sem,gY,hid,i0,i1,i2,i3,i4,wen,eq_self,↓reduceIte];(refine hK _ _ _ _ (λ hx=>?_));clear hx hK;simp-dsimp-implicitDefEqProofs (disch:=omega)only[go_sem,gY,hid,i0,i1,i2,i3,i4,wen,eq_self,↓reduceIte];clear K;refine tK rfl _ rfl (λ ht=>?_) (λ ht=>?_);.simp only[dTt]at ht;omega
 refine FK rfl ?_;refine fJ ?_;apply zN;refine gW rfl ?_;(refine pN rfl [0,1,2,3,4,10,11,12,13,14,15,16,17,18,19,20,21,22,23,24,28,33,50,58,80,85,103,110,140,151,171,185,199,213] rfl rfl (λ K hK=>?_));simp-dsimp-implicitDefEqProofs (disch:=omega)only[go_sem,gY,hid,i0,i1,i2,i3,i4,wen,eq_self,↓reduceIte];(refine hK _ _ _ _ (λ hx=>?_));clear hx hK;simp-dsimp-implicitDefEqProofs (disch:=omega)only[go_sem,gY,hid,i0,i1,i2,i3,i4,wen,eq_self,↓reduceIte];clear K;refine FI (X:=Unit) rfl [0,1,2,3,4,10,11,12,13,14,15,16,17,18,19,20,21,22,23,24,28,33,50,58,80,85,103,110,140,151,171,185,199,213] k (λ _=>[]) (λ _=>[(id,⟨8,aB,l1.map tR⟩)]) (λ _=>True) ?_ ?_
 .by_cases q1:B<m
  .have q1':(B:Int)<(m:Int):=oO;by_cases q2:m<en';.have q2':(m:Int)<(en':Int):=oO;have hT:=hrot q1 q2;rw[<-eR]at hT;have uU:=AO hid i0 i1 i2 i3 i4 q1' q2';refine fJ ?_;apply zN;refine fC ?_;refine dI λ ht=>?_;refine pP [.gen (.tup []) k [(id,⟨8,aB,R⟩)] [(id,⟨8,aB,l1.map tR⟩)]] ?_;refine cA ?_;refine⟨(),?_⟩;exact gM
   have q2':¬(m:Int)<(en':Int):=oO;have e:l1=l:=by rw[el1];exact iN λ h=>q2 h.2
   have uU:=AO hid i0 i1 i2 i3 i4 q1' q2';refine fJ ?_;apply zN;refine fC ?_;refine dI λ ht=>?_;refine⟨(),?_⟩;rw[e,<-eR];exact gM
  have q1':¬(B:Int)<(m:Int):=oO;have e:l1=l:=by rw[el1];exact iN λ h=>q1 h.1
  have uU:=xC hid i0 i1 i2 i3 i4 q1';refine fJ ?_;apply zN;refine fC ?_;refine dI λ ht=>?_;refine⟨(),?_⟩;rw[e,<-eR];exact gM
 rintro _ _;refine FI (X:=Unit) rfl [0,1,2,3,4,10,11,12,13,14,15,16,17,18,19,20,21,22,23,24,28,33,50,58,80,85,103,110,140,151,171,185,199,213] k (λ _=>[]) (λ _=>[(id,⟨8,aB,l2.map tR⟩)]) (λ _=>True) ?_ ?_
 .by_cases q1:a<B
  .have q1':(a:Int)<(B:Int):=oO;by_cases q2:B<mid
   .have q2':(B:Int)<(mid:Int):=oO;have hT:=hsy1 q1 q2;skip
    have uU:=AO hid i0 i1 i2 i3 i4 q1' q2';refine fJ ?_;apply zN;refine fC ?_;refine dI λ ht=>?_;refine pP [.gen (.tup []) k [(id,⟨8,aB,l1.map tR⟩)] [(id,⟨8,aB,l2.map tR⟩)]] ?_;refine cA ?_;refine⟨(),?_⟩;exact gM
   have q2':¬(B:Int)<(mid:Int):=oO;have e:l2=l1:=by rw[el2];exact iN λ h=>q2 h.2
   have uU:=AO hid i0 i1 i2 i3 i4 q1' q2';refine fJ ?_;apply zN;refine fC ?_;refine dI λ ht=>?_;refine⟨(),?_⟩;rw[e];exact gM
  have q1':¬(a:Int)<(B:Int):=oO;have e:l2=l1:=by rw[el2];exact iN λ h=>q1 h.1
  have uU:=xC hid i0 i1 i2 i3 i4 q1';refine fJ ?_;apply zN;refine fC ?_;refine dI λ ht=>?_;refine⟨(),?_⟩;rw[e];exact gM
 rintro _ _;by_cases q1:mid<en'
 .have q1':(mid:Int)<(en':Int):=oO;by_cases q2:en'<b
  .have q2':(en':Int)<(b:Int):=oO;have hT:=hsy2 q1 q2;skip
   have uU:=AO hid i0 i1 i2 i3 i4 q1' q2';refine fJ ?_;apply zN;refine fC ?_;refine dI λ ht=>?_;refine pP [.gen (.tup []) k [(id,⟨8,aB,l2.map tR⟩)] [(id,⟨8,aB,l3.map tR⟩)]] ?_;refine cA ?_;exact⟨_,rfl,rfl⟩
  have q2':¬(en':Int)<(b:Int):=oO;have e:l3=l2:=by rw[el3];exact iN λ h=>q2 h.2
  have uU:=AO hid i0 i1 i2 i3 i4 q1' q2';refine fJ ?_;apply zN;refine fC ?_;refine dI λ ht=>?_;refine⟨_,rfl,rfl,?_⟩;rw[e];skip
 have q1':¬(mid:Int)<(en':Int):=oO;have e:l3=l2:=by rw[el3];exact iN λ h=>q1 h.1
 have uU:=xC hid i0 i1 i2 i3 i4 q1';refine fJ ?_;apply zN;refine fC ?_;refine dI λ ht=>?_;refine⟨_,rfl,rfl,?_⟩;rw[e];skip
theorem aDX(k id:Nat)(hid:id<k):∀(f:Nat) (l:List Tk) (a m b:Nat),a<m->m<b->b<=l.length->b-a<=f->l.length<=100000→
 AM.Tr aD Γ 209 k [.sl id 0 l.length,a,m,b,.fn 69 []] [(id,⟨8,aB,l.map tR⟩)]
  (λ k1 r1 H1=>k1=k/\r1= .tup []/\H1=[(id,⟨8,aB,(rW gX iO f l a m b).map tR⟩)])
 |0,l,a,m,b,h1,h2,h3,h4,hl=>oO
 |f+1,l,a,m,b,h1,h2,h3,h4,hl=>by
  by_cases hA:m=a+1;.have h:=a7B (Γ:=Γ) l a m b hA h2 h3 hl k id hid;rw[rW,iP oO];exact h
  by_cases hB:b=m+1;.have h:=a7A (Γ:=Γ) l a m b oO hB h3 hl k id hid;rw[rW,iN oO,iP oO];exact h
  exact a6Z f l a m b oO oO h3 h4 hl k id hid λ l a m b h1 h2 h3 h4 hl=>aDX k id hid f l a m b h1 h2 h3 h4 hl
theorem aUN{l:List Tk}{a b:Nat}(h:b<=l.length):(EU gX iO l a b).length=l.length:=(xS h).length_eq
theorem a3Y{l:List Tk}{q:Nat}(h:20*q<=l.length):(blk gX iO l q).length=l.length:=(QA h).length_eq
theorem a0N{l:List Tk}{s q:Nat}(hs:0<s)(h:2*s*q<=l.length):(YL gX iO s l q).length=l.length:=(NZ hs h).length_eq
theorem aSP{l:List Tk}{s:Nat}(hs:0<s):(RB gX iO s l).length=l.length:=(SZ hs).length_eq
theorem a7D(l:List Tk)(hl:l.length<=100000)(k id:Nat)(hid:id<k):
 AM.Tr aD Γ 127 k [.sl id 0 l.length,l.length,.fn 69 []] [(id,⟨8,aB,l.map tR⟩)]
  (λ k1 r1 H1=>k1=k/\r1= .tup []/\H1=[(id,⟨8,aB,(IM gX iO l).map tR⟩)]):=by
 have i0:¬id=k:=oO;have i4:∀q,id<k+q:=λ q=>oO;have i1:∀q,¬id=k+q:=λ q=>oO;have i2:¬k=id:=oO;have i3:∀q,¬k+q=id:=λ q=>oO;obtain⟨N,eN⟩:∃N,N=l.length:=⟨_,rfl⟩;rw[<-eN];refine cN Tryz.func127 rfl 63 rfl bB ?_;have kp:Kp [0,1,2,6,7,8,9,13,30,35,54] (λ i=>if k<=i then i-k+1 else 0):=jZ;have uU:=rA hid i0 i1 i2 i3 i4;refine fC ?_;refine cA ?_;refine bY (X:=Nat) rfl [0,1,2,6,7,8,9,13,30,35,54] k (λ q=>[(7,(20*q:Nat)),(8,(20*(q+1):Nat))]) (λ q=>[(id,⟨8,aB,(blk gX iO l q).map tR⟩)]) (λ q=>20*q<=N) (λ q=>N-20*q) 0 ?_ (aZ _) ?_;.rw[show blk gX iO l 0=l from rfl,show((20*0:Nat):Int)=0 from rfl,show((20*(0+1):Nat):Int)=20 from rfl];refine fJ ?_;apply zN;exact gM
 intro q hq;obtain⟨L,eL⟩:∃L,L=blk gX iO l q:=⟨_,rfl⟩;have hL:L.length=N:=by rw[eL,a3Y oO,eN]
 have hnx:blk gX iO l (q+1)=EU gX iO L (20*q) (20*(q+1)):=by rw[blk,eL,Nat.mul_succ]
 rw[<-eL];obtain⟨A,eA⟩:∃A,A=20*q:=⟨_,rfl⟩;obtain⟨B,eB⟩:∃B,B=20*(q+1):=⟨_,rfl⟩;rw[<-eB,<-eA]at hnx;rw[<-eB,<-eA];by_cases hlt:B<=N
 .have hlt':(B:Int)<=(N:Int):=oO;have hT:=aUM (Γ:=Γ) L A B oO oO oO k id hid;rw[hL]at hT;obtain⟨C,eC⟩:∃C,C=B+20:=⟨_,rfl⟩;have wB:aL.wrap ((B:Int)+20)=(C:Int):=by rw[dP oO oO];omega
  have uU:=AO hid i0 i1 i2 i3 i4 hlt' wB;refine fJ ?_;apply zN;refine fC ?_;refine dI λ ht=>?_;refine pP [.gen (.tup []) k [(id,⟨8,aB,L.map tR⟩)] [(id,⟨8,aB,(EU gX iO L A B).map tR⟩)]] ?_;refine cA ?_;refine fC ?_;refine cA ?_;refine⟨q+1,oO,oO,?_⟩;rw[hnx,(oO:20*(q+1+1)=C),<-eB];exact gM
 have hlt':¬(B:Int)<=(N:Int):=oO;have hq20:q=N/20:=oO;have hT:=aUM (Γ:=Γ) L A N oO oO oO k id hid;rw[hL]at hT;obtain⟨L0,eL0⟩:∃L0,L0=EU gX iO L A N:=⟨_,rfl⟩;have hL0:L0.length=N:=by rw[eL0,aUN oO,hL]
 rw[<-eL0]at hT;have hst:IM gX iO l=xL gX iO N 20 L0:=by rw[IM,<-eN,<-hq20,<-eL,<-eA,eL0]
 rw[hst];have uU:=xC hid i0 i1 i2 i3 i4 hlt';refine fJ ?_;apply zN;refine fC ?_;refine dI λ ht=>?_;refine pP [.gen (.tup []) k [(id,⟨8,aB,L.map tR⟩)] [(id,⟨8,aB,L0.map tR⟩)]] ?_;refine cA ?_;refine fC ?_;refine cA ?_;refine bY (X:=Nat×Nat×List Tk×Int×Int) rfl [0,1,2,6,7,8,9,13,30,35,54] k (λ x=>[(6,x.1),(7,x.2.2.2.1),(8,x.2.2.2.2)]) (λ x=>[(id,⟨8,aB,x.2.2.1.map tR⟩)]) (λ x=>x.2.2.1.length=N/\0<x.1/\N<=x.1+x.2.1/\xL gX iO x.2.1 x.1 x.2.2.1=xL gX iO N 20 L0) (λ x=>x.2.1) (20,N,L0,(A:Int),(B:Int)) ?_ ⟨hL0,by simp only;omega,by simp only;omega,rfl⟩ ?_;.refine fJ ?_;apply zN;exact gM
 rintro⟨s,f,M,o7,o8⟩ ⟨hM,hs,hf,hps⟩;simp only at hM hs hf hps;simp only;by_cases hsN:s<N
 .obtain⟨f,rfl⟩:∃f',f=f'+1:=⟨f-1,oO⟩;rw[xL,iP (by rw[hM];exact hsN)]at hps;obtain⟨P,eP⟩:∃P,P=RB gX iO s M:=⟨_,rfl⟩;have hP:P.length=N:=by rw[eP,aSP hs,hM]
  obtain⟨d,ed⟩:∃d,d=2*s:=⟨_,rfl⟩;rw[<-eP,<-ed]at hps;have hsN':(s:Int)<(N:Int):=oO;have w2:aL.wrap (2*(s:Int))=(d:Int):=by rw[dP oO oO];omega
  have w3:aL.wrap ((s:Int)*2)=(d:Int):=by rw[dP oO oO];omega
  have uU:=fP hid i0 i1 i2 i3 i4 hsN' w2 w3;refine fJ ?_;apply zN;refine fC ?_;refine dI λ ht=>?_;refine bY (X:=Nat) rfl [0,1,2,6,7,8,9,13,30,35,54] k (λ q=>[(7,(d*q:Nat)),(8,(d*(q+1):Nat))]) (λ q=>[(id,⟨8,aB,(YL gX iO s M q).map tR⟩)]) (λ q=>d*q<=N) (λ q=>N-d*q) 0 ?_ (aZ _) ?_;.rw[show YL gX iO s M 0=M from rfl,Nat.mul_zero,fH,HW];refine fJ ?_;apply zN;exact gM
  clear hnx eL hL;intro q hq;obtain⟨L,eL⟩:∃L,L=YL gX iO s M q:=⟨_,rfl⟩;have hL:L.length=N:=by rw[eL,a0N hs (by rw[<-ed,hM];exact hq),hM]
  have hnx:YL gX iO s M (q+1)=rW gX iO N L (d*q) (d*q+s) (d*q+d):=by rw[YL,<-eL,hM,ed]
  obtain⟨A,eA⟩:∃A,A=d*q:=⟨_,rfl⟩;have hmul:d*(q+1)=A+d:=by rw[Nat.mul_succ,eA]
  rw[<-eA]at hnx hq;rw[hmul,<-eA,<-eL];obtain⟨B,eB⟩:∃B,B=A+d:=⟨_,rfl⟩;obtain⟨C,eC⟩:∃C,C=A+s:=⟨_,rfl⟩;rw[<-eB]at hnx hmul;rw[<-eC]at hnx;rw[<-eB];have wC:aL.wrap ((A:Int)+(s:Int))=(C:Int):=by rw[dP oO oO];omega
  by_cases hb:B<=N
  .have hb':(B:Int)<=(N:Int):=oO;have hT:=aDX (Γ:=Γ) k id hid N L A C B oO oO oO oO oO;rw[hL]at hT;obtain⟨D,eD⟩:∃D,D=B+d:=⟨_,rfl⟩;have hmul2:d*(q+1+1)=D:=by rw[Nat.mul_succ,hmul,eD]
   have wD:aL.wrap ((B:Int)+(d:Int))=(D:Int):=by rw[dP oO oO];omega
   have uU:=fP hid i0 i1 i2 i3 i4 hb' w2 (tZ w3 wC wD);refine fJ ?_;apply zN;refine fC ?_;refine dI λ ht=>?_;refine pP [.gen (.tup []) k [(id,⟨8,aB,L.map tR⟩)] [(id,⟨8,aB,(rW gX iO N L A C B).map tR⟩)]] ?_;refine cA ?_;refine fC ?_;refine cA ?_;refine⟨q+1,by rw[hmul];omega,by rw[hmul];omega,?_⟩;rw[hnx,hmul2,hmul];exact gM
  have hb':¬(B:Int)<=(N:Int):=oO;have hqd:q=N/d:=(Nat.div_eq_of_lt_le (by rw[iW,<-eA];exact hq) (by rw[iW,hmul];omega)).symm;have hpass:P=if C<N then rW gX iO N L A C N else L:=by rw[eP,RB,hM,<-ed,<-hqd,<-eA,<-eC,<-eL]
  by_cases hc:C<N;.have hc':(C:Int)<(N:Int):=oO;have hT:=aDX (Γ:=Γ) k id hid N L A C N oO oO oO oO oO;rw[iP hc]at hpass;rw[<-hpass,hL]at hT;have uU:=fP hid i0 i1 i2 i3 i4 hb' w2 (tZ w3 wC hc');refine fJ ?_;apply zN;refine fC ?_;refine oU ⟨λ ht ht=>zN ?_⟩;refine pP [.gen (.tup []) k [(id,⟨8,aB,L.map tR⟩)] [(id,⟨8,aB,P.map tR⟩)]] ?_;refine cA ?_;refine fC ?_;refine cA ?_;refine⟨(d,f,P,(A:Int),(B:Int)),⟨hP,by simp only;omega,by simp only;omega,hps⟩,by simp only;omega,?_⟩;simp only;exact gM
  have hc':¬(C:Int)<(N:Int):=oO;rw[iN hc]at hpass;have uU:=fP hid i0 i1 i2 i3 i4 hb' w2 (tZ w3 wC hc');refine fJ ?_;apply zN;refine fC ?_;refine oU ⟨λ ht ht=>zN ?_⟩;refine⟨(d,f,P,(A:Int),(B:Int)),⟨hP,by simp only;omega,by simp only;omega,hps⟩,by simp only;omega,?_⟩;simp only;rw[hpass];exact gM
 have hsN':¬(s:Int)<(N:Int):=oO
 have hM':M=xL gX iO N 20 L0:=by
  rw[<-hps]
  cases f with
  |zero=>rfl
  |succ f=>rw[xL,iN (by rw[hM];exact hsN)]
 have uU:=xC hid i0 i1 i2 i3 i4 hsN';refine fJ ?_;apply zN;refine fC ?_;refine dI λ ht=>?_;refine⟨_,rfl,rfl,?_⟩;rw[hM']
theorem VK(l:List Tk)(hl:l.length<=100000)(k id:Nat)(hid:id<k):
 AM.Tr aD Γ 68 k [.sl id 0 l.length,.fn 69 []] [(id,⟨8,aB,l.map tR⟩)]
  (λ k1 r1 H1=>k1=k/\r1= .tup []/\H1=[(id,⟨8,aB,(IM gX iO l).map tR⟩)]):=by
 have i0:¬id=k:=oO;have i4:∀q,id<k+q:=λ q=>oO;have i1:∀q,¬id=k+q:=λ q=>oO;have i2:¬k=id:=oO;have i3:∀q,¬k+q=id:=λ q=>oO;have hT:=a7D (Γ:=Γ) l hl k id hid;obtain⟨N,eN⟩:∃N,N=l.length:=⟨_,rfl⟩;rw[<-eN]at hT⊢
 refine cN Tryz.func68 rfl 9 rfl bB ?_;have kp:=gZ k [0,1];have uU:=rA hid i0 i1 i2 i3 i4;refine fC ?_;refine cA ?_;refine pP [.gen (.tup []) k [(id,⟨8,aB,l.map tR⟩)] [(id,⟨8,aB,(IM gX iO l).map tR⟩)]] ?_;refine cA ?_;exact⟨_,rfl,rfl⟩
theorem uC(n:Nat)(f g:Nat->Int):(tM n f g).length=n:=by simp[tM]
theorem BH{n i:Nat}{f g:Nat->Int}(h:i<n):(tM n f g)[i]? =aA [.lit (.int .i64 (f i)),.lit (.int .i64 (g i))]:=by simp[tM,h]
theorem aMY{n i:Nat}{f g:Nat->Int}{v:Int}:(tM n f g).set i [.lit (.int .i64 (f i)),.lit (.int .i64 v)]=tM n f (yM g i v):=dZ λ j=>by
 rw[dD];by_cases hj:j<n
 .by_cases e:i=j;.subst e;rw[iP rfl,uC,iP hj,BH hj];simp[yM]
  rw[iN e,BH hj,BH hj];simp[yM,Ne.symm e]
 rw[aX (l:=tM n f (yM g i v)) (by rw[uC];omega)];split;.rw[uC,iN oO]
 exact aX (by rw[uC];omega)
theorem uA(n:Nat)(f:Nat->Sp):(pY n f).length=n:=by simp[pY]
theorem BG{n i:Nat}{f:Nat->Sp}(h:i<n):(pY n f)[i]? =aA [.lit (.int .u64 (f i).v),.lit (.int .u32 (f i).r),.lit (.int .u64 (f i).floor)]:=by simp[pY,h]
theorem aMW{n c:Nat}{f:Nat->Nat->Sp}{g:Nat}{v:Sp}:(pY n (f g)).set c [.lit (.int .u64 v.v),.lit (.int .u32 v.r),.lit (.int .u64 v.floor)]=pY n (BC f g c v g):=dZ λ j=>by
 rw[dD];by_cases hj:j<n
 .by_cases e:c=j;.subst e;rw[iP rfl,uA,iP hj,BG hj];simp[BC]
  rw[iN e,BG hj,BG hj];simp[BC,Ne.symm e]
 rw[aX (l:=pY n (BC f g c v g)) (by rw[uA];omega)];split;.rw[uA,iN oO]
 exact aX (by rw[uA];omega)
theorem aVH{n c:Nat}{f:Nat->Nat->Sp}{g:Nat}{v:Sp}:(λ j=>if j=g then pY n (BC f g c v g)else pY n (f j))=λ j=>pY n (BC f g c v j):=funext λ j=>by
 by_cases e:j=g;.subst e;rw[iP rfl]
 rw[iN e];congr 1;funext c';simp[BC,e]
theorem aWL{b ns n g:Nat}(h:g<ns):(sY b ns n ns)[g]? =aA [.sl (b+g) 0 n]:=by rw[sG];simp[h]
theorem aNU{k a s n g:Nat}{R:Nat->List (List AVal)}(h:g<n):AM.look (mE (k+a) s n R) (k+(a+g))=aA ⟨s,aB,R g⟩:=by rw[<-gD];exact uV h
theorem aMS{k a s n g:Nat}{R:Nat->List (List AVal)}{rows:List (List AVal)}(h:g<n):xF (mE (k+a) s n R) (k+(a+g)) ⟨s,aB,rows⟩=mE (k+a) s n (λ j=>if j=g then rows else R j):=by rw[<-gD];exact NK h
attribute [local go_sem] aNU aMS
def mkW(s:St)(d:DE)(i:Nat):Nat->Int:=yN s.ng s.wt (pre d.wg i)
def mkS(s:St)(d:DE)(n i:Nat):Nat->Nat->Sp:=LA s.ns n s.sp (pre d.sp i)
theorem aPI(s:St)(n:Nat)(d:DE)(hd:d.size<=1000)(hn:0<n)(hn2:n<=1000)(e1:s.nk=n)(e2:s.nu=n)(e3:∀g,g<s.ns->s.nsp g=n)(h1:0<s.ng)(h2:s.ng<=1000)(h5:0<s.ns)(h6:s.ns<=1000)(h8:s.nt<=1000)
 (hright:AM.Pure aD Γ 24 [.agg s.cells] aB) (k:Nat) (POST:Nat->AVal->aO->Prop)
 (hrest:AM.W aD Γ 131 k (hY (gN Tryz.f22) [1,1,1,1,1,1,1,1,1,1]) (EQ aD Tryz.f22 POST) (k+3+(20+s.ns)+1) [(2,.rp s.cells),(3,.rp d.cells),(4,.ptr (k+2) 0 0),(5,(0:Int)),(6,.ptr (k+3) 0 0)] ((k+3,⟨7,aE,[[s.cpus,.lit (.int .u64 s.credit),.sl (k+16) 0 s.ng,.sl (k+17) 0 n,.sl (k+18) 0 n,.sl (k+19) 0 (mkT s d).length,.sl (k+20) 0 s.ns]]⟩)::(k+2,⟨7,aB,[[(0:Int),.lit (.int .u64 0),(),(),(),(),()]]⟩)::(k+16,⟨2,aB,tM s.ng s.par (mkW s d d.n2)⟩)::(k+17,⟨1,aB,jP n (yN n s.clk (pre d.ck d.n0))⟩)::(k+18,⟨1,aB,jP n (yN n s.cur (pre d.cu d.n1))⟩)::(k+19,⟨8,aB,(mkT s d).map tR⟩)::(k+20,⟨1,aE,sY (k+21) s.ns n s.ns⟩)::mE (k+21) 3 s.ns (λ g=>pY n ((mkS s d n d.n5) g)))):
 AM.Tr aD Γ 22 k [.agg s.cells,.agg d.cells] [] POST:=by
 have hd':=hd;unfold DE.size at hd;have hcp:=aWM (Γ:=Γ) s n hn hn2 e1 e2 e3 h1 h2 h5 h6 h8 (k+3);obtain⟨kx,hkx⟩:∃x,x=k+3+(20+s.ns):=⟨_,rfl⟩;rw[<-hkx]at hcp hrest;simp only[OC,OH,gD,YG]at hcp;obtain⟨C1,eC1⟩:∃f,f=yN n s.clk (pre d.ck d.n0):=⟨_,rfl⟩;obtain⟨U1,eU1⟩:∃f,f=yN n s.cur (pre d.cu d.n1):=⟨_,rfl⟩;have hp1:AM.Tr aD Γ 62 (kx+1) [.sl (k+17) 0 n,.rd 2 d.n0 d.f0] [(k+17,⟨1,aB,jP n s.clk⟩)] (λ k1 r1 H1=>k1=kx+1/\r1= .tup []/\H1=[(k+17,⟨1,aB,jP n C1⟩)]):=by rw[eC1];exact a5P n s.clk d.n0 d.ck oO oO (kx+1) (k+17) oO
 have hp2:AM.Tr aD Γ 62 (kx+1) [.sl (k+18) 0 n,.rd 2 d.n1 d.f1] [(k+18,⟨1,aB,jP n s.cur⟩)] (λ k1 r1 H1=>k1=kx+1/\r1= .tup []/\H1=[(k+18,⟨1,aB,jP n U1⟩)]):=by rw[eU1];exact a5P n s.cur d.n1 d.cu oO oO (kx+1) (k+18) oO
 rw[<-eC1,<-eU1]at hrest;have hcs:(sY (k+21) s.ns n s.ns).map (λ row=>row.map (AP kx (k+3)))=sY (k+21) s.ns n s.ns:=by rw[sG,jM];refine fD λ g hg=>?_;have:=dK.1 hg;simp only[Function.comp,bI,bQ,AP,sw];rw[iN oO,iN oO]
 obtain⟨sc,esc⟩:∃c,c=s.cells:=⟨_,rfl⟩;refine cN Tryz.func22 rfl 131 rfl bB ?_;refine gW rfl ?_;(refine pN rfl [0,1,2,3,4,5,6,8,10,11,12,15,30,31,32,33,47,73,74,75,76,102,128] rfl rfl (λ K hK=>?_));simp-dsimp-implicitDefEqProofs (disch:=omega)only[go_sem,gY,eq_self,↓reduceIte];(refine hK _ _ _ _ (λ hx=>?_));clear hx hK;simp-dsimp-implicitDefEqProofs (disch:=omega)only[go_sem,gY,eq_self,↓reduceIte];clear K;refine gL (gK (k) (by simp-dsimp-implicitDefEqProofs (disch:=omega)only[go_sem,gY,eq_self,↓reduceIte];rfl) rfl) ?_;simp-dsimp-implicitDefEqProofs only[pS,jA,go_sem,eq_self,↓reduceIte];refine gL (gK (k+1) (by simp-dsimp-implicitDefEqProofs (disch:=omega)only[go_sem,gY,eq_self,↓reduceIte];rfl) rfl) ?_;simp-dsimp-implicitDefEqProofs only[pS,jA,go_sem,eq_self,↓reduceIte];have kp:=gZ k [0,1,2,3,4,5,6,8,10,11,12,15,30,31,32,33,47,73,74,75,76,102,128];refine fC ?_;refine cA ?_;refine pP [.ret aB] ?_;refine iE ?_ ?_;all_goals(try exact hright)
 refine fC ?_;refine dI λ ht=>?_;refine pP [.far (.agg [s.cpus,.lit (.int .u64 s.credit),.sl (k+16) 0 s.ng,.sl (k+17) 0 n,.sl (k+18) 0 n,.sl (k+19) 0 s.nt,.sl (k+20) 0 s.ns]) kx [(k+2,⟨7,aB,[[(0:Int),.lit (.int .u64 0),(),(),(),(),()]]⟩)] [] ((k+16,⟨2,aB,tM s.ng s.par s.wt⟩)::(k+17,⟨1,aB,jP n s.clk⟩)::(k+18,⟨1,aB,jP n s.cur⟩)::(k+19,⟨8,aB,(mU s).map tR⟩)::(k+20,⟨1,aE,sY (k+21) s.ns n s.ns⟩)::mE (k+21) 3 s.ns (λ g=>pY n (s.sp g)))] ?_;refine CM (zs ?_) (zs ?_) (zs ?_) (zs ?_);.exact λ q=>rfl
 .exact λ q hq=>by
   rcases hq with hq|hq;.simp[eQ,AM.look]at hq
   have:k+16<=q:=by
    simp only[eQ,AM.look]at hq;repeat'(split at hq;(· omega))
    obtain⟨B,hB⟩:=fS.1 hq;have:=IZ hB;omega
   simp only[AM.look];repeat rw[iN oO]
 .exact hcp
 refine gL (Mv.swap kx (k+3) ⟨oO,oO⟩ ⟨oO,oO⟩) ?_;have uU:=hcs;refine fJ ?_;apply zN;have uU:=Go.AM.uU;refine fC ?_;refine cA ?_;refine pP [.gen (.tup []) (kx+1) [(k+17,⟨1,aB,jP n s.clk⟩)] [(k+17,⟨1,aB,jP n C1⟩)]] ?_;refine cA ?_;all_goals(try exact hp1)
 refine fC ?_;refine cA ?_;refine pP [.gen (.tup []) (kx+1) [(k+18,⟨1,aB,jP n s.cur⟩)] [(k+18,⟨1,aB,jP n U1⟩)]] ?_;refine cA ?_;all_goals(try exact hp2)
 refine fC ?_;refine cA ?_;refine bY (X:=Nat) rfl [0,1,2,3,4,5,6,8,10,11,12,15,30,31,32,33,47,73,74,75,76,102,128] (kx+1) (λ i=>[(32,i)]) (λ i=>(k+3,⟨7,aE,[[s.cpus,.lit (.int .u64 s.credit),.sl (k+16) 0 s.ng,.sl (k+17) 0 n,.sl (k+18) 0 n,.sl (k+19) 0 s.nt,.sl (k+20) 0 s.ns]]⟩)::(k+2,⟨7,aB,[[(0:Int),.lit (.int .u64 0),(),(),(),(),()]]⟩)::(k+16,⟨2,aB,tM s.ng s.par (mkW s d i)⟩)::(k+17,⟨1,aB,jP n C1⟩)::(k+18,⟨1,aB,jP n U1⟩)::(k+19,⟨8,aB,(mU s).map tR⟩)::(k+20,⟨1,aE,sY (k+21) s.ns n s.ns⟩)::mE (k+21) 3 s.ns (λ g=>pY n (s.sp g))) (λ i=>i<=d.n2) (λ i=>d.n2-i) 0 ?_ (aZ _) ?_;.rw[show mkW s d 0=s.wt from rfl];refine fJ ?_;apply zN;exact gM
 intro i hi;obtain⟨F,eF⟩:∃F,F=mkW s d i:=⟨_,rfl⟩;have hnx:mkW s d (i+1)=if 0<=(d.wg i).1/\(d.wg i).1<s.ng then yM F (d.wg i).1.toNat (d.wg i).2 else F:=by rw[mkW,OA,SX,eF];rfl
 rw[<-eF];by_cases hlt:i<d.n2
 .obtain⟨x,ex⟩:∃x,x=(d.wg i).1:=⟨_,rfl⟩;obtain⟨y,ey⟩:∃y,y=(d.wg i).2:=⟨_,rfl⟩;rw[<-ex,<-ey]at hnx;have ex':=ex.symm;have ey':=ey.symm;have hl:=uC s.ng s.par F;by_cases h0:0<=x
  .by_cases hx1:x<s.ng;.rw[iP ⟨h0,hx1⟩]at hnx;have g1:=BH (n:=s.ng) (f:=s.par) (g:=F) (i:=x.toNat) oO;have gs:=aMY (n:=s.ng) (f:=s.par) (g:=F) (i:=x.toNat) (v:=y);obtain⟨R,eR⟩:∃R,R=tM s.ng s.par F:=⟨_,rfl⟩;rw[<-eR]at hl g1 gs;rw[<-eR];have b1:x.toNat<s.ng:=oO;have uU:=AO hl g1 h0 hx1 b1 ex' ey' hlt;refine fJ ?_;apply zN;refine fC ?_;refine oU ⟨λ ht ht=>zN ?_⟩;refine⟨i+1,oO,oO,?_⟩;rw[hnx,<-gs,(oO:((i+1:Nat):Int)=(i:Int)+1)];exact gM
   rw[iN (λ h=>hx1 h.2)]at hnx;have uU:=rA hl h0 hx1 ex' ey' hlt;refine fJ ?_;apply zN;refine fC ?_;refine oU ⟨λ ht ht=>zN ?_⟩;refine⟨i+1,oO,oO,?_⟩;rw[hnx,(oO:((i+1:Nat):Int)=(i:Int)+1)];exact gM
  rw[iN (λ h=>h0 h.1)]at hnx;have uU:=ID hl h0 ex' ey' hlt;refine fJ ?_;apply zN;refine fC ?_;refine oU ⟨λ ht ht=>zN ?_⟩;refine⟨i+1,oO,oO,?_⟩;rw[hnx,(oO:((i+1:Nat):Int)=(i:Int)+1)];exact gM
 clear hnx;have hin:i=d.n2:=oO;rw[hin]at eF;obtain⟨W1,eW1⟩:∃W,W=mkW s d d.n2:=⟨_,rfl⟩;rw[<-eW1]at eF hrest;rw[eF];obtain⟨K0,eK0⟩:∃K,K=aTH s d:=⟨_,rfl⟩;have hK0:K0.length<=1000:=by rw[eK0];exact qX (bKU _ _) (by rw[LQ];exact h8)
 have hdf:=aOR (Γ:=Γ) (mU s) (by rw[LQ];omega) d oO (kx+1) (k+19) oO;rw[LQ]at hdf;have hK0e:((mU s).filter λ t=> !tH d t)=K0:=eK0.symm;rw[hK0e]at hdf;obtain⟨m,em⟩:∃m,m=K0.length:=⟨_,rfl⟩;rw[<-em]at hdf;have hnlt:¬(i:Int)<(d.n2:Int):=oO;have uU:=hnlt;refine fJ ?_;apply zN;refine fC ?_;refine dI λ ht=>?_;refine pP [.gen (.sl (k+19) 0 m) (kx+1) [(k+19,⟨8,aB,(mU s).map tR⟩)] [(k+19,⟨8,aB,K0.map tR⟩)]] ?_;refine iE ?_ ?_;all_goals(try exact hdf)
 refine FI (X:=Unit) rfl [0,1,2,3,4,5,6,8,10,11,12,15,30,31,32,33,47,73,74,75,76,102,128] (kx+1) (λ _=>[]) (λ _=>(k+3,⟨7,aE,[[s.cpus,.lit (.int .u64 s.credit),.sl (k+16) 0 s.ng,.sl (k+17) 0 n,.sl (k+18) 0 n,.sl (k+19) 0 (m+d.n4),.sl (k+20) 0 s.ns]]⟩)::(k+2,⟨7,aB,[[(0:Int),.lit (.int .u64 0),(),(),(),(),()]]⟩)::(k+16,⟨2,aB,tM s.ng s.par W1⟩)::(k+17,⟨1,aB,jP n C1⟩)::(k+18,⟨1,aB,jP n U1⟩)::(k+19,⟨8,aB,(K0++pre d.tk d.n4).map tR⟩)::(k+20,⟨1,aE,sY (k+21) s.ns n s.ns⟩)::mE (k+21) 3 s.ns (λ g=>pY n (s.sp g))) (λ _=>True) ?_ ?_
 .rcases a4U d.n4 with h4|h4
  .have e:K0++pre d.tk d.n4=K0:=by rw[h4];exact cZ _
   have uU:=h4;refine fJ ?_;apply zN;refine fC ?_;refine cA ?_;refine⟨(),?_⟩;rw[show K0++pre d.tk 0=K0 from cZ _];exact gM
  have hne4:¬d.n4=0:=oO;have erow:(aN d.n4).map d.f4=(pre d.tk d.n4).map tR:=by unfold pre;rw[jM];rfl
  have hone4:(((pre d.tk d.n4).map tR).all λ row=>row.all AM.one)=aB:=jG _ _ λ _=>rfl;have hKl:(K0.map tR).length=m:=by rw[cX,em]
  have hcs2:(sY (k+21) s.ns n s.ns).map (λ row=>row.map (AP (kx+1) (k+19)))=sY (k+21) s.ns n s.ns:=by rw[sG,jM];refine fD λ g hg=>?_;have:=dK.1 hg;simp only[Function.comp,bI,bQ,AP,sw];rw[iN oO,iN oO]
  have uU:=ID h4 hne4 erow hone4 hKl;refine fJ ?_;apply zN;refine fC ?_;refine cA ?_;refine⟨(),?_⟩;refine Mv.trans (Mv.swap (kx+1) (k+19) ⟨oO,oO⟩ ⟨oO,oO⟩) ?_;rw[aM];have uU:=hcs2;refine fJ ?_;apply zN;exact gM
 rintro _ _;obtain⟨L1,eL1⟩:∃L,L=K0++pre d.tk d.n4:=⟨_,rfl⟩;have hL1:L1.length=m+d.n4:=by rw[eL1,bM,<-em];simp[pre]
 rw[<-eL1];have hso:=VK (Γ:=Γ) L1 oO (kx+1) (k+19) oO;rw[hL1]at hso;obtain⟨T1,eT1⟩:∃T,T=mkT s d:=⟨_,rfl⟩;have hst:IM gX iO L1=T1:=by rw[eT1,mkT,<-eK0,<-eL1]
 have hTl:T1.length=m+d.n4:=by rw[<-hst,stab_perm.length_eq,hL1]
 rw[hst]at hso;rw[<-eT1,hTl]at hrest;have uU:=Go.AM.uU;refine fJ ?_;apply zN;refine fC ?_;refine cA ?_;refine pP [.gen (.tup []) (kx+1) [(k+19,⟨8,aB,L1.map tR⟩)] [(k+19,⟨8,aB,T1.map tR⟩)]] ?_;refine cA ?_;all_goals(try exact hso)
 refine fC ?_;refine cA ?_;refine bY (X:=Nat) rfl [0,1,2,3,4,5,6,8,10,11,12,15,30,31,32,33,47,73,74,75,76,102,128] (kx+1) (λ i=>[(75,i)]) (λ i=>(k+3,⟨7,aE,[[s.cpus,.lit (.int .u64 s.credit),.sl (k+16) 0 s.ng,.sl (k+17) 0 n,.sl (k+18) 0 n,.sl (k+19) 0 (m+d.n4),.sl (k+20) 0 s.ns]]⟩)::(k+2,⟨7,aB,[[(0:Int),.lit (.int .u64 0),(),(),(),(),()]]⟩)::(k+16,⟨2,aB,tM s.ng s.par W1⟩)::(k+17,⟨1,aB,jP n C1⟩)::(k+18,⟨1,aB,jP n U1⟩)::(k+19,⟨8,aB,T1.map tR⟩)::(k+20,⟨1,aE,sY (k+21) s.ns n s.ns⟩)::mE (k+21) 3 s.ns (λ g=>pY n ((mkS s d n i) g))) (λ i=>i<=d.n5) (λ i=>d.n5-i) 0 ?_ (aZ _) ?_;.rw[show mkS s d n 0=s.sp from rfl];refine fJ ?_;apply zN;exact gM
 intro i hi;obtain⟨F,eF⟩:∃F,F=mkS s d n i:=⟨_,rfl⟩;have hnx:mkS s d n (i+1)=if 0<=(d.sp i).1/\(d.sp i).1<s.ns/\0<=(d.sp i).2.1/\(d.sp i).2.1<n then BC F (d.sp i).1.toNat (d.sp i).2.1.toNat (d.sp i).2.2 else F:=by rw[mkS,OA,aNF,eF];rfl
 rw[<-eF];by_cases hlt:i<d.n5
 .obtain⟨x,ex⟩:∃x,x=(d.sp i).1:=⟨_,rfl⟩;obtain⟨y,ey⟩:∃y,y=(d.sp i).2.1:=⟨_,rfl⟩;obtain⟨v,ev⟩:∃v,v=(d.sp i).2.2:=⟨_,rfl⟩;rw[<-ex,<-ey,<-ev]at hnx;have ex':=ex.symm;have ey':=ey.symm;have ev':=ev.symm;by_cases h0:0<=x
  .by_cases hx1:x<s.ns
   .by_cases h2y:0<=y
    .by_cases hy1:y<n;.rw[iP ⟨h0,hx1,h2y,hy1⟩]at hnx;obtain⟨gt,egt⟩:∃q,q=x.toNat:=⟨_,rfl⟩;obtain⟨ct,ect⟩:∃q,q=y.toNat:=⟨_,rfl⟩;rw[<-egt,<-ect]at hnx;have egt':=egt.symm;have ect':=ect.symm;have bg:gt<s.ns:=oO;have bc:ct<n:=oO;have hco:=aWL (b:=k+21) (n:=n) bg;rw[gD]at hco;have g1:=BG (f:=F gt) bc;have hls:=uA n (F gt);have gs:=aMW (n:=n) (c:=ct) (f:=F) (g:=gt) (v:=v);have fs:=aVH (n:=n) (c:=ct) (f:=F) (g:=gt) (v:=v);have uU:=fP hlt ex' ey' ev' h0 hx1 h2y hy1 (fP egt' ect' bg bc hco g1 hls gs fs);refine fJ ?_;apply zN;have kp:Kp [0,1,2,3,4,5,6,8,10,11,12,15,30,31,32,33,47,73,74,75,76,102,128] (λ i=>if k+21<=i then 21 else i-k):=jZ;refine fC ?_;refine oU ⟨λ ht ht=>zN ?_⟩;refine⟨i+1,oO,oO,?_⟩;rw[hnx,(oO:((i+1:Nat):Int)=(i:Int)+1)];exact gM
     rw[iN (λ h=>oO)]at hnx;have uU:=AO hlt ex' ey' ev' h0 hx1 h2y hy1;refine fJ ?_;apply zN;have kp:Kp [0,1,2,3,4,5,6,8,10,11,12,15,30,31,32,33,47,73,74,75,76,102,128] (λ i=>if k+21<=i then 21 else i-k):=jZ;refine fC ?_;refine oU ⟨λ ht ht=>zN ?_⟩;refine⟨i+1,oO,oO,?_⟩;rw[hnx,(oO:((i+1:Nat):Int)=(i:Int)+1)];exact gM
    rw[iN (λ h=>oO)]at hnx;have uU:=xC hlt ex' ey' ev' h0 hx1 h2y;refine fJ ?_;apply zN;have kp:Kp [0,1,2,3,4,5,6,8,10,11,12,15,30,31,32,33,47,73,74,75,76,102,128] (λ i=>if k+21<=i then 21 else i-k):=jZ;refine fC ?_;refine oU ⟨λ ht ht=>zN ?_⟩;refine⟨i+1,oO,oO,?_⟩;rw[hnx,(oO:((i+1:Nat):Int)=(i:Int)+1)];exact gM
   rw[iN (λ h=>oO)]at hnx;have uU:=rA hlt ex' ey' ev' h0 hx1;refine fJ ?_;apply zN;have kp:Kp [0,1,2,3,4,5,6,8,10,11,12,15,30,31,32,33,47,73,74,75,76,102,128] (λ i=>if k+21<=i then 21 else i-k):=jZ;refine fC ?_;refine oU ⟨λ ht ht=>zN ?_⟩;refine⟨i+1,oO,oO,?_⟩;rw[hnx,(oO:((i+1:Nat):Int)=(i:Int)+1)];exact gM
  rw[iN (λ h=>oO)]at hnx;have uU:=ID hlt ex' ey' ev' h0;refine fJ ?_;apply zN;have kp:Kp [0,1,2,3,4,5,6,8,10,11,12,15,30,31,32,33,47,73,74,75,76,102,128] (λ i=>if k+21<=i then 21 else i-k):=jZ;refine fC ?_;refine oU ⟨λ ht ht=>zN ?_⟩;refine⟨i+1,oO,oO,?_⟩;rw[hnx,(oO:((i+1:Nat):Int)=(i:Int)+1)];exact gM
 have hin5:i=d.n5:=oO;rw[hin5]at eF;rw[<-eF]at hrest;refine fJ ?_;apply zN;refine gW rfl ?_;(refine pN rfl [0,1,2,3,4,5,6,8,10,11,12,15,30,31,32,33,47,73,74,75,76,102,128] rfl rfl (λ K hK=>?_));simp-dsimp-implicitDefEqProofs (disch:=omega)only[go_sem,gY,eq_self,↓reduceIte];(refine hK _ _ _ _ (λ hx=>?_));clear hx hK;simp-dsimp-implicitDefEqProofs (disch:=omega)only[go_sem,gY,eq_self,↓reduceIte];clear K;refine gW rfl ?_;refine tK rfl _ rfl (λ ht=>?_) (λ ht=>?_);.exact absurd (of_decide_eq_true ht) oO
 refine FK rfl ?_;refine fJ ?_;apply zN;refine gL ?_ hrest;exact gM
end Go.Proofs.T
end
section
namespace Go.AM
open Go
section
variable{P:Program}{Γ:dL}{nt kb:Nat}{Q:AQ}{k:Nat}{fr:Fr}{H:aO}{c:Code}{p:List Nat}
theorem Step.lent {A:bZ}{w w':World}{G G':Nat->Prop}{ρ ρ':cY}(hst:Step A w (λ b=>G b\/mZ ρ b) bS w' G' ρ'):Step A w G ρ w' G' ρ':=
 ⟨hst.size,λ b hb _=>hst.keep b hb (λ⟨_,_,h⟩=>by cases h),hst.shape,λ b h=>hst.g b (.inl h),
  λ b h=>(hst.g' b h).elim (λ h=>h.elim .inl λ h=> .inr (.inl h)) (λ h=>h.elim (λ⟨_,_,h⟩=>by cases h) λ h=> .inr (.inr h)),
  λ b h=>(hst.own b h).elim (λ⟨_,_,h⟩=>by cases h) .inr,λ id h=>(hst.ids id h).elim .inl .inl,hst.os,hst.tape,hst.output⟩
def WB(P:Program)(Γ:dL)(nt kb:Nat)(c:Code)(B:Nat->Fr->aO->Prop)(Q:AQ):Nat->List Nat->Nat->Fr->aO->Prop
 |0,_=>B
 |n+1,p=>λ k fr H=>W P Γ nt kb (hY c (0::p)) (mX (WB P Γ nt kb c B Q n (1::p)) Q) k fr H
def aWV(c:Code):Nat->List Nat->Prop
 |0,_=>True
 |n+1,p=>hY c p= .seq (hY c (0::p)) (hY c (1::p))/\aWV c n (1::p)
def a7Z:Nat->List Nat->List Nat
 |0,p=>p
 |n+1,p=>a7Z n (1::p)
theorem aDG{f:FuncId}{args:List AVal}{r:AVal}(h:∀k,Tr P Γ f k args [] (λ _ r1 H1=>Bor Γ H1 r1 r)):Pure P Γ f args r:=λ k A hA w G ρ cargs hr hvs=>by
 refine(h k A hA w G ρ cargs hr hvs).mono ?_;rintro e w' ⟨cv,G',ρ',k',r1,H1,rfl,hb,hk,hrel',hV,hst⟩;have hH:Holds H1 (bK H1 (kS A k k')) (kS A k k'):=λ id B h=>⟨_,by simp[bK,h],λ _ h=>h⟩;refine⟨cv,λ b=>G' b\/mZ ρ' b,bS,k,r,[],rfl,⟨rfl,rfl,rfl⟩,aF _,hrel'.fz,?_,?_⟩;.exact(hb w' G' ρ' _ _ cv hrel' hH hV).mono (λ b h=>h.imp id λ⟨id,B,s,_,h4⟩=>⟨id,s,h4⟩) (λ _ _=>rfl) (λ _ _=>rfl) (λ _ h=>h.elim) (λ _ h=>h.elim)
 exact⟨hst.size,hst.keep,hst.shape,λ b h=> .inl (hst.g b h),λ b h=>h.elim (hst.g' b) (λ h=> .inr (hst.own b h)),(λ b h=>by obtain⟨_,_,h⟩:=h;cases h),λ _ _=> .inl rfl,hst.os,hst.tape,hst.output⟩
end
section
variable{P:Program}{Γ:dL}{nt kb:Nat}{Q:AQ}{k:Nat}{fr:Fr}{H:aO}{c:Code}{p:List Nat}
theorem HRel.less {w:World}{G:Nat->Prop}{ρ:cY}{H:lU}{B:Nat}{cells:List AVal}(h:HRel ((B,cells)::Γ) w G ρ H)(hB:look Γ B=aC):HRel Γ w G ρ H:=
 ⟨h.dom,h.blk,h.inj,h.ro,λ g cs hg=>h.glob g cs (by
  simp only[look];split;.rename_i e;subst e;rw[hB]at hg;cases hg
  exact hg)⟩
theorem bAJ(n:Nat)(hc:aWV c n p){Z:Type}(inv:Z->Prop)(tb id:Nat)(cells:List AVal)(frL:(Nat->Value)->Fr)(fr2:Z->Fr)(fr2L:Z->(Nat->Value)->Fr)
 (hb:look fr tb=aA (.ptr id 0 0)) (hid:(look H id).isSome=aB) (hbor:Bor Γ H (.ptr id 0 0) (.rp cells))
 (hL:∀φ t v',look (frL φ) t=aA v'->(∃v,look fr t=aA v/\Bor Γ H v v')\/v'= .lit (φ t))
 (h2L:∀z φ t v,look (fr2 z) t=aA v->∃v',look (fr2L z φ) t=aA v'/\((v'=v/\a8H v=aB)\/(v'= .lit (φ t)/\look fr t=aA v)))
 (h1:∀(φ:Nat->Value) (B x:Nat),φ tb= .pointer (aA ⟨B,0,aC⟩)->WB P ((B,cells++bE x .junk)::Γ) nt kb c (λ k' fr' H'=>∃z,inv z/\∃kx,Mv kb k' fr' H' kx (fr2L z φ) []) Q n p k (frL φ) [])
 (h2:∀z,inv z->W P Γ nt kb (hY c (a7Z n p)) Q k (fr2 z) H):W P Γ nt kb (hY c p) Q k fr H:=by
 intro A0 hA0 hk w G ρ a hi;have hrel:=hi.rel;have hH:Holds H (bK H (kS A0 kb k)) (kS A0 kb k):=λ id B h=>⟨_,by simp[bK,h],λ _ h=>h⟩;obtain⟨φ,hφ⟩:∃φ:Nat->Value,∀t,φ t=a.tmps.getD t undef:=⟨_,λ _=>rfl⟩;have beh:∀b,G b\/QB H ρ b->G b\/mZ ρ b:=λ b h=>h.imp (λ h=>h) λ⟨i,B,s,_,h4⟩=>⟨i,s,h4⟩;have hfz:HRel Γ w (λ b=>G b\/mZ ρ b) bS (bK [] (kS A0 kb k)):=hrel.fz;obtain⟨BI,hBI⟩:=fS.1 hid;obtain⟨_,b,hρb,hGb,_⟩:=hrel.blk id BI (kS A0 kb k) (by simp[bK,hBI]);have hown:mZ ρ b:=⟨id,_,hρb⟩;have hptr:=hi.frm tb _ hb;have hrp:=hbor w G ρ _ _ _ hrel hH hptr;rw[<-hφ]at hptr hrp
 obtain⟨hφb,C,ty,xx,hC⟩:φ tb= .pointer (aA ⟨b,0,aC⟩)/\∃C ty xx,w.heap[b]? =aA (.cells C ty xx):=by
  generalize φ tb=cv at hptr
  cases hptr with
  |dang _ hn=>rw[hρb]at hn;cases hn
  |ptr ha hρ hsh=>
   rw[hρb]at hρ;cases hρ;refine⟨sS,?_⟩;unfold World.shape? at hsh;split at hsh;.rename_i C e x hC;exact⟨C,e,x,hC⟩
   all_goals cases hsh
 rw[hφb]at hrp
 have hlen:∃x,cells.length+x=C.size/\V w (λ b=>G b\/mZ ρ b) bS cI (.rp (cells++bE x .junk)) (.pointer (aA ⟨b,0,aC⟩)):=by
  cases hrp with
  |rp g hg hcell hv=>
   have hle:cells.length<=C.size:=by
    rcases a4U cells.length with h0|h0;.omega
    have:=hcell (cells.length-1) _ (aJ oO);unfold World.cell? at this;rw[hC]at this;simp only[rQ,aS,if_false]at this;have:=(dA.1 this).1;omega
   refine⟨C.size-cells.length,oO,.rp (λ j=>if j<cells.length then g j else C.getD j undef) (beh _ hg) (λ j v hj=>?_) (λ j v hj=>?_)⟩
   .by_cases hlt:j<cells.length;.rw[gP hlt]at hj;rw[iP hlt];exact hcell j v hj
    have hj2:j<C.size:=by have:=(aK.1 hj).1;simp only[bM,gI]at this;omega
    rw[iN hlt];unfold World.cell?;rw[hC];simp only[rQ,aS,if_false,fH];rw[aQ hj2,aI,aQ hj2];rfl
   by_cases hlt:j<cells.length;.rw[gP hlt]at hj;rw[iP hlt];exact(hv j v hj).mono beh (λ _ _=>rfl) (λ _ _=>rfl) (λ _ h=>h) (λ _ h=>h.elim)
   rw[iK oO]at hj;have e:v= .junk:=by obtain⟨hlt2,e⟩:=aK.1 hj;simpa using e.symm
   subst e;exact .junk
 obtain⟨x,hx,hVx⟩:=hlen
 have hnk:look Γ b=aC:=by
  cases h:look Γ b with
  |none=>rfl
  |some cs=>exact absurd (hrel.glob b cs h).2.1 hGb
 have hfz2:HRel ((b,cells++bE x .junk)::Γ) w (λ b=>G b\/mZ ρ b) bS (bK [] (kS A0 kb k)):=
  ⟨hfz.dom,hfz.blk,hfz.inj,hfz.ro,λ g cs hg=>by
   simp only[look]at hg;split at hg;.rename_i e;subst e;cases hg;exact⟨hVx,.inr hown,C,ty,xx,hC,by rw[bM,gI];omega⟩
   exact hfz.glob g cs hg⟩
 have hiB:Inv ((b,cells++bE x .junk)::Γ) nt w (λ b=>G b\/mZ ρ b) bS (kS A0 kb k) a (frL φ) []:=⟨hfz2,hi.size,hi.defers,λ t v' hl=>by
  rcases hL φ t v' hl with⟨v,h1,h2⟩|rfl;.exact(h2 w G ρ _ _ _ hrel hH (hi.frm t v h1)).mono beh (λ _ _=>rfl) (λ _ _=>rfl) (λ _ h=>h.elim) (λ _ h=>h.elim)
  rw[hφ];exact .lit⟩
 obtain⟨Γ',hΓ'⟩:∃Γ',Γ'=(b,cells++bE x .junk)::Γ:=⟨_,rfl⟩;have h1:=h1 φ b x hφb;rw[<-hΓ']at h1 hiB;have less:∀ {w G ρ H},HRel Γ' w G ρ H->HRel Γ w G ρ H:=λ h=>by rw[hΓ']at h;exact h.less hnk
 have key:∀n p,aWV c n p->(∀z,inv z->W P Γ nt kb (hY c (a7Z n p)) Q k (fr2 z) H)->∀k1 fr1 H1 w1 G1 ρ1 a1,kb<=k1->WB P Γ' nt kb c (λ k' fr' H'=>∃z,inv z/\∃kx,Mv kb k' fr' H' kx (fr2L z φ) []) Q n p k1 fr1 H1→
  Inv Γ' nt w1 G1 ρ1 (kS A0 kb k1) a1 fr1 H1->Step (lC kb) w (λ b=>G b\/mZ ρ b) bS w1 G1 ρ1->(hY c p).wp P (Post Γ nt A0 kb w G ρ Q) a1 w1:=by
  intro n
  induction n with
  | zero=>
    intro p _ h2 k1 fr1 H1 w' G' ρ' a' hk' hQ hi' hst
    obtain⟨z,hz,kx,hmv⟩:=hQ
    obtain⟨hkx,hmv⟩:=hmv hk'
    obtain⟨G2,ρ2,hi2,hs2⟩:=hmv Γ' nt A0 w' G' ρ' a' hA0 hi'
    have hst2:=hst.trans hs2 (λ _ h=>h)
    have hkeep:∀b,b<w.heap.size->w'.heap[b]? =w.heap[b]? :=λ b hb=>hst2.keep b hb (λ⟨_,_,h⟩=>by cases h)
    have hstA:∀A:bZ,Step A w G ρ w' (λ b=>G b\/(w.heap.size<=b/\G2 b)) ρ:=λ A=>
     ⟨hst2.size,λ b hb _=>hkeep b hb,hst2.shape,λ _ h=> .inl h,λ b h=>h.elim .inl (λ h=> .inr (.inr h.1)),λ _ h=> .inl h,λ _ _=> .inr rfl,hst2.os,hst2.tape,hst2.output⟩
    refine wp_mono (h2 z hz A0 hA0 hk w' _ ρ a' ⟨?_,hi2.size,hi2.defers,λ t v hv=>?_⟩) λ _ _ _ hp=>Post.trans (hstA _) hp
    · refine hrel.after (hstA (λ _=>True)) _ hrel.dom (λ id B A1 hid=>?_) hrel.inj (λ b hb=>hb.elim (λ h=>oD (hrel.ro b h) hst2.size) (λ h=>hi2.rel.ro b h.2))
      obtain⟨h1,b,h2,h3,_⟩:=hrel.blk id B A1 hid
      have hbl:=hrel.owned_lt ⟨id,_,h2⟩
      exact⟨h1,.inl ⟨A1,b,hid,λ _ h=>h,λ _ _=>trivial,rfl,h2,hkeep b hbl,λ h=>h.elim h3 (λ h=>oO)⟩⟩
    · obtain⟨v',hv',h|h⟩:=h2L z φ t v hv
      · obtain⟨rfl,hl⟩:=h
        exact aTV (hi2.frm t _ hv') hl
      · obtain⟨rfl,hf⟩:=h
        have e:=gO (hi2.frm t _ hv')
        rw[e,hφ]
        exact(hi.frm t v hf).mono (λ _ h=> .inl h) (λ b hb=>hkeep b (hrel.ro b hb)) hst2.shape (λ _ h=>h) (λ _ _=> .inr rfl)
  | succ n ih=>
    intro p hch h2 k1 fr1 H1 w1 G1 ρ1 a1 hk1 hQ hi1 hst1
    rw[hch.1]
    refine wp_seq (wp_mono (hQ A0 hA0 hk1 w1 G1 ρ1 a1 hi1) λ e a' w' hp=>?_)
    obtain⟨G',ρ',k',fr',H',hQ',hk',hi',hst⟩:=hp
    have hst':=hst1.trans hst (λ _ h=>h)
    have hil:Inv Γ nt w' G' ρ' (kS A0 kb k') a' fr' H':=⟨less hi'.rel,hi'.size,hi'.defers,hi'.frm⟩
    cases e with
    |normal=>exact ih (1::p) hch.2 h2 k' fr' H' w' G' ρ' a' hk' hQ' hi' hst'
    |exit id=>exact⟨G',ρ',k',fr',H',hQ',hk',hil,hst'.lent⟩
    |goto l=>exact⟨G',ρ',k',fr',H',hQ',hk',hil,hst'.lent⟩
    |ret=>exact⟨G',ρ',k',fr',H',hQ',hk',hil,hst'.lent⟩
    |panic ch=>exact⟨G',ρ',k',fr',H',hQ',hk',hil,hst'.lent⟩
    |outgrown=>exact⟨G',ρ',k',fr',H',hQ',hk',hil,hst'.lent⟩
 exact key n p hc h2 k (frL φ) [] w _ bS a hk h1 hiB (kQ _ _ _ _)
end
section
variable{P:Program}{Γ:dL}{o:Oper}{ev:Operand->Option AVal}{get:Nat->Option Blk}{k:Nat}
theorem aFR{x:Operand}{t B:Nat}{cells:List AVal}{out:Out}(ho:o.op= .load t x)(hx:ev x=aA (.lit (.pointer (aA ⟨B,0,aC⟩))))(hB:look Γ B=aA cells)(h:HP P get k t (aA (.rp cells))=aA out):Good P Γ o ev get k out:=by
 have hg:Good P Γ o (λ _=>aA (.rp cells)) get k out:=sM (by simp only[AT,ho];exact h);refine⟨λ w G ρ H A a hr hA hf hrd hop next Q hn=>hg.ok w G ρ H A a hr hA hf hrd (λ y hy v hv=>?_) next Q hn,hg.rds,hg.le⟩;cases hv;have e:y=x:=by simpa [ho,Op.operands]using hy
 subst e;have e:=gO (hop y hy _ hx);rw[e];exact(hr.glob B cells hB).1.mono (λ _ h=>h) (λ _ _=>rfl) (λ _ _=>rfl) (λ _ h=>h.elim) (λ _ h=>h.elim)
end
section
variable{P:Program}{Γ:dL}{nt kb:Nat}{Q:AQ}{k:Nat}{fr:Fr}{H:aO}{c:Code}{p:List Nat}
theorem Bor.agg {Hc:aO}{cs cs':List AVal}(hl:cs.length=cs'.length)(h:∀(j:Nat) v v',cs[j]? =aA v->cs'[j]? =aA v'->Bor Γ Hc v v'):Bor Γ Hc (.agg cs) (.agg cs'):=λ w G ρ H A cv hr hh hv=>by
 cases hv with
 |agg h1 h2=>
  refine .agg oO λ j u hj=>?_;have hlt:j<cs.length:=by have:=(aK.1 hj).1;omega
  exact h j _ u (aJ hlt) hj w G ρ H A _ hr hh (h2 j _ (aJ hlt))
theorem Bor.tup {Hc:aO}{cs cs':List AVal}(hl:cs.length=cs'.length)(h:∀(j:Nat) v v',cs[j]? =aA v->cs'[j]? =aA v'->Bor Γ Hc v v'):Bor Γ Hc (.tup cs) (.tup cs'):=λ w G ρ H A cv hr hh hv=>by
 cases hv with
 |tup h1 h2=>
  refine .tup oO λ j u hj=>?_;have hlt:j<cs.length:=by have:=(aK.1 hj).1;omega
  exact h j _ u (aJ hlt) hj w G ρ H A _ hr hh (h2 j _ (aJ hlt))
theorem bFV{B:Nat->Fr->aO->Prop}{n:Nat}(h:W P Γ nt kb (hY c (0::p)) (mX (WB P Γ nt kb c B Q n (1::p)) Q) k fr H):WB P Γ nt kb c B Q (n+1) p k fr H:=h
theorem bFW{B:Nat->Fr->aO->Prop}(h:B k fr H):WB P Γ nt kb c B Q 0 p k fr H:=h
end
end Go.AM
end
section
namespace Go.Proofs.T
open Go Go.AM Go.Proofs
variable{Γ:dL}
structure OwnSt (Hc:aO) (b n:Nat) (t:St):Prop where
 nk:t.nk=n
 nu:t.nu=n
 sp:∀g,g<t.ns->t.nsp g=n
 l1:AM.look Hc (b+16)=aA ⟨2,aB,tM t.ng t.par t.wt⟩
 l2:AM.look Hc (b+17)=aA ⟨1,aB,jP n t.clk⟩
 l3:AM.look Hc (b+18)=aA ⟨1,aB,jP n t.cur⟩
 l4:AM.look Hc (b+19)=aA ⟨8,aB,(mU t).map tR⟩
 l5:AM.look Hc (b+20)=aA ⟨1,aE,sY (b+21) t.ns n t.ns⟩
 l6:∀g,g<t.ns->AM.look Hc (b+21+g)=aA ⟨3,aB,pY n (t.sp g)⟩
def LB(b n:Nat)(t:St):List AVal:=[.lit (.int .i64 t.cpus),.lit (.int .u64 t.credit),.sl (b+16) 0 t.ng,.sl (b+17) 0 n,.sl (b+18) 0 n,.sl (b+19) 0 t.nt,.sl (b+20) 0 t.ns]
theorem a6X{t:St}{i:Nat}(h:i<t.nt):((mU t).map tR)[i]? =aA (tf t i):=by rw[YX];simp[h]
theorem aJB{Hc:aO}{b n:Nat}{t:St}(h:OwnSt Hc b n t):∀(j:Nat) v v',(LB b n t)[j]? =aA v->t.cells[j]? =aA v'->Bor Γ Hc v v':=by
 have b2:Bor Γ Hc (.sl (b+16) 0 t.ng) (.rd 2 t.ng (gf t)):=rK h.l1 (by rw[uC];exact aF _) (λ i _=>rfl) λ i hi=>⟨_,BH hi,nI rfl⟩;have b3:Bor Γ Hc (.sl (b+17) 0 n) (.rd 1 n (kf t)):=rK h.l2 (by rw[rD];exact aF _) (λ i _=>rfl) λ i hi=>⟨_,xI hi,nI rfl⟩;have b4:Bor Γ Hc (.sl (b+18) 0 n) (.rd 1 n (uf t)):=rK h.l3 (by rw[rD];exact aF _) (λ i _=>rfl) λ i hi=>⟨_,xI hi,nI rfl⟩;have b5:Bor Γ Hc (.sl (b+19) 0 t.nt) (.rd 8 t.nt (tf t)):=rK h.l4 (by rw[cX,LQ];exact aF _) (λ i _=>rfl) λ i hi=>⟨_,a6X hi,nI rfl⟩
 have b6:Bor Γ Hc (.sl (b+20) 0 t.ns) (.rd 1 t.ns (YK t)):=rK h.l5 (by rw[sG];simp) (λ i _=>rfl) λ i hi=>⟨_,aWL hi,λ j v v' h1 h2=>by
  match j with
  | 0=>
    simp only[lF,aA.injEq,YK]at h1 h2
    subst h1;subst h2
    rw[h.sp i hi]
    exact rK (h.l6 i hi) (by rw[uA];exact aF _) (λ c _=>rfl) λ c hc=>⟨_,BG hc,nI rfl⟩
  |j+1=>simp[YK]at h1⟩
 have e1:=h.nk;have e2:=h.nu;intro j v v' h1 h2
 match j with
 |0=>cases h1;cases h2;exact Bor.lit
 |1=>cases h1;cases h2;exact Bor.lit
 |2=>cases h1;cases h2;exact b2
 |3=>cases h1;cases h2;rw[e1];exact b3
 |4=>cases h1;cases h2;rw[e2];exact b4
 |5=>cases h1;cases h2;exact b5
 |6=>cases h1;cases h2;exact b6
 |j+7=>simp[LB]at h1
theorem a0R{Hc:aO}{b n:Nat}{t:St}(h:OwnSt Hc b n t):Bor Γ Hc (.agg (LB b n t)) (.agg t.cells):=Bor.agg rfl (aJB h)
theorem a0Q{Hc:aO}{b n id:Nat}{t:St}(h:OwnSt Hc b n t)(hid:AM.look Hc id=aA ⟨7,aE,[LB b n t]⟩):Bor Γ Hc (.ptr id 0 0) (.rp t.cells):=Bor.ptr hid rfl rfl (aJB h)
def DT(b n:Nat)(t:St):aO:=(b+16,⟨2,aB,tM t.ng t.par t.wt⟩)::(b+17,⟨1,aB,jP n t.clk⟩)::(b+18,⟨1,aB,jP n t.cur⟩)::(b+19,⟨8,aB,(mU t).map tR⟩)::(b+20,⟨1,aE,sY (b+21) t.ns n t.ns⟩)::mE (b+21) 3 t.ns (λ g=>pY n (t.sp g))
theorem ZW{b n:Nat}{t:St}(e1:t.nk=n)(e2:t.nu=n)(e3:∀g,g<t.ns->t.nsp g=n):OwnSt (DT b n t) b n t where
 nk:=e1
 nu:=e2
 sp:=e3
 l1:=by simp only[DT,AM.look];repeat(first|rw[iN oO]|rw[iP trivial])
 l2:=by simp only[DT,AM.look];repeat(first|rw[iN oO]|rw[iP trivial])
 l3:=by simp only[DT,AM.look];repeat(first|rw[iN oO]|rw[iP trivial])
 l4:=by simp only[DT,AM.look];repeat(first|rw[iN oO]|rw[iP trivial])
 l5:=by simp only[DT,AM.look];repeat(first|rw[iN oO]|rw[iP trivial])
 l6 g hg:=by
  simp only[DT,AM.look];repeat rw[iN oO]
  exact uV hg
theorem OwnSt.two {Hc:aO}{b n i j:Nat}{A B:Blk}{t:St}(h:OwnSt Hc b n t)(hi:i<b+16)(hj:j<b+16):OwnSt ((i,A)::(j,B)::Hc) b n t where
 nk:=h.nk
 nu:=h.nu
 sp:=h.sp
 l1:=by simp only[AM.look];rw[iN oO,iN oO];exact h.l1
 l2:=by simp only[AM.look];rw[iN oO,iN oO];exact h.l2
 l3:=by simp only[AM.look];rw[iN oO,iN oO];exact h.l3
 l4:=by simp only[AM.look];rw[iN oO,iN oO];exact h.l4
 l5:=by simp only[AM.look];rw[iN oO,iN oO];exact h.l5
 l6 g hg:=by simp only[AM.look];rw[iN oO,iN oO];exact h.l6 g hg
attribute [local irreducible] jE del
theorem bDE(n m:Nat)(hn:n<=100000)(hm:m<=100000)(f g:Nat->Int):AM.Pure aD Γ 114 [.rd 1 n (λ i=>[(f i)]),.rd 1 m (λ i=>[(g i)])] (oL n m (λ i=>f i==g i)):=by
 refine bT Tryz.func114 rfl 26 rfl bB rfl λ k=>?_;obtain⟨E,eE⟩:∃E,E=oL n m (λ i=>f i==g i):=⟨_,rfl⟩;rw[<-eE];have kp:=gZ k [0,1,4,5,10,12,13,14,24];refine wl ?_;refine oT (λ ht=>?_) λ ht=>?_;.refine bV rfl ⟨_,rfl,bC ?_⟩;rw[eE,qG oO]
 refine bY (X:=Nat) rfl [0,1,4,5,10,12,13,14,24] k (λ i=>[(13,i)]) (λ i=>[]) (λ i=>i<=n/\∀j,j<i->(f j==g j)=aB) (λ i=>n-i) 0 ?_ ⟨aZ _,λ j hj=>absurd hj (bO _)⟩ ?_;.refine rR ?_;apply zN;exact pQ
 rintro i ⟨hi,hall⟩;refine rR ?_;apply zN;refine wl ?_;refine jV ⟨λ ht ht=>zN ?_⟩ ⟨λ ht ht=>zN ?_⟩ ⟨λ ht=>zN ?_⟩;.refine bV rfl ⟨_,rfl,bC ?_⟩;rw[eE,qH (i:=i) oO (by first|(rw[gB];simp at ht⊢;omega)|(simpa using ht))]
 .refine⟨i+1,⟨oO,λ j hj=>?_⟩,oO,?_⟩
  .by_cases he:j=i;.subst he;first|(simp;omega)|(simpa using ht)
   exact hall j oO
  exact pQ
 refine bV rfl ⟨_,rfl,bC ?_⟩;rw[eE,jY oO (λ j hj=>hall j oO)]
section
attribute [local go_sem] mK tR pR
theorem aVK(n m:Nat)(hn:n<=100000)(hm:m<=100000)(f g:Nat->Int×Int):AM.Pure aD Γ 128 [.rd 2 n (λ i=>mK (f i)),.rd 2 m (λ i=>mK (g i))] (oL n m (λ i=>cV (f i) (g i))):=by
 refine bT Tryz.func128 rfl 26 rfl bB rfl λ k=>?_;obtain⟨E,eE⟩:∃E,E=oL n m (λ i=>cV (f i) (g i)):=⟨_,rfl⟩;rw[<-eE];have kp:=gZ k [0,1,4,5,10,12,13,14,24];refine wl ?_;refine oT (λ ht=>?_) λ ht=>?_;.refine bV rfl ⟨_,rfl,bC ?_⟩;rw[eE,qG oO]
 refine bY (X:=Nat) rfl [0,1,4,5,10,12,13,14,24] k (λ i=>[(13,i)]) (λ i=>[]) (λ i=>i<=n/\∀j,j<i->(cV (f j) (g j))=aB) (λ i=>n-i) 0 ?_ ⟨aZ _,λ j hj=>absurd hj (bO _)⟩ ?_;.refine rR ?_;apply zN;exact pQ
 rintro i ⟨hi,hall⟩;refine rR ?_;apply zN;refine wl ?_;refine jV ⟨λ ht ht=>zN ?_⟩ ⟨λ ht ht=>zN ?_⟩ ⟨λ ht=>zN ?_⟩;.refine bV rfl ⟨_,rfl,bC ?_⟩;rw[eE,qH (i:=i) oO (by first|(rw[gB];simp[cV]at ht⊢;omega)|(simpa [cV]using ht))]
 .refine⟨i+1,⟨oO,λ j hj=>?_⟩,oO,?_⟩
  .by_cases he:j=i;.subst he;first|(simp[cV];omega)|(simpa [cV]using ht)
   exact hall j oO
  exact pQ
 refine bV rfl ⟨_,rfl,bC ?_⟩;rw[eE,jY oO (λ j hj=>hall j oO)]
theorem bDC(n m:Nat)(hn:n<=100000)(hm:m<=100000)(f g:Nat->Tk):AM.Pure aD Γ 129 [.rd 8 n (λ i=>tR (f i)),.rd 8 m (λ i=>tR (g i))] (oL n m (λ i=>cT (f i) (g i))):=by
 refine bT Tryz.func129 rfl 26 rfl bB rfl λ k=>?_;obtain⟨E,eE⟩:∃E,E=oL n m (λ i=>cT (f i) (g i)):=⟨_,rfl⟩;rw[<-eE];have kp:=gZ k [0,1,4,5,10,12,13,14,24];refine wl ?_;refine oT (λ ht=>?_) λ ht=>?_;.refine bV rfl ⟨_,rfl,bC ?_⟩;rw[eE,qG oO]
 refine bY (X:=Nat) rfl [0,1,4,5,10,12,13,14,24] k (λ i=>[(13,i)]) (λ i=>[]) (λ i=>i<=n/\∀j,j<i->(cT (f j) (g j))=aB) (λ i=>n-i) 0 ?_ ⟨aZ _,λ j hj=>absurd hj (bO _)⟩ ?_;.refine rR ?_;apply zN;exact pQ
 rintro i ⟨hi,hall⟩;refine rR ?_;apply zN;refine wl ?_;refine jV ⟨λ ht ht=>zN ?_⟩ ⟨λ ht ht=>zN ?_⟩ ⟨λ ht=>zN ?_⟩;.refine bV rfl ⟨_,rfl,bC ?_⟩;rw[eE,qH (i:=i) oO (by first|(rw[gB];simp[cT]at ht⊢;omega)|(simpa [cT]using ht))]
 .refine⟨i+1,⟨oO,λ j hj=>?_⟩,oO,?_⟩
  .by_cases he:j=i;.subst he;first|(simp[cT];omega)|(simpa [cT]using ht)
   exact hall j oO
  exact pQ
 refine bV rfl ⟨_,rfl,bC ?_⟩;rw[eE,jY oO (λ j hj=>hall j oO)]
theorem bDD(n m:Nat)(hn:n<=100000)(hm:m<=100000)(f g:Nat->Int×Int×Sp):AM.Pure aD Γ 130 [.rd 5 n (λ i=>pR (f i)),.rd 5 m (λ i=>pR (g i))] (oL n m (λ i=>cP (f i) (g i))):=by
 refine bT Tryz.func130 rfl 26 rfl bB rfl λ k=>?_;obtain⟨E,eE⟩:∃E,E=oL n m (λ i=>cP (f i) (g i)):=⟨_,rfl⟩;rw[<-eE];have kp:=gZ k [0,1,4,5,10,12,13,14,24];refine wl ?_;refine oT (λ ht=>?_) λ ht=>?_;.refine bV rfl ⟨_,rfl,bC ?_⟩;rw[eE,qG oO]
 refine bY (X:=Nat) rfl [0,1,4,5,10,12,13,14,24] k (λ i=>[(13,i)]) (λ i=>[]) (λ i=>i<=n/\∀j,j<i->(cP (f j) (g j))=aB) (λ i=>n-i) 0 ?_ ⟨aZ _,λ j hj=>absurd hj (bO _)⟩ ?_;.refine rR ?_;apply zN;exact pQ
 rintro i ⟨hi,hall⟩;refine rR ?_;apply zN;obtain⟨z,ez⟩:∃z,z=cP (f i) (g i):=⟨_,rfl⟩;refine gW rfl ?_;(refine pN rfl [0,1,4,5,10,12,13,14,24] rfl rfl (λ K hK=>?_));refine sT ?_;(refine hK _ _ _ _ (λ hx=>?_));clear hx hK;refine sT ?_;clear K;refine gW rfl ?_;refine tK rfl _ rfl (λ ht=>?_) (λ ht=>?_)
 .simp only[nf]at ht;refine AB rfl ?_;refine rR ?_;apply zN;refine gW rfl ?_;refine AC rfl ?_;refine gW rfl ?_;(refine pN rfl [0,1,4,5,10,12,13,14,24] rfl rfl (λ K hK=>?_));refine sT ?_;(refine hK _ _ _ _ (λ hx=>?_));clear hx hK;refine sT ?_;clear K;refine gW rfl ?_;refine dl [.raw (aA 24) ⟨.lit (.bool (!z)),k,[],[]⟩] ?_;refine iE ?_ ?_;.rw[ez];exact ZT rfl rfl rfl
  refine wl ?_;refine oT (λ ht=>?_) λ ht=>?_;.refine bV rfl ⟨_,rfl,bC ?_⟩;rw[eE,qH (i:=i) oO (by rw[<-ez];simp_all)]
  refine⟨i+1,⟨oO,λ j hj=>?_⟩,oO,?_⟩
  .by_cases he:j=i;.subst he;rw[<-ez];simp_all
   exact hall j oO
  exact pQ
 simp only[nf]at ht;refine FK rfl ?_;refine rR ?_;apply zN;refine wl ?_;refine cA ?_;refine bV rfl ⟨_,rfl,bC ?_⟩;rw[eE,jY oO (λ j hj=>hall j oO)]
end
theorem a7J(d e:DE)(hd:d.size<=100000)(he:e.size<=100000):AM.Pure aD Γ 70 [.agg d.cells,.agg e.cells] (eqD d e):=by
 unfold DE.size at hd he;refine bT Tryz.func70 rfl 45 rfl bB rfl λ k=>?_;obtain⟨E,eE⟩:∃E,E=eqD d e:=⟨_,rfl⟩;rw[<-eE];obtain⟨z0,h0⟩:∃z,z=oL d.n0 e.n0 (λ i=>cV (d.ck i) (e.ck i)):=⟨_,rfl⟩;obtain⟨z1,h1⟩:∃z,z=oL d.n1 e.n1 (λ i=>cV (d.cu i) (e.cu i)):=⟨_,rfl⟩;obtain⟨z2,h2⟩:∃z,z=oL d.n2 e.n2 (λ i=>cV (d.wg i) (e.wg i)):=⟨_,rfl⟩;obtain⟨z3,h3⟩:∃z,z=oL d.n3 e.n3 (λ i=>d.gn i==e.gn i):=⟨_,rfl⟩;obtain⟨z4,h4⟩:∃z,z=oL d.n4 e.n4 (λ i=>cT (d.tk i) (e.tk i)):=⟨_,rfl⟩;obtain⟨z5,h5⟩:∃z,z=oL d.n5 e.n5 (λ i=>cP (d.sp i) (e.sp i)):=⟨_,rfl⟩;rw[eqD,<-h0,<-h1,<-h2,<-h3,<-h4,<-h5]at eE;have kp:=gZ k [0,1,2,3,4];refine wl ?_;refine cA ?_;refine cl [.ret z0,.ret z1,.ret z2,.ret z3,.ret z4,.ret z5] ?_;refine bBL (zs ?_) ⟨⟨λ hg=>⟨?_⟩⟩⟩ ⟨⟨λ hg hg=>⟨?_⟩⟩⟩ ⟨⟨λ hg hg hg=>⟨?_⟩⟩⟩ ⟨⟨λ hg hg hg hg=>⟨?_⟩⟩⟩ ⟨⟨λ hg hg hg hg hg=>⟨?_⟩⟩⟩ ⟨⟨λ hg hg hg hg hg=>⟨?_⟩⟩⟩ ⟨⟨λ hg hg hg hg hg=>⟨?_⟩⟩⟩ ⟨⟨λ hg hg hg hg=>⟨?_⟩⟩⟩ ⟨⟨λ hg hg hg=>⟨?_⟩⟩⟩ ⟨⟨λ hg hg=>⟨?_⟩⟩⟩ ⟨⟨λ hg=>⟨?_⟩⟩⟩;all_goals(first|(rw[h0];exact aVK d.n0 e.n0 oO oO d.ck e.ck)|(rw[h1];exact aVK d.n1 e.n1 oO oO d.cu e.cu)|(rw[h2];exact aVK d.n2 e.n2 oO oO d.wg e.wg)|(rw[h3];exact bDE d.n3 e.n3 oO oO d.gn e.gn)|(rw[h4];exact bDC d.n4 e.n4 oO oO d.tk e.tk)|(rw[h5];exact bDD d.n5 e.n5 oO oO d.sp e.sp)|skip)
 all_goals(refine bV rfl ⟨_,rfl,bC ?_⟩;rw[eE];simp_all)
theorem aUK(s b c:St)(d e f:DE)(e3:Int)(hA:AM.Pure aD Γ 22 [.agg s.cells,.agg d.cells] (.tup [.agg b.cells,(0:Int)]))(hB:AM.Pure aD Γ 22 [.agg b.cells,.agg e.cells] (.tup [.agg c.cells,(0:Int)]))
 (hC:AM.Pure aD Γ 21 [.agg s.cells,.agg c.cells] (.tup [.agg f.cells,e3])):
 AM.Pure aD Γ 34 [.agg s.cells,.agg d.cells,.agg e.cells] (.tup [.agg f.cells,e3]):=by
 refine bT Tryz.func34 rfl 36 rfl bB rfl λ k=>?_;have kp:=gZ k [0,1,2,3,4,5,6,7,8,9,10,18,28];refine wl ?_;refine cA ?_;refine cl [.ret (.tup [.agg b.cells,(0:Int)])] ?_;refine iE ?_ ?_;all_goals(try exact hA)
 refine wl ?_;refine dI λ ht=>?_;refine cl [.ret (.tup [.agg c.cells,(0:Int)])] ?_;refine iE ?_ ?_;all_goals(try exact hB)
 refine wl ?_;refine dI λ ht=>?_;refine cl [.ret (.tup [.agg f.cells,e3])] ?_;refine iE ?_ ?_;all_goals(try exact hC)
 refine wl ?_;refine cA ?_;refine cR (zN ?_);exact bJ _
theorem aZM(s:St)(d:DE):mU (IF s d)=mkT s d:=OE
theorem aPJ(s:St)(d:DE)(hrt:dQ s=[])(hp:PreW s)(hr:DSm d)(hd:d.size<=500)(h2:s.nt+d.n4<=200)(z:Bool)(ez:z= !(HN s d))(k:Nat)(Q:AQ)
 (hrest:AM.W aD Γ 131 k (hY (gN Tryz.f22) [1,1,0,1,1,1,1,1,1,1,1,1,1]) Q (k+3+(20+s.ns)+1) [(128,z),(4,.ptr (k+2) 0 0),(5,(0:Int)),(6,.ptr (k+3) 0 0)] ((k+3,⟨7,aE,[LB k s.nk (IF s d)]⟩)::(k+2,⟨7,aB,[[(0:Int),.lit (.int .u64 0),(),(),(),(),()]]⟩)::DT k s.nk (IF s d))):
 AM.W aD Γ 131 k (hY (gN Tryz.f22) [0,1,1,1,1,1,1,1,1,1,1]) Q (k+3+(20+s.ns)+1) [(2,.rp s.cells),(3,.rp d.cells),(4,.ptr (k+2) 0 0),(5,(0:Int)),(6,.ptr (k+3) 0 0)] ((k+3,⟨7,aE,[LB k s.nk (IF s d)]⟩)::(k+2,⟨7,aB,[[(0:Int),.lit (.int .u64 0),(),(),(),(),()]]⟩)::DT k s.nk (IF s d)):=by
 obtain⟨hrc,_⟩:=CZ hrt;have hpB:=a4I hp hr h2;have hown:=(ZW (b:=k) (n:=s.nk) (t:=IF s d) rfl hrc.1 (λ g hg=>hrc.2 g hg)).two (i:=k+3) (j:=k+2) (A:=⟨7,aE,[LB k s.nk (IF s d)]⟩) (B:=⟨7,aB,[[(0:Int),.lit (.int .u64 0),(),(),(),(),()]]⟩) oO oO;obtain⟨t,et⟩:∃t,t=IF s d:=⟨_,rfl⟩;obtain⟨X,eX⟩:∃X,X=tI (btw s t):=⟨_,rfl⟩;obtain⟨E,eE⟩:∃E,E=DX s t:=⟨_,rfl⟩;have hX:X.size<=20000:=by rw[eX,et];exact aXD hp.pre hpB.pre hp.sm.nk
 have hz:z= !(decide (E=0)&&eqD X d):=by rw[ez,HN,eX,eE,et]
 rw[<-et]at hown hpB hrest⊢
 obtain⟨kx,ekx⟩:∃x,x=k+3+(20+s.ns)+1:=⟨_,rfl⟩;rw[<-ekx]at hrest⊢
 refine bAJ 2 ⟨rfl,rfl,trivial⟩ (Z:=Unit) (λ _=>True) 6 (k+3) t.cells (λ φ=>[(2,.rp s.cells),(3,.rp d.cells),(4,.lit (φ 4)),(5,(0:Int)),(6,.lit (φ 6))]) (λ _=>[(128,z),(4,.ptr (k+2) 0 0),(5,(0:Int)),(6,.ptr (k+3) 0 0)]) (λ _ φ=>[(128,z),(4,.lit (φ 4)),(5,(0:Int)),(6,.lit (φ 6))]) rfl ?_ ?_ ?_ ?_ ?_ ?_;.simp only[AM.look];rfl
 .exact a0Q hown (by simp only[AM.look];rfl)
 .intro φ t' v' h;simp only[AM.look]at h;repeat' split at h
  .rename_i e;subst e;cases h;exact .inl ⟨_,rfl,QR rfl⟩
  .rename_i e;subst e;cases h;exact .inl ⟨_,rfl,QR rfl⟩
  .rename_i e;subst e;cases h;exact .inr rfl
  .rename_i e;subst e;cases h;exact .inl ⟨_,rfl,QR rfl⟩
  .rename_i e;subst e;cases h;exact .inr rfl
  cases h
 .intro z' φ t' v' h;simp only[AM.look]at h;repeat' split at h
  .rename_i e;subst e;cases h;exact⟨_,rfl,.inl ⟨rfl,rfl⟩⟩
  .rename_i e;subst e;cases h;exact⟨_,rfl,.inr ⟨rfl,rfl⟩⟩
  .rename_i e;subst e;cases h;exact⟨_,rfl,.inl ⟨rfl,rfl⟩⟩
  .rename_i e;subst e;cases h;exact⟨_,rfl,.inr ⟨rfl,rfl⟩⟩
  cases h
 .intro φ B x hφ;have hbt:=UP (Γ:=(B,t.cells++bE x .junk)::Γ) s t hp.pre hpB.pre hp.k hpB.k;have hsm:=a7J (Γ:=(B,t.cells++bE x .junk)::Γ) X d oO oO;rw[<-eX,<-eE]at hbt;obtain⟨y,ey⟩:∃y,y=eqD X d:=⟨_,rfl⟩;rw[<-ey]at hsm hz;simp only[hφ];refine bFV ?_;have kp:=gZ k [0,1,2,3,4,5,6,8,10,11,12,15,30,31,32,33,47,73,74,75,76,102,128];refine pP [.raw (aA 117) ⟨.agg t.cells,kx,[],[]⟩,.ret (.tup [.agg X.cells,E])] ?_;refine jV (zs ?_) (zs ?_) (zs ?_);.exact aFR rfl rfl (by simp only[AM.look];rfl) rfl
  all_goals(try exact hbt)
  refine bFV ?_;by_cases h0:E=0
  .have hz':z= !y:=by rw[hz,decide_eq_true h0,lG]
   subst h0;refine pP [.ret y] ?_;refine jV ⟨⟨λ hg=>⟨?_⟩⟩⟩ ⟨⟨λ hg=>⟨?_⟩⟩⟩ ⟨⟨λ hg=>⟨?_⟩⟩⟩;all_goals(try exact hsm)
   all_goals(try exact absurd trivial ‹¬True›)
   refine bFW ⟨(),kx+1,?_⟩;rw[hz'];exact gM
  have hz':z=aB:=by rw[hz,decide_eq_false h0,KU];rfl
  have uU:=h0;refine pP [] ?_;refine oU ⟨⟨λ hg=>⟨?_⟩⟩⟩;refine bFW ⟨(),kx+1,?_⟩;rw[hz'];exact gM
 intro _ _;exact hrest
theorem aPH(s:St)(d:DE)(hrt:dQ s=[])(hp:PreW s)(hr:DSm d)(hd:d.size<=500)(h2:s.nt+d.n4<=200)(hright:AM.Pure aD Γ 24 [.agg s.cells] aB)(hok:HN s d=aB)(k:Nat):
 AM.Tr aD Γ 22 k [.agg s.cells,.agg d.cells] [] (λ k1 r1 H1=>k1=k+(24+s.ns)/\r1= .tup [.agg (LB k s.nk (IF s d)),(0:Int)]/\H1=DT k s.nk (IF s d)):=by
 obtain⟨hrc,q1,q2,q3,q4,q5⟩:=CZ hrt;have hnt:=hp.nt;obtain⟨RH,eRH⟩:∃x:aO,x=DT k s.nk (IF s d):=⟨_,rfl⟩;obtain⟨RV,eRV⟩:∃x:AVal,x= .tup [.agg (LB k s.nk (IF s d)),.lit (.int .i64 0)]:=⟨_,rfl⟩;refine Tr.mono (dR (kk:=k+(24+s.ns)) (V:=RV) (RH:=RH) oO ?_ ?_ ?_) (λ _ _ _ h=>⟨h.1,h.2.1.trans eRV,h.2.2.trans eRH⟩);.rw[eRV];unfold LB;simp-dsimp-implicitDefEqProofs (disch:=omega)only[go_sem,gY,RE,ltB_iff,aM,eq_self,↓reduceIte];try(simp only[aH,dTt];omega)
 .have hf:=zR (s:=3) (R:=λ g=>pY s.nk ((IF s d).sp g)) (show k+21+(IF s d).ns<=k+(24+s.ns)by show k+21+s.ns<=_;omega);have ho:((sY (k+21) (IF s d).ns s.nk (IF s d).ns).all λ row=>row.all (iM (jS (k+(24+s.ns)))))=aB:=HG (by show k+21+s.ns<=_;omega);rw[eRH];unfold DT;simp only[oM]at hf;simp only[oM,fU,hf,ho,jS,AD,AE,iC,aH,dTt];repeat'(first|(refine And.intro ?_ ?_)|omega|trivial)
 obtain⟨POST,ePOST⟩:∃P:Nat->AVal->aO->Prop,P=λ _ r1 H1=>r1=RV/\QS H1 RH:=⟨_,rfl⟩;rw[<-ePOST];refine aPI s s.nk d oO q1 oO rfl hrc.1 (λ g hg=>hrc.2 g hg) q3 oO oO oO oO hright k _ ?_;suffices h:AM.W aD Γ 131 k (hY (gN Tryz.f22) [1,1,1,1,1,1,1,1,1,1]) (EQ aD Tryz.f22 POST) (k+3+(20+s.ns)+1) [(2,.rp s.cells),(3,.rp d.cells),(4,.ptr (k+2) 0 0),(5,(0:Int)),(6,.ptr (k+3) 0 0)] ((k+3,⟨7,aE,[LB k s.nk (IF s d)]⟩)::(k+2,⟨7,aB,[[(0:Int),.lit (.int .u64 0),(),(),(),(),()]]⟩)::DT k s.nk (IF s d))by have e:=aZM s d;unfold DT at h;rw[e]at h;exact h
 refine gW rfl ?_;refine aPJ s d hrt hp hr hd h2 aE (by rw[hok];rfl) k _ ?_;obtain⟨OC,eOC⟩:∃c,c=LB k s.nk (IF s d):=⟨_,rfl⟩;obtain⟨OH',eOH⟩:∃h,h=DT k s.nk (IF s d):=⟨_,rfl⟩;rw[<-eOC,<-eOH];have hOl:OC.length=7:=by rw[eOC];rfl
 have hO1:OC.all AM.one=aB:=by rw[eOC];rfl
 have hOc:OC.all clean=aE:=by rw[eOC];rfl
 have hOt:OC.take 7=OC:=by rw[eOC];rfl
 have kp:=gZ k [0,1,2,3,4,5,6,8,10,11,12,15,30,31,32,33,47,73,74,75,76,102,128];have uU:=DR hOl hO1 hOc hOt;refine fC ?_;refine dI λ ht=>?_;refine bV rfl ?_;refine fJ ?_;apply zN;refine⟨_,rfl,?_⟩;rw[ePOST];refine⟨?_,?_⟩;.rw[eRV,eOC]
 rw[eRH,eOH];unfold DT;exact fJ gG
theorem aXR(s:St)(d:DE)(hrt:dQ s=[])(hp:PreW s)(hr:DSm d)(hd:d.size<=500)(h2:s.nt+d.n4<=200)(hright:AM.Pure aD Γ 24 [.agg s.cells] aB)(hok:HN s d=aB):
 AM.Pure aD Γ 22 [.agg s.cells,.agg d.cells] (.tup [.agg (IF s d).cells,(0:Int)]):=by
 obtain⟨hrc,_⟩:=CZ hrt;refine aDG λ k=>(aPH s d hrt hp hr hd h2 hright hok k).mono ?_;rintro k1 r1 H1 ⟨_,rfl,rfl⟩;refine Bor.tup rfl λ j v v' h1 h2=>?_
 match j with
 |0=>cases h1;cases h2;exact a0R (ZW rfl hrc.1 (λ g hg=>hrc.2 g hg))
 |1=>cases h1;cases h2;exact Bor.lit
 |j+2=>simp at h1
theorem apC{α:Type}{a:α}{l m:List α}:List.append (a::l) m=a::List.append l m:=rfl
theorem apE{α:Type}{m:List α}:List.append [] m=m:=rfl
section
variable{P:Program}{nt kb:Nat}{Q:AQ}{k:Nat}{fr:Fr}{H:aO}{c:Code}{p:List Nat}
theorem aYI{id:Nat}{l l':List Oper}(hc:hY c p= .region id l.toArray aE)(hl:l=l')(keep:List Nat)(cs:List Orc)(hd:mQ nt l'.toArray=aB)
 (h:∀K:List Foot->Nat->Fr->aO->Prop,(∀tr k' fr' H',(kb<=k'->Q .normal k' (kU keep fr') H')->K tr k' fr' H')->FH P Γ l'.toArray l' cs k fr H K .mk):AM.W P Γ nt kb (hY c p) Q k fr H:=by subst hl;exact KT hc keep cs hd h
end
def ckB(s:St)(i:Nat):Bool:=decide (s.clk i<0\/281474976710656<s.clk i)
theorem bFN(t:Int):AM.Pure aD Γ 132 [t] (decide (t<0\/281474976710656<t)):=by
 refine bT Tryz.func132 rfl 9 rfl bB rfl λ k=>?_;have kp:=gZ k [0,2];refine wl ?_;refine SG ⟨⟨λ hg=>⟨?_⟩⟩⟩ ⟨⟨λ hg=>⟨?_⟩⟩⟩;all_goals(refine bV rfl ⟨_,rfl,bC ?_⟩)
 all_goals(simp only[AVal.lit.injEq,EA.injEq];rw[bH];simp only[beq_iff_eq,bne_iff_ne,ne_eq,dTt,dFn,aH,bL,bD,beq_eq_false_iff_ne,aS,bX,true_iff,false_iff,iff_true,iff_false];omega)
theorem bFO(s:St)(n:Nat)(hn:n<=1000):AM.Pure aD Γ 210 [.rd 1 n (kf s),.fn 132 []] (idx (ckB s) n):=by
 refine bT Tryz.func210 rfl 19 rfl bB rfl λ k=>?_;have kp:=gZ k [0,1,4,5,7,8,9,16];refine wl ?_;refine cA ?_;refine bY (X:=Nat) rfl [0,1,4,5,7,8,9,16] k (λ i=>[(8,i)]) (λ i=>[]) (λ i=>i<=n/\∀j,j<i->ckB s j=aE) (λ i=>n-i) 0 ?_ ⟨aZ _,λ j hj=>absurd hj (bO _)⟩ ?_;.refine rR ?_;apply zN;exact pQ
 rintro i ⟨hi,hall⟩;refine rR ?_;apply zN;refine wl ?_;refine oT (λ ht=>?_) λ ht=>?_
 .refine cl [.ret (ckB s i)] ?_;refine iE ?_ ?_;.exact bFN (s.clk i)
  refine wl ?_;refine oT (λ ht=>?_) λ ht=>?_;.refine bV rfl ⟨_,rfl,bC ?_⟩;rw[idx,zC hall ht oO]
  refine⟨i+1,⟨oO,λ j hj=>?_⟩,oO,?_⟩
  .by_cases he:j=i;.subst he;exact ht
   exact hall j oO
  refine rR ?_;apply zN;exact pQ
 refine bV rfl ⟨_,rfl,bC ?_⟩;rw[idx,wU (λ j hj=>hall j oO)]
theorem bFP(s:St)(n:Nat)(hn:n<=1000):AM.Pure aD Γ 131 [.rd 1 n (kf s),.fn 132 []] (mM (ckB s) n):=by
 refine bT Tryz.func131 rfl 9 rfl bB rfl λ k=>?_;have kp:=gZ k [0,1,4];refine wl ?_;refine cA ?_;refine cl [.ret (idx (ckB s) n)] ?_;refine iE ?_ ?_;.exact bFO s n hn
 refine bV rfl ⟨_,rfl,bC ?_⟩;rw[ME]
def WC(s:St)(n:Nat)(t:Tk):Bool:=decide (1<=t.id/\t.id<=65535/\0<=t.group/\t.group<s.ns/\0<=t.cpu/\t.cpu<n/\(1<=t.weight/\t.weight<=65536)/\t.mask/2^n=0/\t.mask/2^t.cpu.toNat%2=1/\pK t.v t.r t.weight=aB)
theorem aND(s:St)(t:Tk)(n:Nat)(h1:1<=n)(h2:n<=64)(hc:s.cpus=n)(hm0:0<=t.mask)(hm1:t.mask<18446744073709551616)(hns:s.ns<=1000):
 AM.Pure aD Γ 135 [.agg s.cells,.agg (tkc t)] (WC s n t):=by
 obtain⟨T,eT⟩:∃T,T=tkc t:=⟨_,rfl⟩;obtain⟨RV,eRV⟩:∃v,v=AVal.lit (.bool (WC s n t)):=⟨_,rfl⟩;rw[<-eRV];refine bT Tryz.func135 rfl 72 rfl bB (by rw[eRV];rfl) λ k=>?_;by_cases hcp:0<=t.cpu/\t.cpu<n
 .have hneg:(t.cpu<0)=False:=eq_false oO;have hmb:=qC (x:=t.mask) (c:=t.cpu) hm0 hm1 hcp.1 oO;have hw:=wP t.weight (Γ:=Γ);have hwd:=aJK t.mask n h1 h2 hm0 hm1 (Γ:=Γ);have kp:=gZ k [0,1,2,3,4];have uU:=rA hc @tkc.eq_1 @apC @apE hneg hmb;refine wl ?_;refine cA ?_;refine aYI (l':=?l) rfl ?hl [0,1,2,3,4] [.ret (decide (1<=t.weight/\t.weight<=65536)),.ret (decide (t.mask/2^n≠0)),.ret (enc t.v t.r t.weight),.ret (pK t.v t.r t.weight)] ?hd (λ K hK=>?h);case hl=>simp only[apC,apE];(try rfl)
  case hd=>rfl
  refine rR ?_;apply zN;((repeat'(first|(refine And.intro ?_ ?_)|(refine kY (λ hb=>?_) (λ hb=>?_)<;>(have hg:=hb;(try simp only[nfb]at hg);simp-dsimp-implicitDefEqProofs only[go_sem,hc,tkc,apC,apE,hneg,hmb,hb,hg,eq_self,↓reduceIte];clear hb;(try simp only[nfe]at hg))))));all_goals(try(first|exact hw|exact hwd))
  all_goals(try(exact qB _ _ _ oO oO))
  all_goals(try(exact lB _ _ _ oO oO))
  any_goals (refine hK _ _ _ _ (λ hx=>?_))
  all_goals(try(clear hx hK))
  all_goals(try(simp-dsimp-implicitDefEqProofs only[go_sem,hc,tkc,apC,apE,hneg,hmb,eq_self,↓reduceIte]))
  all_goals(refine bV rfl ⟨_,rfl,?_⟩)
  all_goals(rw[eRV];refine bC ?_;simp only[WC])
  all_goals(first
   |(rw[decide_eq_false (λ h=>by obtain⟨a1,a2,a3,a4,a5,a6,a7,a8,a9,a10⟩:=h;first|omega|exact hg a8|exact hg a7|exact hg a9)])
   |(congr 2;rw[bH,dTt];exact⟨λ h=>⟨by assumption,by assumption,by assumption,by assumption,by assumption,by assumption,by assumption,Classical.byContradiction (by assumption),by assumption,h⟩,λ h=>h.2.2.2.2.2.2.2.2.2⟩))
 skip
 have hw:=wP t.weight (Γ:=Γ);have hwd:=aJK t.mask n h1 h2 hm0 hm1 (Γ:=Γ);have kp:=gZ k [0,1,2,3,4];have uU:=ID hc @tkc.eq_1 @apC @apE @aF;refine wl ?_;refine cA ?_;refine aYI (l':=?l) rfl ?hl [0,1,2,3,4] [.ret (decide (1<=t.weight/\t.weight<=65536)),.ret (decide (t.mask/2^n≠0)),.ret (enc t.v t.r t.weight),.ret (pK t.v t.r t.weight)] ?hd (λ K hK=>?h);case hl=>simp only[apC,apE];(try rfl)
 case hd=>rfl
 refine rR ?_;apply zN;((repeat'(first|(refine And.intro ?_ ?_)|(refine kY (λ hb=>?_) (λ hb=>?_)<;>(have hg:=hb;(try simp only[nfb]at hg);simp-dsimp-implicitDefEqProofs only[go_sem,hc,tkc,apC,apE,aF,hb,hg,eq_self,↓reduceIte];clear hb;(try simp only[nfe]at hg))))));all_goals(try(exfalso;omega))
 all_goals(try(first|exact hw|exact hwd))
 all_goals(try(exact qB _ _ _ oO oO))
 all_goals(try(exact lB _ _ _ oO oO))
 any_goals (refine hK _ _ _ _ (λ hx=>?_))
 all_goals(try(clear hx hK))
 all_goals(try(simp-dsimp-implicitDefEqProofs only[go_sem,hc,tkc,apC,apE,aF,eq_self,↓reduceIte]))
 all_goals(refine bV rfl ⟨_,rfl,?_⟩)
 all_goals(rw[eRV];refine bC ?_;simp only[WC])
 all_goals(first
  |(rw[decide_eq_false (λ h=>by obtain⟨a1,a2,a3,a4,a5,a6,a7,a8,a9,a10⟩:=h;first|omega|exact hg a8|exact hg a7|exact hg a9)])
  |(congr 2;rw[bH,dTt];exact⟨λ h=>⟨by assumption,by assumption,by assumption,by assumption,by assumption,by assumption,by assumption,Classical.byContradiction (by assumption),by assumption,h⟩,λ h=>h.2.2.2.2.2.2.2.2.2⟩))
def SpP(s:St)(n g c:Nat):Prop:=pK (s.sp g c).v (s.sp g c).r (s.wt g)=aB/\(g=0->(s.sp g c).v=0/\(s.sp g c).r=0)
structure ShP (s:St) (n:Nat):Prop where
 nk:s.nk=n
 nu:s.nu=n
 ns:s.ns=s.ng
 ck:∀i,i<s.nk->ckB s i=aE
 sp:∀g,g<s.ns->s.nsp g=n/\∀c,c<n->SpP s n g c
 tk:∀i,i<s.nt->(0<i->(s.tsk (i-1)).id<(s.tsk i).id)/\WC s n (s.tsk i)=aB
theorem aCW{p:Nat->Bool}:∀ {n:Nat},mM p n=aE->∀i,i<n->p i=aE
 |0,_,i,hi=>absurd hi (bO _)
 |n+1,h,i,hi=>by
  rw[mM,fO]at h;rcases jF.1 hi with h'|rfl;.exact aCW h.1 i h'
  exact h.2
theorem a1I(s:St)(hs:s.Small)(hk:Kinds s)(n:Nat)(h1:1<=n)(h2:n<=64)(hc:s.cpus=n)(hm:nB s=aB)(hwt:∀g,g<s.ng->1<=s.wt g/\s.wt g<=65536)(b:Bool)(hb:b=aB↔ShP s n):
 AM.Pure aD Γ 75 [.agg s.cells] b:=by
 obtain⟨hng,hnk,hnu,hnt,hns,hnsp⟩:=id hs
 have hno:¬ShP s n->b=aE:=λ h=>by
  cases hb':b with
  |false=>rfl
  |true=>exact absurd (hb.1 hb') h
 have hrc:=wN (MM Γ) s;rw[hm]at hrc;have hca:=bFP s s.nk hnk (Γ:=Γ);refine bT Tryz.func75 rfl 123 rfl bB rfl λ k=>?_;have kp:=gZ k [0,1,2,3,4,6,7,8,40,43,45,46,47,48,57,58,59,60,61,91,95,96,97,98,121];refine wl ?_;refine cA ?_;refine cl [.ret aB] ?_;refine CM (zs ?_) ⟨⟨λ hg hg=>⟨?_⟩⟩⟩ ⟨⟨λ hg hg=>⟨?_⟩⟩⟩ ⟨⟨λ hg=>⟨?_⟩⟩⟩;all_goals(try exact hrc)
 .refine wl ?_;refine oT (λ ht=>?_) λ ht=>?_
  .have hbf:=hno λ h=>by have:=h.ns;omega
   subst hbf;refine bV rfl ⟨_,rfl,bJ _⟩
  refine cl [.ret (mM (ckB s) s.nk)] ?_;refine cA ?_;all_goals(try exact hca)
  have hnn:s.nk=n:=oO;have hsg:s.ns=s.ng:=oO
  cases hck:mM (ckB s) s.nk with
  |true=>
   have hbf:=hno λ h=>by have:=zV h.ck;rw[hck]at this;cases this
   subst hbf;have uU:=hck;refine wl ?_;refine dI λ ht=>?_;refine bV rfl ⟨_,rfl,bJ _⟩
  |false=>
   have uU:=hck;refine wl ?_;refine dI λ ht=>?_;refine bY (X:=Nat) rfl [0,1,2,3,4,6,7,8,40,43,45,46,47,48,57,58,59,60,61,91,95,96,97,98,121] (k+1) (λ g=>[(47,g)]) (λ g=>[(k,⟨7,aB,[s.cells]⟩)]) (λ g=>g<=s.ns/\∀g',g'<g->s.nsp g'=n/\∀c,c<n->SpP s n g' c) (λ g=>s.ns-g) 0 ?_ ⟨aZ _,λ g' h=>absurd h (bO _)⟩ ?_;.have uU:=Go.AM.uU;refine rR ?_;apply zN;exact pQ
   rintro g ⟨hg1,hall⟩;have uU:=Go.AM.uU;refine rR ?_;apply zN;by_cases hgn:g<s.ns
   .have hw:=hwt g oO;have hsp:=hnsp g hgn;refine wl ?_;refine SG ⟨λ ht ht=>zN ?_⟩ ⟨λ ht ht=>zN ?_⟩;.have hbf:=hno λ h=>ht (by rw[(h.sp g hgn).1,hc]);subst hbf;refine bV rfl ⟨_,rfl,bJ _⟩
    have hpn:s.nsp g=n:=oO;refine bY (X:=Nat) rfl [0,1,2,3,4,6,7,8,40,43,45,46,47,48,57,58,59,60,61,91,95,96,97,98,121] (k+1) (λ c=>[(60,c)]) (λ c=>[(k,⟨7,aB,[s.cells]⟩)]) (λ c=>c<=s.nsp g/\∀c',c'<c->SpP s n g c') (λ c=>s.nsp g-c) 0 ?_ ⟨aZ _,λ c' h=>absurd h (bO _)⟩ ?_;.refine rR ?_;apply zN;exact pQ
    rintro c ⟨hc1,hal⟩;refine rR ?_;apply zN;by_cases hcn:c<s.nsp g
    .have he:=qB (s.sp g c).v (s.sp g c).r (s.wt g) oO oO (Γ:=Γ);have hch:=lB (s.sp g c).v (s.sp g c).r (s.wt g) oO oO (Γ:=Γ);have hwr:lM.wrap (s.wt g)=s.wt g:=wrap_u32 oO oO;have uU:=hwr;refine wl ?_;refine dI λ ht=>?_;refine dl [.ret (enc (s.sp g c).v (s.sp g c).r (s.wt g)),.ret (pK (s.sp g c).v (s.sp g c).r (s.wt g))] ?_;refine CM ⟨⟨λ hg hg hg=>⟨?_⟩⟩⟩ ⟨⟨λ hg hg hg=>⟨?_⟩⟩⟩ ⟨⟨λ hg hg=>⟨?_⟩⟩⟩ ⟨⟨λ hg=>⟨?_⟩⟩⟩;all_goals(try(first|exact he|exact hch))
     .refine wl ?_;refine oT (λ ht=>?_) λ ht=>?_
      .have hbf:=hno λ h=>by have:=((h.sp g hgn).2 c oO).2 oO;omega
       subst hbf;refine bV rfl ⟨_,rfl,bJ _⟩
      refine⟨c+1,⟨oO,λ c' hc'=>?_⟩,oO,?_⟩
      .rcases jF.1 hc' with h|rfl;.exact hal c' h
       exact⟨by assumption,λ _=>⟨oO,oO⟩⟩
      refine rR ?_;apply zN;(have uU:=hwr;exact qT)
     .have hbf:=hno λ h=>by have:=((h.sp g hgn).2 c oO).2 oO;omega
      subst hbf;refine wl ?_;refine dI λ ht=>?_;refine bV rfl ⟨_,rfl,bJ _⟩
     .refine wl ?_;refine dI λ ht=>?_;refine⟨c+1,⟨oO,λ c' hc'=>?_⟩,oO,?_⟩
      .rcases jF.1 hc' with h|rfl;.exact hal c' h
       exact⟨by assumption,λ h=>absurd h oO⟩
      refine rR ?_;apply zN;(have uU:=hwr;exact qT)
     have hbf:=hno λ h=>by have:=((h.sp g hgn).2 c oO).1;rw[hg]at this;cases this
     subst hbf;refine wl ?_;refine dI λ ht=>?_;refine bV rfl ⟨_,rfl,bJ _⟩
    have hcn:c=s.nsp g:=oO;subst hcn;refine wl ?_;refine dI λ ht=>?_;refine⟨g+1,⟨oO,λ g' hg'=>?_⟩,oO,?_⟩
    .rcases jF.1 hg' with h|rfl;.exact hall g' h
     exact⟨hpn,λ c hc=>hal c oO⟩
    refine rR ?_;apply zN;exact pQ
   have hgn:g=s.ns:=oO;subst hgn;refine wl ?_;refine dI λ ht=>?_;refine bY (X:=Nat) rfl [0,1,2,3,4,6,7,8,40,43,45,46,47,48,57,58,59,60,61,91,95,96,97,98,121] (k+1) (λ i=>[(97,i)]) (λ i=>[(k,⟨7,aB,[s.cells]⟩)]) (λ i=>i<=s.nt/\∀j,j<i->(0<j->(s.tsk (j-1)).id<(s.tsk j).id)/\WC s n (s.tsk j)=aB) (λ i=>s.nt-i) 0 ?_ ⟨aZ _,λ j h=>absurd h (bO _)⟩ ?_;.refine rR ?_;apply zN;exact pQ
   rintro i ⟨hi1,hti⟩;refine rR ?_;apply zN;by_cases hin:i<s.nt
   .have hrt:=aND s (s.tsk i) n h1 h2 hc (hk.wf.mask0 i) (hk.wf.mask1 i) hns (Γ:=Γ);simp only[tkc]at hrt;refine wl ?_;refine dI λ ht=>?_
    cases hok:WC s n (s.tsk i)with
    |false=>
     have hbf:=hno λ h=>by have:=(h.tk i hin).2;rw[hok]at this;cases this
     subst hbf;rw[hok]at hrt;rcases i with _|j
     .skip
      refine dl [.ret aE] ?_;refine iE ?_ ?_;all_goals(try exact hrt)
      refine wl ?_;refine dI λ ht=>?_;refine bV rfl ⟨_,rfl,bJ _⟩
     have hj1:aL.wrap ((j:Int)+1-1)=(j:Int):=by rw[(oO:(j:Int)+1-1=j)];exact wrap_i64 oO oO
     have hj2:(0:Int)<(j:Int)+1:=oO;have hj3:j<s.nt:=oO;have uU:=tZ hj1 hj2 hj3;refine dl [.ret aE] ?_;refine jV ⟨⟨λ hg=>⟨?_⟩⟩⟩ ⟨⟨λ hg=>⟨?_⟩⟩⟩ ⟨⟨λ hg=>⟨?_⟩⟩⟩;all_goals(try exact hrt)
     .refine wl ?_;refine dI λ ht=>?_;refine bV rfl ⟨_,rfl,bJ _⟩
     refine wl ?_;refine dI λ ht=>?_;refine bV rfl ⟨_,rfl,bJ _⟩
    |true=>
     rw[hok]at hrt;rcases i with _|j
     .skip
      refine dl [.ret aB] ?_;refine iE ?_ ?_;all_goals(try exact hrt)
      refine wl ?_;refine dI λ ht=>?_;refine⟨0+1,⟨oO,λ j' hj'=>?_⟩,oO,?_⟩;.obtain rfl:j'=0:=oO;exact⟨λ h=>absurd h (qR _),hok⟩
      refine rR ?_;apply zN;exact pQ
     have hj1:aL.wrap ((j:Int)+1-1)=(j:Int):=by rw[(oO:(j:Int)+1-1=j)];exact wrap_i64 oO oO
     have hj2:(0:Int)<(j:Int)+1:=oO;have hj3:j<s.nt:=oO;have uU:=tZ hj1 hj2 hj3;refine dl [.ret aB] ?_;refine jV ⟨⟨λ hg=>⟨?_⟩⟩⟩ ⟨⟨λ hg=>⟨?_⟩⟩⟩ ⟨⟨λ hg=>⟨?_⟩⟩⟩;all_goals(try exact hrt)
     .refine wl ?_;refine dI λ ht=>?_;refine⟨j+1+1,⟨oO,λ j' hj'=>?_⟩,oO,?_⟩
      .rcases jF.1 hj' with h|rfl;.exact hti j' h
       refine⟨λ _=>?_,hok⟩;rw[a4V];omega
      refine rR ?_;apply zN;(have uU:=tZ hj1 hj2 hj3;exact qT)
     have hbf:=hno λ h=>by have:=(h.tk (j+1) hin).1 oO;rw[a4V]at this;omega
     subst hbf;refine wl ?_;refine dI λ ht=>?_;refine bV rfl ⟨_,rfl,bJ _⟩
   have hin:i=s.nt:=oO;subst hin;have hbt:b=aB:=hb.2 ⟨hnn,oO,hsg,aCW hck,λ g hg=>⟨(hall g hg).1,(hall g hg).2⟩,λ i hi=>hti i hi⟩;subst hbt;refine wl ?_;refine dI λ ht=>?_;refine bV rfl ⟨_,rfl,bJ _⟩
 .have hbf:=hno λ h=>hg (by rw[h.nu,hc]);subst hbf;refine wl ?_;refine dI λ ht=>?_;refine bV rfl ⟨_,rfl,bJ _⟩
 have hbf:=hno λ h=>hg (by rw[h.nk,hc]);subst hbf;refine wl ?_;refine dI λ ht=>?_;refine bV rfl ⟨_,rfl,bJ _⟩
end Go.Proofs.T
end
section
namespace Go.Proofs.T
open Go Go.AM Go.Proofs
attribute [local irreducible] jE del
variable{Γ:dL}
theorem aTE(s:St)(hm:nB s=aE):AM.Pure aD Γ 75 [.agg s.cells] aE:=by
 have hrc:=wN (MM Γ) s;rw[hm]at hrc;refine bT Tryz.func75 rfl 123 rfl bB rfl λ k=>?_;have kp:=gZ k [0,1,2,3,4,6,7,8,40,43,45,46,47,48,57,58,59,60,61,91,95,96,97,98,121];refine wl ?_;refine cA ?_;refine cl [.ret aE] ?_;refine iE ?_ ?_;all_goals(try exact hrc)
 refine wl ?_;refine dI λ ht=>?_;refine bV rfl ⟨_,rfl,bJ _⟩
theorem aJL(s:St)(hsh:AM.Pure aD Γ 75 [.agg s.cells] aE):AM.Pure aD Γ 24 [.agg s.cells] aE:=by
 refine bT Tryz.func24 rfl 81 rfl bB rfl λ k=>?_;have kp:=gZ k [0,1,2,3,4,5,6,7,8,9,10,13,18,19,20,21,52,54,55,56,57,78];refine wl ?_;refine cA ?_;refine cl [.ret aE] ?_;refine iE ?_ ?_;all_goals(try exact hsh)
 refine wl ?_;refine dI λ ht=>?_;refine bV rfl ⟨_,rfl,bJ _⟩
def SC(L:LSt)(c:Nat):Prop:=L.cur c=0\/∃j,j<L.tl.length/\(L.tsk j).ready=aB/\(L.tsk j).cpu=c/\(L.tsk j).id=L.cur c
def FlP(L:LSt)(c:Nat):Prop:=∀g,g<L.sl.length->∀x,FL L g c=aA x->x.v<=(L.sp g c).floor
theorem a8D(L:LSt)(n:Nat)(hs:L.st.Small)(hsh:AM.Pure aD Γ 75 [.agg L.st.cells] aB)(hP:ShP L.st n)(hso:zZ L)(hS:Shp L n)(hns:0<L.sl.length)
 (b:Bool) (hb:b=aB↔∀c,c<n->SC L c/\FlP L c):AM.Pure aD Γ 24 [.agg L.st.cells] b:=by
 have hno:¬(∀c,c<n->SC L c/\FlP L c)->b=aE:=λ h=>by
  cases hb':b with
  |false=>rfl
  |true=>exact absurd (hb.1 hb') h
 obtain⟨hng,hnk,hnu,hnt,hns',hnsp⟩:=id hs;have e1:L.st.nu=n:=hP.nu;have e0:L.st.ns=L.sl.length:=rfl;refine bT Tryz.func24 rfl 81 rfl bB rfl λ k=>?_;have kp:=gZ k [0,1,2,3,4,5,6,7,8,9,10,13,18,19,20,21,52,54,55,56,57,78];refine wl ?_;refine cA ?_;refine cl [.ret aB] ?_;refine iE ?_ ?_;all_goals(try exact hsh)
 refine wl ?_;refine dI λ ht=>?_;refine gL (gK (k+1) (by simp-dsimp-implicitDefEqProofs only[go_sem,eq_self,↓reduceIte];rfl) rfl) ?_;simp-dsimp-implicitDefEqProofs only[pS,jA,go_sem,eq_self,↓reduceIte];refine bY (X:=Nat) rfl [0,1,2,3,4,5,6,7,8,9,10,13,18,19,20,21,52,54,55,56,57,78] (k+2) (λ c=>[(20,c)]) (λ c=>[(k,⟨7,aB,[L.st.cells]⟩)]) (λ c=>c<=L.st.nu/\∀c',c'<c->SC L c'/\FlP L c') (λ c=>L.st.nu-c) 0 ?_ ⟨aZ _,λ c' h=>absurd h (bO _)⟩ ?_;.refine rR ?_;apply zN;exact pQ
 rintro c ⟨hc1,hall⟩;refine rR ?_;apply zN;by_cases hcn:c<L.st.nu
 .obtain⟨r,hr⟩:=aKR L (L.cur c);have hfd:=a5Y L (L.cur c) r hr hso hS.nt (Γ:=Γ);refine wl ?_;refine dI λ ht=>?_;refine cl [.ret r] ?_;refine iE ?_ ?_;all_goals(try exact hfd)
  refine FI (X:=Unit) rfl [0,1,2,3,4,5,6,7,8,9,10,13,18,19,20,21,52,54,55,56,57,78] (k+2) (λ _=>[]) (λ _=>[(k,⟨7,aB,[L.st.cells]⟩)]) (λ _=>SC L c) ?_ ?_
  .by_cases h0:L.cur c=0
   .have hcp:SC L c:= .inl h0;clear hfd hr hall;have h0':L.st.cur c=0:=h0;have uU:=zA h0' h0;refine wl ?_;refine zq7 ⟨⟨λ hg hg=>⟨?_⟩⟩⟩ ⟨⟨λ hg hg hg=>⟨?_⟩⟩⟩ ⟨λ ht=>⟨λ hg hg hg=>⟨?_⟩⟩⟩ ⟨λ ht=>⟨λ hg hg hg=>⟨?_⟩⟩⟩ ⟨λ ht=>⟨λ hg hg hg=>⟨?_⟩⟩⟩ ⟨λ ht=>⟨λ hg hg=>⟨?_⟩⟩⟩ ⟨λ ht=>⟨λ hg=>⟨?_⟩⟩⟩;all_goals(try exact absurd trivial ‹¬True›)
    all_goals(refine⟨(),hcp,?_⟩;(have uU:=zA h0' h0;exact qT))
   have h0':¬L.st.cur c=0:=h0;rcases hr with⟨rfl,hnone⟩|⟨i,hi,rfl,hid⟩
   .have hncp:¬SC L c:=λ h=>by
     rcases h with h|⟨j,hj,_,_,h⟩;.exact absurd h h0
     exact absurd h (hnone j hj)
    have hbf:=hno λ h=>hncp (h c oO).1;subst hbf;clear hfd hall;have uU:=zA h0' h0;refine wl ?_;refine oU ⟨λ ht=>⟨λ hg=>⟨?_⟩⟩⟩;all_goals(try exact absurd trivial ‹¬True›)
    all_goals(refine bV rfl ⟨_,rfl,bJ _⟩)
   have hi':i<L.st.nt:=hi
   have hcb':SC L c->(L.tsk i).ready=aB/\(L.tsk i).cpu=c:=λ h=>by
    rcases h with h1|⟨j,hj,h2,h3,h4⟩;.exact absurd h1 h0
    have:j=i:=by
     rcases kA j i with e|e|e;.have:=hso j i e hi;omega
     .exact e
     have:=hso i j e hj;omega
    subst this;exact⟨h2,h3⟩
   have e8:(i:Int).toNat=i:=bP i;have e9:((i:Int)<0)=False:=eq_false oO
   cases hrd:(L.tsk i).ready with
   |false=>
    have hbf:=hno λ h=>by have:=(hcb' (h c oO).1).1;rw[hrd]at this;cases this
    subst hbf;have hrd':(L.st.tsk i).ready=aE:=hrd;clear hfd hall hcb';have uU:=xC h0' h0 hrd hrd' hi' e8 e9;refine wl ?_;refine oU ⟨λ ht=>⟨λ hg=>⟨?_⟩⟩⟩;all_goals(try exact absurd trivial ‹¬True›)
    all_goals(refine bV rfl ⟨_,rfl,bJ _⟩)
   |true=>
    have hrd':(L.st.tsk i).ready=aB:=hrd;by_cases hcp:(L.tsk i).cpu=c
    .have hcpp:SC L c:= .inr ⟨i,hi,hrd,hcp,hid⟩;have hcp':(L.st.tsk i).cpu=c:=hcp;have hbn:((c:Int)!=(c:Int))=aE:=by simp
     clear hfd hall hcb';have uU:=fP h0' h0 hrd hrd' hi' e8 e9 hcp (zA hcp' hbn);refine wl ?_;refine oU ⟨λ ht=>⟨λ hg=>⟨?_⟩⟩⟩;all_goals(try exact absurd trivial ‹¬True›)
     all_goals(refine⟨(),hcpp,?_⟩;(have uU:=fP h0' h0 hrd hrd' hi' e8 e9 hcp (zA hcp' hbn);exact qT))
    have hbf:=hno λ h=>hcp (hcb' (h c oO).1).2;subst hbf;have hcp':¬(L.st.tsk i).cpu=c:=hcp;have hne:((L.st.tsk i).cpu !=(c:Int))=aB:=by simpa using hcp'
    clear hfd hall hcb';have uU:=fP h0' h0 hrd hrd' hi' e8 e9 hcp (zA hcp' hne);refine wl ?_;refine oU ⟨λ ht=>⟨λ hg=>⟨?_⟩⟩⟩;all_goals(try exact absurd trivial ‹¬True›)
    all_goals(refine bV rfl ⟨_,rfl,bJ _⟩)
  rintro _ hcur;have hcn':c<n:=oO;clear hfd hr;refine rR ?_;apply zN;refine wl ?_;refine cA ?_;refine bY (X:=Nat) rfl [0,1,2,3,4,5,6,7,8,9,10,13,18,19,20,21,52,54,55,56,57,78] (k+2) (λ g=>[(56,g)]) (λ g=>[(k,⟨7,aB,[L.st.cells]⟩)]) (λ g=>g<=L.sl.length/\∀g',g'<g->∀x,FL L g' c=aA x->x.v<=(L.sp g' c).floor) (λ g=>L.sl.length-g) 0 ?_ ⟨aZ _,λ g' h=>absurd h (bO _)⟩ ?_;.refine rR ?_;apply zN;exact pQ
  rintro g ⟨hg1,hgall⟩;refine rR ?_;apply zN;by_cases hgn:g<L.sl.length
  .have hgn':g<L.st.ns:=hgn;have hle:=aUD L n c hS hcn' L.sl.length g hgn (Nat.sub_le _ _) (Γ:=Γ);have hrow:L.st.nsp g=n:=(hP.sp g hgn).1
   cases hl:FL L g c with
   |none=>
    rw[show iH L L.sl.length g c=aC from hl]at hle;have uU:=tZ hgn hgn' hrow;refine wl ?_;refine dI λ ht=>?_;refine cl [.ret (.tup [.agg [.lit (.int .u64 18446744073709551615),.lit (.int .u64 18446744073709551615),.lit (.int .u64 18446744073709551615)],aE])] ?_;refine iE ?_ ?_;all_goals(try exact hle)
    refine wl ?_;refine cA ?_;refine dl [] ?_;refine cA ?_;refine wl ?_;refine dI λ ht=>?_;refine⟨g+1,⟨oO,λ g' hg'=>?_⟩,oO,?_⟩
    .rcases jF.1 hg' with h|rfl;.exact hgall g' h
     intro x hx;rw[hl]at hx;cases hx
    refine rR ?_;apply zN;(have uU:=tZ hgn hgn' hrow;exact qT)
   |some x=>
    rw[show iH L L.sl.length g c=aA x from hl]at hle;have uU:=tZ hgn hgn' hrow;refine wl ?_;refine dI λ ht=>?_;refine cl [.ret (.tup [.agg [.lit (.int .u64 x.v),.lit (.int .u64 x.b),.lit (.int .u64 x.x)],aB])] ?_;refine iE ?_ ?_;all_goals(try exact hle)
    refine wl ?_;refine cA ?_;refine dl [.ret (.lit (.int .u64 x.v))] ?_;refine iE ?_ ?_;all_goals(try exact aJP _ _ _)
    refine wl ?_;refine oT (λ ht=>?_) λ ht=>?_
    .have hbf:=hno λ h=>by
      have:=(h c oO).2 g hgn x hl;have ht':(L.sp g c).floor<x.v:=by assumption
      omega
     subst hbf;refine bV rfl ⟨_,rfl,bJ _⟩
    refine⟨g+1,⟨oO,λ g' hg'=>?_⟩,oO,?_⟩
    .rcases jF.1 hg' with h|rfl;.exact hgall g' h
     intro y hy;rw[hl]at hy;cases hy;have ht':x.v<=(L.sp g' c).floor:=by assumption
     exact ht'
    refine rR ?_;apply zN;(have uU:=tZ hgn hgn' hrow;exact qT)
  have hgn:g=L.sl.length:=oO;subst hgn;refine wl ?_;refine dI λ ht=>?_;refine⟨c+1,⟨oO,λ c' hc'=>?_⟩,oO,?_⟩
  .rcases jF.1 hc' with h|rfl;.exact hall c' h
   exact⟨hcur,λ g hg=>hgall g hg⟩
  refine rR ?_;apply zN;exact pQ
 have hcn:c=L.st.nu:=oO;subst hcn;have hbt:b=aB:=hb.2 λ c hc=>hall c oO;subst hbt;refine wl ?_;refine dI λ ht=>?_;refine bV rfl ⟨_,rfl,bJ _⟩
theorem ckB_iff{s:St}{i:Nat}:ckB s i=aE↔0<=s.clk i/\s.clk i<=281474976710656:=by simp only[ckB,dFn];omega
theorem okTk_iff{s:St}{n:Nat}{t:Tk}:WC s n t=aB↔1<=t.id/\t.id<=65535/\0<=t.group/\t.group<s.ns/\0<=t.cpu/\t.cpu<n/\(1<=t.weight/\t.weight<=65536)/\t.mask/2^n=0/\t.mask/2^t.cpu.toNat%2=1/\pK t.v t.r t.weight=aB:=by simp only[WC,dTt]
theorem SN{L:LSt}(h:∀i,i<L.tl.length->0<i->(L.tsk (i-1)).id<(L.tsk i).id):zZ L:=λ i j hij=>by
 induction j with
 |zero=>omega
 |succ j ih=>
  intro hj;have h1:=h (j+1) hj oO;rw[a4V]at h1;by_cases e:i=j;.subst e;exact h1
  have:=ih oO oO;omega
theorem a5Z{v r w:Int}(h:pK v r w=aB):1<=w/\w<=65536:=by simp only[pK,dTt]at h;omega
theorem a3T{s:St}(h:iZ s=aB):∀g,0<g->g<s.ng->0<=s.par g/\s.par g<g:=λ g h1 h2=>by have:=(gT h).2 g h1 h2;simp only[okR,aH,dTt]at this;exact FZ h1 this.2
theorem aWW{s:St}(h:iZ s=aB):∀g,g<s.ng->1<=s.wt g/\s.wt g<=65536:=λ g h1=>by
 by_cases e:g=0;.subst e;have:=(gT h).1.2.2.2.2.2.2;omega
 have:=(gT h).2 g oO h1;simp only[okR,okW,aH,dTt]at this;exact this.1
theorem aSB{L:LSt}{n:Nat}(hP:PreW L.st)(hc:iZ L.st=aB)(hn:L.cpus=n)(h:ShP L.st n)(hcur:∀c,c<n->SC L c):Rt0 L n:=by
 obtain⟨⟨r1,r2,r3,r4,r5,r6,r7⟩,_⟩:=gT hc;have r1:1<=L.cpus:=r1;have r2:L.cpus<=64:=r2;have hsg:L.sl.length=L.gl.length:=h.ns;have r4:1<=L.gl.length:=r4;have r5:L.gl.length<=256:=r5;have hnt:L.tl.length<=200:=hP.nt
 refine⟨oO,oO,hn,hP.c0,r3,hsg.symm,oO,oO,h.nk,h.nu,λ g hg=>(h.sp g hg).1,oO,λ g h1 h2=>a3T hc g h1 (by show g<L.gl.length;omega),r6,λ g hg=>aWW hc g (by show g<L.gl.length;omega),
  λ c hcc=>ckB_iff.1 (h.ck c (by have:L.st.nk=n:=h.nk;omega)),λ g c hg hcc=>?_,λ c hcc=>((h.sp 0 (by show 0<L.sl.length;omega)).2 c hcc).2 rfl,λ i hi=>?_,SN λ i hi h0=>(h.tk i hi).1 h0,hcur⟩
 .obtain⟨a1,a2,a3,a4,a5⟩:=hP.spr g c;exact⟨((h.sp g hg).2 c hcc).1,a1,a2,a3,a4,a5⟩
 obtain⟨b1,b2,b3,b4,b5,b6,b7,b8,b9,b10⟩:=okTk_iff.1 (h.tk i hi).2;obtain⟨c1,c2,c3,c4,c5⟩:=hP.tkr i;exact⟨b1,b2,b3,b4,b5,b6,b10,c3,c4,c5,c1,c2,b8,b9⟩
theorem shp_of{L:LSt}{n:Nat}(h:Rt0 L n):ShP L.st n:=by have hng:=h.ng;refine⟨h.nk,h.nu,hng.symm,λ i hi=>ckB_iff.2 (h.clk i (by have hi:i<L.kl.length:=hi;rw[h.nk]at hi;exact hi)),λ g hg=>⟨h.rows g hg,λ c hc=>⟨(h.sp g c hg hc).1,λ e=>by subst e;exact h.root c hc⟩⟩,λ i hi=>⟨λ h0=>h.sorted (i-1) i oO hi,?_⟩⟩;have t:=h.tk i hi;exact okTk_iff.2 ⟨t.id1,t.id2,t.g0,t.g1,t.c0,t.c1,a5Z t.e,t.m2,t.m3,t.e⟩
theorem a8L{α:Type}{l:List α}(h:¬0<l.length):l=[]:=jU oO
theorem aMV{L:LSt}{n:Nat}(hP:PreW L.st)(hn:L.cpus.toNat=n)(h:dQ L.st=[]):Rt0 L n/\iZ L.st=aB:=by
 unfold dQ at h;by_cases hc:iZ L.st=aB;rotate_left 1
 .rw[iP (by simpa using hc)]at h;cases h
 rw[iN (by rw[hc];simp)]at h;obtain⟨⟨r1,r2,r3,r4,r5,r6,r7⟩,_⟩:=gT hc;have r1:1<=L.cpus:=r1;have r2:L.cpus<=64:=r2;have hcn:L.cpus=n:=oO;by_cases hs:0<(kX L.st).length;.rw[iP hs]at h;rw[h]at hs;simp at hs
 rw[iN hs]at h;by_cases hp:0<(oQ L.st).length;.rw[iP hp]at h;rw[h]at hp;simp at hp
 obtain⟨s1,s2,s3,s4⟩:=shapes_nil (s:=L.st) oO;have hp:=a8L hp;unfold oQ at hp;simp only[bBK]at hp;obtain⟨p1,p2,p3,p4,p5⟩:=hp;have s1:(L.kl.length:Int)=L.cpus:=s1;have s2:(L.ul.length:Int)=L.cpus:=s2;have s3:L.sl.length=L.gl.length:=s3;have s4:∀g,g<L.sl.length->(((L.sl.getD g []).length:Nat):Int)=L.cpus:=s4;have hct:L.st.cpus.toNat=n:=hn;rw[hct]at p4 p5;refine⟨aSB hP hc hcn ⟨by show L.kl.length=n;omega,by show L.ul.length=n;omega,s3,λ i hi=>?_,λ g hg=>⟨by show(L.sl.getD g []).length=n;have:=s4 g hg;omega,λ c hcc=>?_⟩,λ i hi=>?_⟩ λ c hcc=>?_,hc⟩;.have:=flats_nil_iff.1 p1 i hi;unfold pF at this;rw[mD]at this;exact this
 .have hr:g=0->(L.st.sp g c).v=0/\(L.st.sp g c).r=0:=λ e=>by subst e;have:=flats_nil_iff.1 p4 c hcc;unfold BJ at this;rw[mD,dFn]at this;have:=(hP.spr 0 c).1;have:=(hP.spr 0 c).2.2.1;omega
  refine⟨?_,hr⟩;by_cases e:g=0;.obtain⟨e1,e2⟩:=hr e;subst e;have e3:L.st.wt 0=1:=r7;rw[e1,e2,e3];rfl
  have:=flats_nil_iff.1 p3 g hg;unfold KX at this;rw[iN e]at this;have hg2:g<L.sl.length:=hg;have:=flats_nil_iff.1 this c (by show c<(L.sl.getD g []).length;have:=s4 g hg2;omega);unfold aIP at this;rw[mD,jI]at this;exact this
 .have hb:∀r:Nat,r<7->brk L.st i ((r:Int)+4)=aE:=λ r hr=>by have:=flats_nil_iff.1 (flats_nil_iff.1 p2 r hr) i hi;unfold KP at this;rw[mD]at this;exact this
  have b4:t4 L.st i=aE:=hb 0 oO;have b5:t5 L.st i=aE:=hb 1 oO;have b6:t6 L.st i=aE:=hb 2 oO;have b7:t7 L.st i=aE:=hb 3 oO;have b8:r8 L.st i=aE:=hb 4 oO;have b9:r9 L.st i=aE:=hb 5 oO;have b10:t10 L.st i=aE:=hb 6 oO;obtain⟨c1,c2,c3,c4,c5⟩:=hP.tkr i;simp only[t4,AF,dFn]at b4;simp only[t5,dFn]at b5;simp only[t6,dFn]at b6;simp only[t7,jI]at b7;simp only[r9,b7,lG,jI,aHH,dTt]at b9;simp only[onB,dTt]at b7;simp only[t10,jI]at b10;rw[<-aQT L.st hP.k.wf i (by show 0<=L.cpus;omega) r2]at b8;simp only[t8,AF,dFn]at b8;have hs3:(L.st.ns:Int)=L.st.ng:=by show(L.sl.length:Int)=L.gl.length;omega
  have hm:(L.st.tsk i).mask/2^n=0:=by
   have h0:0<=(L.st.tsk i).mask/2^n:=a5D c1 (AW oO);rcases b8 with b8|b8;.have b8:¬L.cpus<64:=b8;have:n=64:=oO;subst this;exact Int.ediv_eq_zero_of_lt c1 (by show _<(18446744073709551616:Int);exact c2)
   have b8:¬0<shr (L.st.tsk i).mask L.cpus:=b8;rw[shr,hcn,(oO:min ((n:Int).toNat) 64=n),dU _ (AW oO)]at b8;omega
  refine⟨λ h0=>?_,okTk_iff.2 ⟨oO,oO,oO,oO,b7.1,by have:(L.st.tsk i).cpu<L.cpus:=b7.2;omega,a5Z b10,hm,b9,b10⟩⟩;rcases b4 with b4|b4;.omega
  omega
 have:=flats_nil_iff.1 p5 c hcc;unfold AJ at this;rw[mD]at this;by_cases h0:L.cur c=0;.exact .inl h0
 have hd:decide (L.st.cur c≠0)=aB:=decide_eq_true h0;rw[hd,lG,jI,anyB_iff]at this;obtain⟨j,j1,j2⟩:=this;simp only[lZ,aH,dTt]at j2;exact .inr ⟨j,j1,j2.2.1,j2.2.2,j2.1⟩
theorem aNC{L:LSt}{n:Nat}(hP:PreW L.st)(hn:L.cpus.toNat=n):dQ L.st=[]↔iZ L.st=aB/\ShP L.st n/\∀c,c<n->SC L c/\FlP L c:=by
 have h12:L.sl.length<=12:=by have:L.sl.length<=12:=hP.ns;omega
 constructor;.intro h;obtain⟨h0,hc⟩:=aMV hP hn h;rw[h0.check h12 hc]at h;exact⟨hc,shp_of h0,λ c hcc=>⟨h0.cur c hcc,λ g hg=>flrL_nil.1 (flats_nil_iff.1 (flats_nil_iff.1 h g hg) c hcc)⟩⟩
 rintro⟨hc,hs,hf⟩;have hcn:L.cpus=n:=by have:1<=L.cpus:=(gT hc).1.1;omega
 have h0:=aSB hP hc hcn hs λ c hcc=>(hf c hcc).1;exact aCI h0 (λ g c hg hcc=>(hf c hcc).2 g hg) h12 hc
theorem bGR{a b:AVal}(h:VLe a b):VLes [a] [b]:= .cons h .nil
theorem aZK{s:St}(h:PreW s):PreW (tA s).st:=by
 have e1:(tA s).st.ng=s.ng:=by simp[tA,LSt.st]
 have e2:(tA s).st.nk=s.nk:=by simp[tA,LSt.st]
 have e3:(tA s).st.nu=s.nu:=by simp[tA,LSt.st]
 have e4:(tA s).st.nt=s.nt:=by simp[tA,LSt.st]
 have e5:(tA s).st.ns=s.ns:=by simp[tA,LSt.st]
 have e6:∀g,g<s.ns->(tA s).st.nsp g=s.nsp g:=λ g hg=>by show(((tA s).sl.getD g []).length)=_;simp only[tA];rw[kZ hg];simp
 refine aYM ⟨by rw[e1];exact h.sm.ng,by rw[e2];exact h.sm.nk,by rw[e3];exact h.sm.nu,by rw[e4];exact h.sm.nt,by rw[e5];exact h.sm.ns,λ g hg=>?_⟩ (by rw[e4];exact h.nt) (by rw[e5];exact h.ns) (λ g hg=>?_) h.c0 (λ i=>?_) (λ g c=>?_);.rw[e5]at hg;rw[e6 g hg];exact h.sm.nsp g hg
 .rw[e5]at hg;rw[e6 g hg];exact h.p1 g hg
 .show TkR ((tA s).tl.getD i default);by_cases hi:i<s.nt;.simp only[tA];rw[kZ hi];exact h.tkr i
  rw[qD (by simp[tA];omega)];exact⟨bR _,by decide,bR _,by decide,bR _⟩
 show SpR (((tA s).sl.getD g []).getD c default);by_cases hg:g<s.ns
 .simp only[tA];rw[kZ hg];by_cases hc:c<s.nsp g;.rw[kZ hc];exact h.spr g c
  rw[qD (by simp;omega)];exact⟨bR _,by decide,bR _,bR _,by decide⟩
 rw[qD (l:=(tA s).sl) (by simp[tA];omega)];exact⟨bR _,by show(0:Int)<=18446744073709551615;decide,bR _,bR _,by show(0:Int)<=18446744073709551615;decide⟩
theorem a7O(Γ:dL)(L:LSt)(hp:PreW L.st):AM.Pure aD Γ 24 [.agg L.st.cells] (.lit (.bool (dQ L.st).isEmpty)):=by
 obtain⟨n,hn⟩:∃n,L.cpus.toNat=n:=⟨_,rfl⟩;have hiff:=aNC hp hn;have hsm:=hp.sm;rw[show(dQ L.st).isEmpty=decide (dQ L.st=[])by cases dQ L.st<;>rfl];by_cases hc:iZ L.st=aB;rotate_left 1
 .rw[decide_eq_false (λ e=>hc (hiff.1 e).1)];exact aJL L.st (aTE L.st (by rw[CG];simpa using hc))
 obtain⟨⟨r1,r2,r3,r4,r5,r6,r7⟩,_⟩:=gT hc;have r1:1<=L.cpus:=r1;have r2:L.cpus<=64:=r2;have hcn:L.st.cpus=n:=by show L.cpus=n;omega
 obtain⟨sb,hsb⟩:∃sb:Bool,sb=aB↔ShP L.st n:=⟨@decide (ShP L.st n) (Classical.propDecidable _),sS⟩;have hsh:=a1I L.st hsm hp.k n oO oO hcn (by rw[CG];exact hc) (aWW hc) sb hsb (Γ:=Γ);by_cases hS:ShP L.st n;rotate_left 1
 .have e:sb=aE:=by
   cases sb with
   |false=>rfl
   |true=>exact absurd (hsb.1 rfl) hS
  rw[e]at hsh;rw[decide_eq_false (λ e=>hS (hiff.1 e).2.1)];exact aJL L.st hsh
 rw[hsb.2 hS]at hsh;have hlen:L.sl.length=L.gl.length:=hS.ns;have r4:1<=L.gl.length:=r4;refine a8D L n hsm hsh hS (SN λ i hi h0=>(hS.tk i hi).1 h0) ⟨hlen.symm,λ g hg=>(hS.sp g hg).1,by have:L.tl.length<=200:=hp.nt;omega,by have:L.sl.length<=12:=hp.ns;omega,λ i hi=>?_,λ g c hg hcc=>(hp.spr g c).2.1⟩ oO _ ?_;.obtain⟨b1,b2,_⟩:=okTk_iff.1 (hS.tk i hi).2;exact⟨by have b1:1<=(L.tsk i).id:=b1;omega,b2,(hp.tkr i).2.2.2.1⟩
 rw[dTt,hiff];exact⟨λ h=>h.2.2,λ h=>⟨hc,hS,h⟩⟩
theorem a0K(Γ:dL){s:St}(h:PreW s):AM.Pure aD Γ 24 [.agg s.cells] (.lit (.bool (dQ (tA s).st).isEmpty)):=aYL (a7O Γ (tA s) (aZK h)) (bGR (a6W s))
end Go.Proofs.T
end
section
namespace Go.Proofs.T
open Go Go.AM Go.Proofs
variable{Γ:dL}
theorem a1P(L:LSt)(h:L.gl.length=L.st.ng):Nrm L.st where
 g i hi:=by show(L.gl.getD i (0,0)).1=0/\(L.gl.getD i (0,0)).2=0;rw[qE (by rw[h];exact hi)];exact⟨rfl,rfl⟩
 k i hi:=qE hi
 u i hi:=qE hi
 t i hi:=qE hi
 n g hg:=by show(L.sl.getD g []).length=0;rw[qE hg];rfl
 s g c hc:=qE hc
theorem a0I{L:LSt}{n:Nat}(h:Rt0 L n)(h12:L.sl.length<=12)(hn:n<=12)(ht:L.tl.length<=200):PreW L.st:=by
 obtain⟨h1,h2,h3⟩:=h.preOk h12 hn
 have hf:∀g c,0<=(L.sp g c).floor/\(L.sp g c).floor<=18446744073709551615:=λ g c=>by
  by_cases hg:g<L.sl.length
  .by_cases hc:c<n;.have:=h.sp g c hg hc;exact this.2.2.2.2
   have e:L.sp g c=default:=by unfold LSt.sp;exact qD (by rw[h.rows g hg];omega)
   rw[e];exact⟨bR _,by show(0:Int)<=_;omega⟩
  have e:L.sp g c=default:=by unfold LSt.sp;rw[qD (l:=L.sl) oO];rfl
  rw[e];exact⟨bR _,by show(0:Int)<=_;omega⟩
 refine⟨h1,ht,h2,h3,h.cr0,h.kinds,λ i=>?_,λ g c=>(hf g c).1,λ g c=>(hf g c).2⟩;show 0<=(L.tsk i).v;by_cases hi:i<L.tl.length;.exact(h.tk i hi).v0
 have e:L.tsk i=default:=by unfold LSt.tsk;exact qD oO
 rw[e];exact bR _
structure Made35 (Γ:dL) (x:Nums) (f:Nat->Sm) (n ng:Nat) (Ls:Nat->LSt):Prop where
 n1:1<=n
 n4:n<=4
 g1:1<=ng
 g6:ng<=6
 rt:∀i,i<=900->Rt (Ls i) n/\(Ls i).tl.length<=i/\(Ls i).sl.length=ng
 lat:∀i j,i<=j->j<=900->Later (Ls i) (Ls j)
 made:∀nl z (q c:Nat),q=min nl 40->nl<=9223372036854775807->0<=z->z<=255->z%((q:Int)+1)=(c:Int)->AM.Pure aD Γ 20 [.agg x.cells,.rd 8 nl (λ i=>smc (f i)),.lit (.int .u8 z)] (.tup [.agg (Ls c).st.cells,.agg (Ls q).st.cells,aB])
theorem aAO(x:Nums)(hx:NumsOk x)(f:Nat->Sm)(hf:∀i,SmOk (f i)):∃n ng Ls,Made35 Γ x f n ng Ls:=by
 have hc0:=hx.c0;have hg0:=hx.g0;obtain⟨qg,hqg⟩:∃q:Nat,x.g%6=(q:Int):=⟨(x.g%6).toNat,oO⟩;obtain⟨n,hn⟩:∃q:Nat,1+x.c%4=(q:Int):=⟨(1+x.c%4).toNat,oO⟩;obtain⟨ng,hng⟩:∃g,g=qg+1:=⟨_,rfl⟩;have hok:=a1F hx (q:=qg) oO hn;have hsl:(lL (HJ (1+x.c%4) x.cr (kB x qg).1) n).sl.length=ng:=by rw[hng,←(uT x qg).1];exact gI
 obtain⟨Ls,zs,hR⟩:=a0H Γ hok rfl (λ i=>TC (f i)) (λ i=>a7X (hf i)) 17 (25+ng) (28+ng) oO oO;rw[hsl]at hR;refine⟨n,ng,Ls,oO,oO,oO,oO,hR.rt,λ i j h1 h2=>hR.later h1 h2,λ nl z q c h1 h2 h3 h4 h5=>?_⟩;exact aYJ rfl rfl (Tr.mono (aNT x hx f hf nl q c qg n ng z h1 h2 h3 h4 h5 hqg hn hng 0 Ls zs (by rw[show 0+17=17 from rfl,(oO:0+(25+ng)=25+ng),(oO:0+(28+ng)=28+ng)];exact hR)) (λ _ _ _ h=>by rw[h];exact bJ _))
structure Ms (s:St):Prop where
 nrm:Nrm s
 pre:PreW s
 ok:dQ s=[]
 nk:s.nk<=4
 ng:s.ng<=6
 ns:s.ns<=6
 nt:s.nt<=40
theorem Made35.ms {x:Nums}{f:Nat->Sm}{n ng:Nat}{Ls:Nat->LSt}(h:Made35 Γ x f n ng Ls){i:Nat}(hi:i<=40):Ms (Ls i).st:=by obtain⟨h1,h2,h3⟩:=h.rt i oO;have h4:=h.n4;have h6:=h.g6;exact⟨a1P _ rfl,a0I h1.r0 oO oO oO,aCI h1.r0 h1.fl oO h1.cfg,by show(Ls i).kl.length<=4;rw[h1.r0.nk];exact h4,by show(Ls i).gl.length<=6;rw[h1.r0.ng];omega,by show(Ls i).sl.length<=6;omega,by show(Ls i).tl.length<=40;omega⟩
theorem Made35.two {x:Nums}{f:Nat->Sm}{n ng:Nat}{Ls:Nat->LSt}(h:Made35 Γ x f n ng Ls){i j:Nat}(hi:i<=40)(hj:j<=40):Two (Ls i).st (Ls j).st:=by
 have key:∀ {i j:Nat},i<=40->j<=40->i<=j->Two (Ls i).st (Ls j).st:=λ {i j} hi hj hij=>
  ⟨(h.ms hi).nrm,(h.ms hj).nrm,(h.ms hi).ok,(h.ms hj).ok,by have h1:=(h.rt i oO).1;have h2:=(h.rt j oO).1;have h3:=h.lat i j hij oO;have h4:=h1.r0.ng;have h5:=h2.r0.ng;have h6:=h3.ns;exact al_iff.2 ⟨h3.cpus.symm,h3.credit.symm,by show(Ls i).gl.length=(Ls j).gl.length;omega,λ g _=>(h3.par g).symm⟩⟩
 by_cases hij:i<=j;.exact key hi hj hij
 exact(key hj hi oO).swap
theorem a0J{s:St}(hn:Nrm s)(hp:PreW s):AM.Pure aD Γ 24 [.agg s.cells] (.lit (.bool (dQ s).isEmpty)):=by have:=a0K Γ hp;rw[a6V hn]at this;exact this
theorem a9Y{a b:St}(hb:PreW b):DSm (tI (btw a b)):=by
 have h0:∀ {α:Type} {l:List α} {z:α} {i:Nat},l.getD i z∈l\/l.getD i z=z:=λ {α l z i}=>by
  by_cases h:i<l.length;.exact .inl (xU h)
  exact .inr (qE oO)
 have ht:∀x∈(btw a b).tk,TkR x:=λ x hx=>by
  unfold btw at hx;split at hx;.cases hx
  split at hx;.cases hx
  obtain⟨i,_,h⟩:=mem_flx.1 hx;rw[(mem_if1.1 h).2];exact hb.tkr i
 have hs:∀x∈(btw a b).sp,SpR x.2.2:=λ x hx=>by
  unfold btw at hx;split at hx;.cases hx
  split at hx;.cases hx
  obtain⟨g,_,h⟩:=mem_flx.1 hx;obtain⟨i,_,h⟩:=mem_flx.1 h;rw[(mem_if1.1 h).2];exact hb.spr g i
 refine⟨λ i=>?_,λ i=>?_⟩
 .rcases h0 (l:=(btw a b).tk) (z:=zT) (i:=i)with h|h;.exact ht _ h
  show TkR ((btw a b).tk.getD i zT);rw[h];exact a5H
 rcases h0 (l:=(btw a b).sp) (z:=(0,0,⟨0,0,0⟩)) (i:=i)with h|h;.exact hs _ h
 show SpR ((btw a b).sp.getD i (0,0,⟨0,0,0⟩)).2.2;rw[h];exact⟨bR _,by decide,bR _,bR _,by decide⟩
theorem aXE(a b:St):(tI (btw a b)).size<=a.nk+a.nk+a.ng+a.nt+b.nt+a.ns*a.nk/\(tI (btw a b)).n4<=b.nt:=by
 have h0:∀x:Dl,(tI x).size=x.ck.length+x.cu.length+x.wg.length+x.gn.length+x.tk.length+x.sp.length/\(tI x).n4=x.tk.length:=λ _=>⟨rfl,rfl⟩;rw[(h0 _).1,(h0 _).2];unfold btw;split;.simp[noDl]
 split;.simp[noDl]
 have l0:=kR (xX a.clk b.clk) a.nk;have l1:=kR (xX a.cur b.cur) a.nk;have l2:=kR (PM a b) a.ng;have l3:=kR (TX a b) a.nt;have l4:=kR (IV a b) b.nt;have l5:=OZ a b a.nk a.ns;simp only[AS,yW];omega
theorem yO{a b:St}(ha:Ms a)(hb:Ms b):(tI (btw a b)).size<=200/\(tI (btw a b)).n4<=40:=by obtain⟨h1,h2⟩:=aXE a b;have k1:=ha.nk;have k2:=ha.ng;have k3:=ha.nt;have k4:=hb.nt;have k5:a.ns*a.nk<=6*4:=Nat.mul_le_mul ha.ns ha.nk;omega
theorem aCN{a b:St}(ha:Ms a)(hb:Ms b)(h:Two a b):AM.Pure aD Γ 21 [.agg a.cells,.agg b.cells] (.tup [.agg (tI (btw a b)).cells,(0:Int)]):=by have:=UP (Γ:=Γ) a b ha.pre.pre hb.pre.pre ha.pre.k hb.pre.k;rw[h.btw.2]at this;exact this
theorem aXS{a b:St}(ha:Ms a)(hb:Ms b)(h:Two a b):AM.Pure aD Γ 22 [.agg a.cells,.agg (tI (btw a b)).cells] (.tup [.agg b.cells,(0:Int)]):=by obtain⟨h1,h2⟩:=yO ha hb;have h3:=ha.nt;obtain⟨k1,k2⟩:=h.leads;have hr:=a0J (Γ:=Γ) ha.nrm ha.pre;rw[emp_iff.2 ha.ok]at hr;have:=aXR (Γ:=Γ) a (tI (btw a b)) ha.ok ha.pre (a9Y hb.pre) oO oO hr (apOkB_iff.2 k1);rw[k2]at this;exact this
theorem LV{a:St}(h:Ms a):Two a a:=⟨h.nrm,h.nrm,h.ok,h.ok,al_iff.2 ⟨rfl,rfl,rfl,λ _ _=>rfl⟩⟩
end Go.Proofs.T
end
section
namespace Go.Proofs.T
open Go Go.AM Go.Proofs Go.ChangeShapes Go.WideShapes Go.ChangeAt Go.WideMaps Go.WideElems Go.RowKit Go.Proofs.YteimiejbhhgljaaGreatDoor
section
variable{H:Type}{enc:TypeId×Value->H}{P:Program}{w:World}{base:Nat}{sp:Nat->Bool}{held:Bool}{fuel:Nat}{t:TypeId}{cs:List Value}{x:DataW H×List MemPlace}{G:Nat->Prop}
theorem bCS{cs:List Value}(h:cs.length=13):∃a b c d0 d1 d2 d3 d4 e0 e1 e2 e3 e4,cs=[a,b,c,d0,d1,d2,d3,d4,e0,e1,e2,e3,e4]:=by
 match cs,h with
 |[a,b,c,d0,d1,d2,d3,d4,e0,e1,e2,e3,e4],_=>exact⟨a,b,c,d0,d1,d2,d3,d4,e0,e1,e2,e3,e4,rfl⟩
theorem sZ{n:Int}(h:(Lit.int .u8 n).wf=aB):0<=n/\n<=255:=by simp[Lit.wf]at h;have e1:fA.min=0:=rfl;have e2:fA.max=255:=rfl;omega
theorem aIL{n:Int}(h:(Lit.int .u16 n).wf=aB):0<=n/\n<=65535:=by simp[Lit.wf]at h;have e1:IntKind.u16.min=0:=rfl;have e2:IntKind.u16.max=65535:=rfl;omega
theorem YV{n:Int}(h:(Lit.int .u32 n).wf=aB):0<=n/\n<=4294967295:=by simp[Lit.wf]at h;have e1:lM.min=0:=rfl;have e2:lM.max=4294967295:=rfl;omega
theorem aCB{e:TypeId}{k:IntKind}{c0 c1 c2 c3 c4:Value}(ht:P.underlying t=aA (.array 5 e))(he:P.underlying e=aA (.int k))(hc:P.cellsOf e=1)(h:DataW.trod enc P w base sp held fuel t [c0,c1,c2,c3,c4]=aA x):
 ∃f:Nat->Int,(∀i,i<5->(Lit.int k (f i)).wf=aB)/\Dec w G [.lit (.int k (f 0)),.lit (.int k (f 1)),.lit (.int k (f 2)),.lit (.int k (f 3)),.lit (.int k (f 4))] [c0,c1,c2,c3,c4]:=by
 obtain⟨xs,m,_,_,_,hl,hx⟩:=DataW.trod_array ht h;rw[hc]at hx;have each:∀i (hi:i<5) c,([c0,c1,c2,c3,c4].drop (i*1)).take 1=[c]->∃n,Dec w G [.lit (.int k n)] [c]/\(Lit.int k n).wf=aB:=λ i hi c hcx=>by have h1:=hx i hi;rw[hcx,aJ oO]at h1;exact pE he h1
 obtain⟨a0,d0,w0⟩:=each 0 oO c0 rfl;obtain⟨a1,d1,w1⟩:=each 1 oO c1 rfl;obtain⟨a2,d2,w2⟩:=each 2 oO c2 rfl;obtain⟨a3,d3,w3⟩:=each 3 oO c3 rfl;obtain⟨a4,d4,w4⟩:=each 4 oO c4 rfl;refine⟨λ i=>[a0,a1,a2,a3,a4].getD i 0,λ i hi=>?_,d0.app (d1.app (d2.app (d3.app d4)))⟩
 match i,hi with
 |0,_=>exact w0
 |1,_=>exact w1
 |2,_=>exact w2
 |3,_=>exact w3
 |4,_=>exact w4
theorem aWE(h:DataW.trod enc aD w base sp held fuel 55 cs=aA x):∃a:Nums,NumsOk a/\Dec w G a.cells cs:=by obtain⟨hl,m,hf⟩:=UK Tryz.underlying55 h;have hl13:cs.length=13:=hl.trans iF;obtain⟨c0,c1,c2,p0,p1,p2,p3,p4,w0,w1,w2,w3,w4,rfl⟩:=bCS hl13;obtain⟨_,h0⟩:=hf 0 _ rfl;obtain⟨_,h1⟩:=hf 1 _ rfl;obtain⟨_,h2⟩:=hf 2 _ rfl;obtain⟨_,h3⟩:=hf 3 _ rfl;obtain⟨_,h4⟩:=hf 4 _ rfl;obtain⟨a0,d0,r0⟩:=pE (G:=G) dH h0;obtain⟨a1,d1,r1⟩:=pE (G:=G) dH h1;obtain⟨a2,d2,r2⟩:=pE (G:=G) lD h2;obtain⟨f,r3,d3⟩:=aCB (G:=G) Tryz.underlying51 dH iF h3;obtain⟨g,r4,d4⟩:=aCB (G:=G) Tryz.underlying53 Tryz.underlying52 iF h4;have e0:=sZ r0;have e1:=sZ r1;have e2:=YV r2;exact⟨⟨a0,a1,a2,f,g⟩,⟨e0.1,e0.2,e1.1,e1.2,e2.1,e2.2,λ i hi=>sZ (r3 i hi),λ i hi=>aIL (r4 i hi)⟩,d0.app (d1.app (d2.app (d3.app d4)))⟩
theorem aOT{n:Nat}{y:DataW H×List MemPlace}(hl:cs.length=8)(h:DataW.trod enc aD w base sp held n 162 cs=aA y):∃a:Sm,SmOk a/\Dec w G (smc a) cs:=by obtain⟨_,m,hf⟩:=UK Tryz.underlying162 h;obtain⟨c0,c1,c2,c3,c4,c5,c6,c7,rfl⟩:=bIA hl;obtain⟨_,h0⟩:=hf 0 _ rfl;obtain⟨_,h1⟩:=hf 1 _ rfl;obtain⟨_,h2⟩:=hf 2 _ rfl;obtain⟨_,h3⟩:=hf 3 _ rfl;obtain⟨_,h4⟩:=hf 4 _ rfl;obtain⟨_,h5⟩:=hf 5 _ rfl;obtain⟨_,h6⟩:=hf 6 _ rfl;obtain⟨_,h7⟩:=hf 7 _ rfl;obtain⟨a0,d0,r0⟩:=pE (G:=G) dH h0;obtain⟨a1,d1,r1⟩:=pE (G:=G) dH h1;obtain⟨a2,d2,r2⟩:=pE (G:=G) dH h2;obtain⟨a3,d3,r3⟩:=pE (G:=G) dH h3;obtain⟨a4,d4,r4⟩:=pE (G:=G) dH h4;obtain⟨a5,d5,r5⟩:=pE (G:=G) Tryz.underlying52 h5;obtain⟨a6,d6,r6⟩:=pE (G:=G) lD h6;obtain⟨a7,d7,r7⟩:=pE (G:=G) dH h7;exact⟨⟨a0,a1,a2,a3,a4,a5,a6,a7⟩,⟨sZ r0,sZ r1,sZ r2,sZ r3,sZ r4,aIL r5,YV r6,sZ r7⟩,d0.app (d1.app (d2.app (d3.app (d4.app (d5.app (d6.app d7))))))⟩
theorem aGV(hG:∀b,b<w.heap.size->G b)(h:DataW.trod enc aD w base sp held fuel 56 cs=aA x):∃(n:Nat) (f:Nat->Sm),(∀i,SmOk (f i))/\Dec w G [.rd 8 n (λ i=>smc (f i))] cs:=
 aOU (G:=G) smc SmOk ⟨0,0,0,0,0,0,0,0⟩ ⟨sS,sS,sS,sS,sS,sS,sS,sS⟩ (sz:=8) oO Tryz.underlying56 iF hG (λ n cs y hl hy=>aOT hl hy) h
end
section
variable{H:Type}{enc:TypeId×Value->H}{W:World}{d:DataW H}{p:List MemPlace}{r:Reach}{base:Nat}{v:Value}
theorem aJG(ho:bKN aD W r base 55 v)(h:DataW.Trod enc aD W 0 (λ _=>aB) aB 55 v d p):
 ∃a:Nums,NumsOk a/\V W (λ b=>b<W.heap.size) bS cI (.agg a.cells) v:=by unfold bKN at ho;rw[Tryz.underlying55]at ho;obtain⟨cs,rfl,_⟩:=ho;obtain⟨fuel,h⟩:=h;obtain⟨a,ha,hd⟩:=aWE (G:=λ b=>b<W.heap.size) h;exact⟨a,ha,a4Q hd⟩
theorem SO(ho:bKN aD W r base 56 v)(h:DataW.Trod enc aD W 0 (λ _=>aB) aB 56 v d p):
 ∃(n:Nat) (f:Nat->Sm),n<=9223372036854775807/\(∀i,SmOk (f i))/\V W (λ b=>b<W.heap.size) bS cI (.rd 8 n (λ i=>smc (f i))) v:=by
 obtain⟨a,len,cap,rfl⟩:=okWide_slice Tryz.underlying56 ho;obtain⟨fuel,h⟩:=h;obtain⟨n,f,hf,hd⟩:=aGV (G:=λ b=>b<W.heap.size) (λ b hb=>hb) h;obtain⟨c,hc,hv⟩:=hd.2 0 _ rfl;have e:c= .slice a len cap:=by simp[Value.cells]at hc;exact hc.symm
 subst e;refine⟨n,f,?_,hf,hv⟩
 cases hv with
 |rd0=>omega
 |rd _ _ _ h=>exact h
theorem aQO{G:Nat->Prop}{ρ:cY}{A:bZ}{a b c:AVal}{x y z:Value}(h:V W G ρ A a x)(h':V W G ρ A b y)(h'':V W G ρ A c z):Vs W G ρ A [a,b,c] #[x,y,z]:=
 ⟨rfl,λ j u hj=>by
  match j with
  |0=>cases hj;exact h
  |1=>cases hj;exact h'
  |2=>cases hj;exact h''
  |j+3=>simp at hj⟩
end
end Go.Proofs.T
end
