import Derived.Test.YteimiejbhhgljaaGreatDoorZAL
import Derived.Test.YteimiejbhhgljaaGreatDoorRows
set_option linter.unusedVariables false
set_option linter.defProp false
set_option linter.unusedSimpArgs false
set_option maxHeartbeats 0
set_option maxRecDepth 100000
open Go.AM.AVal renaming lit->aD
open Bool renaming and_eq_false_iff->BQ,and_eq_true->aO,and_true->iE,eq_false_iff->dY,eq_iff_iff->eY,false->aF,false_and->MM,false_or->BP,not_eq_false'->jZ,or_eq_false_iff->gA,true->aB,true_and->lZ,true_or->BO
open Int renaming ediv_nonneg->a7U,emod_lt_of_pos->BL,emod_nonneg->a7T,fdiv_eq_ediv_of_nonneg->fG,le_refl->bY,pow_nonneg->CJ,tmod_eq_emod_of_nonneg->dU,toNat_natCast->bW,toNat_of_nonneg->gY
open Go.IntKind renaming i64->aH,u32->aT,u64->aI,u8->bM
open List renaming all_cons->gI,all_eq_true->aY,append_eq_nil_iff->bEH,append_nil->cX,drop_zero->bKB,eq_nil_of_length_eq_zero->jE,exists_cons_of_ne_nil->qE,ext_getElem?->fF,getD->oZ,getD_eq_getElem?_getD->aU,getElem?_append_left->gN,getElem?_cons_zero->lY,getElem?_eq_getElem->aN,getElem?_eq_none->bE,getElem?_eq_some_iff->aL,getElem?_set->dS,getElem?_set_ne->iT,getElem?_set_self->cE,getElem_mem->zY,length_append->bT,length_cons->iI,length_filter_le->bQR,length_map->dG,length_nil->FM,length_replicate->gP,length_set->jF,map->tB,map_append->aQ,map_congr_left->fR,map_cons->bN,map_map->kT,map_nil->bV,mem_append->dJ,mem_of_getElem?->gL,mem_range->dX,mem_singleton->tA,range->aR,replicate->bI,take_length->bVG,take_of_length_le->gU
open Nat renaming add_assoc->gM,add_sub_cancel->a7O,add_sub_cancel_left->kJ,eq_zero_or_pos->a7N,le_refl->aJ,le_trans->pL,lt_irrefl->oX,lt_succ_iff_lt_or_eq->jU,lt_trichotomy->kR,mul_comm->jN,mul_one->JK,not_lt_zero->bU,reduceAdd->aAC,sub_self->TT,zero_add->eQ,zero_le->bF
open Option renaming getD_some->LB,isSome_iff_exists->fU,none->aC,some->aA
open Or renaming inl->dE,inr->dP
open Go.Proofs.Tryz renaming f21->a7K,f7->lI,func18->dD,prog->aG,underlying5->gX,underlying50->bJD
open Go.Value renaming bool->bC,int->aE,slice->aP
section
namespace Go.Proofs.T
open Go Go.AM Go.Proofs
variable{l:List Tk}{a b c g i n q s:Nat}{R:Nat->List (List AVal)}{v:Sp}{t:St}{Hc:aS}
variable{Γ:dW}
attribute [local irreducible] jM del
def aHB(k:Nat):Kp [0,1,2,3,4,10,11,12,13,14,15,16,17,18,19,20,21,22,23,24,28,33,50,58,80,85,103,110,140,151,171,185,199,213] (λ i=>if k<=i then i-k+1 else 0):=oR
def a9S(f0:Nat)(l:List Tk)(a m b:Nat)(h1:a+1<m)(h2:m+1<b)(h3:b<=l.length)(h4:b-a<=f0+1)(hl:l.length<=100000)(k id:Nat)(hid:id<k)
 (ih:∀(l:List Tk) (a m b:Nat),a<m->m<b->b<=l.length->b-a<=f0->l.length<=100000->AM.Tr aG Γ 209 k [.sl id 0 l.length,a,m,b,.fn 69 []] [(id,⟨8,aB,(l).map tR⟩)] (λ k1 r1 H1=>k1=k/\r1= .tup []/\H1=[(id,⟨8,aB,(tG iM jB f0 l a m b).map tR⟩)])):
 AM.Tr aG Γ 209 k [.sl id 0 l.length,a,m,b,.fn 69 []] [(id,⟨8,aB,(l).map tR⟩)] (λ k1 r1 H1=>k1=k/\r1= .tup []/\H1=[(id,⟨8,aB,(tG iM jB (f0+1) l a m b).map tR⟩)]):=by
 have i0:¬id=k:=oO;have i4:∀q,id<k+q:=λ q=>oO;have i1:∀q,¬id=k+q:=λ q=>oO;have i2:¬k=id:=oO;have i3:∀q,¬k+q=id:=λ q=>oO;obtain⟨N,eN⟩:=xE l.length;rw[<-eN];obtain⟨mid,emid⟩:=xE ((a+b)/2);obtain⟨n,en⟩:=xE (mid+m);obtain⟨s0,es0⟩:=xE (if mid<m then n-b else a);obtain⟨r0,er0⟩:=xE (if mid<m then mid else m);obtain⟨p,ep⟩:∃p:Nat->Bool,p=λ c=> !(jB (l.getD (n-1-c) iM) (l.getD c iM)):=⟨_,rfl⟩;obtain⟨B,eB⟩:=xE (FH p (b-a) s0 r0);obtain⟨en',een⟩:=xE (n-B);obtain⟨l1,el1⟩:=xE (if B<m/\m<en' then rot iM l B m en' else l);obtain⟨l2,el2⟩:=xE (if a<B/\B<mid then tG iM jB f0 l1 a B mid else l1);obtain⟨l3,el3⟩:=xE (if mid<en'/\en'<b then tG iM jB f0 l2 mid en' b else l2);have hres:tG iM jB (f0+1) l a m b=l3:=by rw[tG,iN oO,iN oO];simp only;rw[<-emid,<-en,<-es0,<-er0,<-ep,<-eB,<-een,<-el1,<-el2,<-el3]
 rw[hres];have hr0:s0<=r0/\r0<=mid/\r0<=m/\a<=s0/\n<=s0+b/\r0-s0<=b-a/\r0<=n:=by rw[es0,er0];split<;>omega
 have hB:=sY (p:=p) (f:=b-a) (i:=s0) (j:=r0) hr0.1;rw[<-eB]at hB
 have hl1:l1.length=N:=by
  rw[el1];split;.rw[(PJ oO oO oO).length_eq,eN]
  exact eN.symm
 have hl2:l2.length=N:=by
  rw[el2];split;.rw[(yJ oO oO oO).length_eq,hl1]
  exact hl1
 obtain⟨R,eR⟩:=xE (l.map tR);have hRl:R.length=N:=by rw[eR,dG,eN]
 rw[<-eR];have hrot:B<m->m<en'->AM.Tr aG Γ 253 k [.sl id 0 N,B,m,en',.fn 69 []] [(id,⟨8,aB,(l).map tR⟩)] (λ k1 r1 H1=>k1=k/\r1= .tup []/\H1=[(id,⟨8,aB,(l1).map tR⟩)]):=λ q1 q2=>by have h:=bFH (Γ:=Γ) l B m en' q1 q2 oO hl k id hid;rw[el1,iP ⟨q1,q2⟩,eN];exact h
 have hsy1:a<B->B<mid->AM.Tr aG Γ 209 k [.sl id 0 N,a,B,mid,.fn 69 []] [(id,⟨8,aB,(l1).map tR⟩)] (λ k1 r1 H1=>k1=k/\r1= .tup []/\H1=[(id,⟨8,aB,(l2).map tR⟩)]):=λ q1 q2=>by have h:=ih l1 a B mid q1 q2 oO oO oO;rw[el2,iP ⟨q1,q2⟩,<-hl1];exact h
 have hsy2:mid<en'->en'<b->AM.Tr aG Γ 209 k [.sl id 0 N,mid,en',b,.fn 69 []] [(id,⟨8,aB,(l2).map tR⟩)] (λ k1 r1 H1=>k1=k/\r1= .tup []/\H1=[(id,⟨8,aB,(l3).map tR⟩)]):=λ q1 q2=>by have h:=ih l2 mid en' b q1 q2 oO oO oO;rw[el3,iP ⟨q1,q2⟩,<-hl2];exact h
 refine bR Tryz.func209 rfl 220 rfl bB ?_;have wma:aH.wrap ((m:Int)-(a:Int))=((m-a:Nat):Int):=by rw[fD oO oO];omega
 have wbm:aH.wrap ((b:Int)-(m:Int))=((b-m:Nat):Int):=by rw[fD oO oO];omega
 have hne1:¬((m-a:Nat):Int)=1:=oO;have hne2:¬((b-m:Nat):Int)=1:=oO;have e1:aI.wrap ((a:Int)+(b:Int))=(a:Int)+(b:Int):=wrap_u64 oO oO;have e0:aH.wrap ((a:Int)+(b:Int))=(a:Int)+(b:Int):=wrap_i64 oO oO;have e2:((a:Int)+(b:Int)).fdiv (2^min 1 64)=(mid:Int):=by rw[show(2:Int)^min 1 64=2 from rfl,fG _ oO];omega
 have e3:aH.wrap (mid:Int)=(mid:Int):=wrap_i64 oO oO;have e4:aH.wrap ((mid:Int)+(m:Int))=(n:Int):=by rw[fD oO oO];omega
 have e5:aH.wrap ((n:Int)-1)=((n-1:Nat):Int):=by rw[fD oO oO];omega
 have uU:=fB hid i0 i1 i2 i3 i4 wma wbm (xG hne1 hne2 e0 e1 e2 e3 e4 e5);refine cZ ?_;refine iG rfl (iG rfl ?_);(refine qM rfl [0,1,2,3,4,10,11,12,13,14,15,16,17,18,19,20,21,22,23,24,28,33,50,58,80,85,103,110,140,151,171,185,199,213] rfl rfl (λ K hK=>?_));simp-dsimp-implicitDefEqProofs (disch:=omega)only[go_sem,iO,hid,i0,i1,i2,i3,i4,wma,wbm,hne1,hne2,e0,e1,e2,e3,e4,e5,↓reduceIte];(refine hK _ _ _ _ (λ hx=>?_));clear hx hK;simp-dsimp-implicitDefEqProofs (disch:=omega)only[go_sem,iO,hid,i0,i1,i2,i3,i4,wma,wbm,hne1,hne2,e0,e1,e2,e3,e4,e5,↓reduceIte];clear K;refine uQ rfl _ rfl (λ ht=>?_) (λ ht=>?_);.exact absurd (eq_of_beq ht) hne1
 refine BM rfl (cZ ?_);refine iG rfl (iG rfl ?_);(refine qM rfl [0,1,2,3,4,10,11,12,13,14,15,16,17,18,19,20,21,22,23,24,28,33,50,58,80,85,103,110,140,151,171,185,199,213] rfl rfl (λ K hK=>?_));simp-dsimp-implicitDefEqProofs (disch:=omega)only[go_sem,iO,hid,i0,i1,i2,i3,i4,wma,wbm,hne1,hne2,e0,e1,e2,e3,e4,e5,↓reduceIte];(refine hK _ _ _ _ (λ hx=>?_));clear hx hK;simp-dsimp-implicitDefEqProofs (disch:=omega)only[go_sem,iO,hid,i0,i1,i2,i3,i4,wma,wbm,hne1,hne2,e0,e1,e2,e3,e4,e5,↓reduceIte];clear K;refine uQ rfl _ rfl (λ ht=>?_) (λ ht=>?_);.exact absurd (eq_of_beq ht) hne2
 refine BM rfl (cZ ?_);refine iG rfl ?_;(refine qM rfl [0,1,2,3,4,10,11,12,13,14,15,16,17,18,19,20,21,22,23,24,28,33,50,58,80,85,103,110,140,151,171,185,199,213] rfl rfl (λ K hK=>?_));simp-dsimp-implicitDefEqProofs (disch:=omega)only[go_sem,iO,hid,i0,i1,i2,i3,i4,wma,wbm,hne1,hne2,e0,e1,e2,e3,e4,e5,↓reduceIte];(refine hK _ _ _ _ (λ hx=>?_));clear hx hK;simp-dsimp-implicitDefEqProofs (disch:=omega)only[go_sem,iO,hid,i0,i1,i2,i3,i4,wma,wbm,hne1,hne2,e0,e1,e2,e3,e4,e5,↓reduceIte];clear K;refine iG rfl ?_;(refine qM rfl [0,1,2,3,4,10,11,12,13,14,15,16,17,18,19,20,21,22,23,24,28,33,50,58,80,85,103,110,140,151,171,185,199,213] rfl rfl (λ K hK=>?_));simp-dsimp-implicitDefEqProofs (disch:=omega)only[go_sem,iO,hid,i0,i1,i2,i3,i4,wma,wbm,hne1,hne2,e0,e1,e2,e3,e4,e5,↓reduceIte];(refine hK _ _ _ _ (λ hx=>?_));clear hx hK;simp-dsimp-implicitDefEqProofs (disch:=omega)only[go_sem,iO,hid,i0,i1,i2,i3,i4,wma,wbm,hne1,hne2,e0,e1,e2,e3,e4,e5,↓reduceIte];clear K;refine iG rfl ?_;(refine qM rfl [0,1,2,3,4,10,11,12,13,14,15,16,17,18,19,20,21,22,23,24,28,33,50,58,80,85,103,110,140,151,171,185,199,213] rfl rfl (λ K hK=>?_));simp-dsimp-implicitDefEqProofs (disch:=omega)only[go_sem,iO,hid,i0,i1,i2,i3,i4,wma,wbm,hne1,hne2,e0,e1,e2,e3,e4,e5,↓reduceIte];(refine hK _ _ _ _ (λ hx=>?_));clear hx hK;simp-dsimp-implicitDefEqProofs (disch:=omega)only[go_sem,iO,hid,i0,i1,i2,i3,i4,wma,wbm,hne1,hne2,e0,e1,e2,e3,e4,e5,↓reduceIte];clear K;refine EB (X:=Unit) rfl [0,1,2,3,4,10,11,12,13,14,15,16,17,18,19,20,21,22,23,24,28,33,50,58,80,85,103,110,140,151,171,185,199,213] k (λ _=>[(20,s0),(21,r0)]) (λ _=>[(id,⟨8,aB,R⟩)]) (λ _=>True) ?_ ?_
 .by_cases q1:mid<m
  .have q1':(mid:Int)<(m:Int):=oO;have w1:aH.wrap ((n:Int)-(b:Int))=(s0:Int):=by rw[fD oO oO,es0,iP q1];omega
   have w2:mid=r0:=by rw[er0,iP q1]
   have uU:=xG hid i0 i1 i2 i3 i4 q1' w1;refine cZ ?_;have kp:=aHB k;refine gJ λ ht=>?_;refine⟨(),?_⟩;rw[<-w2];exact iC
  have q1':¬(mid:Int)<(m:Int):=oO;have w1:a=s0:=by rw[es0,iN q1]
  have w2:m=r0:=by rw[er0,iN q1]
  have uU:=yI hid i0 i1 i2 i3 i4 q1';refine cZ ?_;have kp:=aHB k;refine gJ λ ht=>?_;refine⟨(),?_⟩;rw[<-w1,<-w2];exact iC
 rintro _ _;have uU:=yI hid i0 i1 i2 i3 i4 e5;refine cZ ?_;have kp:=aHB k;refine gO ?_;refine cD (X:=Nat×Nat×Nat) rfl [0,1,2,3,4,10,11,12,13,14,15,16,17,18,19,20,21,22,23,24,28,33,50,58,80,85,103,110,140,151,171,185,199,213] k (λ x=>[(20,x.1),(21,x.2.1)]) (λ x=>[(id,⟨8,aB,R⟩)]) (λ x=>s0<=x.1/\x.1<=x.2.1/\x.2.1<=r0/\x.2.1-x.1<=x.2.2/\FH p x.2.2 x.1 x.2.1=B) (λ x=>x.2.1-x.1) (s0,r0,b-a) ?_ ⟨by simp only;omega,by simp only;omega,by simp only;omega,by simp only;omega,eB.symm⟩ ?_;.refine cZ ?_;exact iC
 rintro⟨i,j,f⟩ ⟨hi1,hi2,hi3,hf,hbs⟩;simp only at hi1 hi2 hi3 hf hbs;simp only;by_cases hij:i<j
 .obtain⟨f,rfl⟩:∃f',f=f'+1:=⟨f-1,oO⟩;have e1:aI.wrap ((i:Int)+(j:Int))=(i:Int)+(j:Int):=wrap_u64 oO oO;have e0:aH.wrap ((i:Int)+(j:Int))=(i:Int)+(j:Int):=wrap_i64 oO oO;have e2:((i:Int)+(j:Int)).fdiv (2^min 1 64)=(((i+j)/2:Nat):Int):=by rw[show(2:Int)^min 1 64=2 from rfl,fG _ oO];omega
  obtain⟨h,eh⟩:=xE ((i+j)/2);rw[<-eh]at e2;have e3:aH.wrap (h:Int)=(h:Int):=wrap_i64 oO oO;have e4:aH.wrap ((h:Int)+1)=(h:Int)+1:=wrap_i64 oO oO;have hij':(i:Int)<(j:Int):=oO;have wp:aH.wrap (((n-1:Nat):Int)-(h:Int))=((n-1-h:Nat):Int):=by rw[fD oO oO];omega
  obtain⟨g,eg⟩:=xE (n-1-h);rw[<-eg]at wp;have gh:=tD (L:=l) (i:=h) oO;obtain⟨y,ey⟩:=xE (l.getD h iM);rw[<-eR,<-ey]at gh;have gg:=tD (L:=l) (i:=g) oO;obtain⟨x,ex⟩:=xE (l.getD g iM);rw[<-eR,<-ex]at gg;simp only[tR]at gh gg;have bh:h<N:=oO;have bg:g<N:=oO;have hcc:=aNI (Γ:=Γ) x y;obtain⟨v,ev⟩:=xE (aH.wrap (Tk.id x-Tk.id y));rw[<-ev]at hcc;have hlv:jB x y=decide (v<0):=by rw[jB,ev]
  simp only[tR]at hcc;by_cases hv:v<0
  .have hp:p h=aF:=by rw[ep];simp only;rw[<-eg,<-ey,<-ex,hlv];simp[hv]
   rw[aIW hij eh hp]at hbs;have uU:=fB hid i0 i1 i2 i3 i4 e0 e1 (fB e2 e3 e4 hij' hv wp gh gg (uT bh bg hRl));refine cZ ?_;refine gJ λ ht=>?_;refine RE [.ret v] ?_;refine gJ λ ht=>?_;refine⟨(i,h,f),⟨hi1,by simp only;omega,by simp only;omega,by simp only;omega,hbs⟩,by simp only;omega,?_⟩;simp only;exact iC
  have hp:p h=aB:=by rw[ep];simp only;rw[<-eg,<-ey,<-ex,hlv];simp[hv]
  rw[aIV hij eh hp]at hbs;have uU:=fB hid i0 i1 i2 i3 i4 e0 e1 (fB e2 e3 e4 hij' hv wp gh gg (uT bh bg hRl));refine cZ ?_;refine gJ λ ht=>?_;refine RE [.ret v] ?_;refine gJ λ ht=>?_;refine⟨(h+1,j,f),⟨by simp only;omega,by simp only;omega,hi3,by simp only;omega,hbs⟩,by simp only;omega,?_⟩;simp only;rw[(oO:((h+1:Nat):Int)=(h:Int)+1)];exact iC
 have hij':¬(i:Int)<(j:Int):=oO;rw[ZN hij]at hbs;have wen:aH.wrap ((n:Int)-(B:Int))=(en':Int):=by rw[fD oO oO];omega
 rw[hbs];have uU:=yI hid i0 i1 i2 i3 i4 wen;refine cZ ?_;refine iG rfl (iG rfl ?_);(refine qM rfl [0,1,2,3,4,10,11,12,13,14,15,16,17,18,19,20,21,22,23,24,28,33,50,58,80,85,103,110,140,151,171,185,199,213] rfl rfl (λ K hK=>?_));simp-dsimp-implicitDefEqProofs (disch:=omega)only[go_sem,iO,hid,i0,i1,i2,i3,i4,wen,↓reduceIte];(refine hK _ _ _ _ (λ hx=>?_));clear hx hK;simp-dsimp-implicitDefEqProofs (disch:=omega)only[go_sem,iO,hid,i0,i1,i2,i3,i4,wen,↓reduceIte];clear K;refine uQ rfl _ rfl (λ ht=>?_) (λ ht=>?_);.simp only[dTt]at ht;omega
 refine GW rfl (cZ ?_);refine iG rfl ?_;(refine qM rfl [0,1,2,3,4,10,11,12,13,14,15,16,17,18,19,20,21,22,23,24,28,33,50,58,80,85,103,110,140,151,171,185,199,213] rfl rfl (λ K hK=>?_));simp-dsimp-implicitDefEqProofs (disch:=omega)only[go_sem,iO,hid,i0,i1,i2,i3,i4,wen,↓reduceIte];(refine hK _ _ _ _ (λ hx=>?_));clear hx hK;simp-dsimp-implicitDefEqProofs (disch:=omega)only[go_sem,iO,hid,i0,i1,i2,i3,i4,wen,↓reduceIte];clear K;refine EB (X:=Unit) rfl [0,1,2,3,4,10,11,12,13,14,15,16,17,18,19,20,21,22,23,24,28,33,50,58,80,85,103,110,140,151,171,185,199,213] k (λ _=>[]) (λ _=>[(id,⟨8,aB,l1.map tR⟩)]) (λ _=>True) ?_ ?_
 .by_cases q1:B<m
  .have q1':(B:Int)<(m:Int):=oO;by_cases q2:m<en';.have q2':(m:Int)<(en':Int):=oO;have hT:=hrot q1 q2;rw[<-eR]at hT;have uU:=xG hid i0 i1 i2 i3 i4 q1' q2';refine cZ ?_;refine gJ λ ht=>?_;refine sK [.gen (.tup []) k [(id,⟨8,aB,R⟩)] [(id,⟨8,aB,l1.map tR⟩)]] ?_;exact⟨(),iC⟩
   have q2':¬(m:Int)<(en':Int):=oO;have e:l1=l:=by rw[el1];exact iN λ h=>q2 h.2
   have uU:=xG hid i0 i1 i2 i3 i4 q1' q2';refine cZ ?_;refine gJ λ ht=>?_;refine⟨(),?_⟩;rw[e,<-eR];exact iC
  have q1':¬(B:Int)<(m:Int):=oO;have e:l1=l:=by rw[el1];exact iN λ h=>q1 h.1
  have uU:=yI hid i0 i1 i2 i3 i4 q1';refine cZ ?_;refine gJ λ ht=>?_;refine⟨(),?_⟩;rw[e,<-eR];exact iC
 rintro _ _;refine EB (X:=Unit) rfl [0,1,2,3,4,10,11,12,13,14,15,16,17,18,19,20,21,22,23,24,28,33,50,58,80,85,103,110,140,151,171,185,199,213] k (λ _=>[]) (λ _=>[(id,⟨8,aB,l2.map tR⟩)]) (λ _=>True) ?_ ?_
 .by_cases q1:a<B
  .have q1':(a:Int)<(B:Int):=oO;by_cases q2:B<mid
   .have q2':(B:Int)<(mid:Int):=oO;have hT:=hsy1 q1 q2;skip
    have uU:=xG hid i0 i1 i2 i3 i4 q1' q2';refine cZ ?_;refine gJ λ ht=>?_;refine sK [.gen (.tup []) k [(id,⟨8,aB,l1.map tR⟩)] [(id,⟨8,aB,l2.map tR⟩)]] ?_;exact⟨(),iC⟩
   have q2':¬(B:Int)<(mid:Int):=oO;have e:l2=l1:=by rw[el2];exact iN λ h=>q2 h.2
   have uU:=xG hid i0 i1 i2 i3 i4 q1' q2';refine cZ ?_;refine gJ λ ht=>?_;refine⟨(),?_⟩;rw[e];exact iC
  have q1':¬(a:Int)<(B:Int):=oO;have e:l2=l1:=by rw[el2];exact iN λ h=>q1 h.1
  have uU:=yI hid i0 i1 i2 i3 i4 q1';refine cZ ?_;refine gJ λ ht=>?_;refine⟨(),?_⟩;rw[e];exact iC
 rintro _ _;by_cases q1:mid<en'
 .have q1':(mid:Int)<(en':Int):=oO;by_cases q2:en'<b
  .have q2':(en':Int)<(b:Int):=oO;have hT:=hsy2 q1 q2;skip
   have uU:=xG hid i0 i1 i2 i3 i4 q1' q2';refine cZ ?_;refine gJ λ ht=>?_;refine sK [.gen (.tup []) k [(id,⟨8,aB,l2.map tR⟩)] [(id,⟨8,aB,l3.map tR⟩)]] ?_;exact⟨_,rfl,rfl⟩
  have q2':¬(en':Int)<(b:Int):=oO;have e:l3=l2:=by rw[el3];exact iN λ h=>q2 h.2
  have uU:=xG hid i0 i1 i2 i3 i4 q1' q2';refine cZ ?_;refine gJ λ ht=>?_;refine⟨_,rfl,rfl,?_⟩;rw[e];skip
 have q1':¬(mid:Int)<(en':Int):=oO;have e:l3=l2:=by rw[el3];exact iN λ h=>q1 h.1
 have uU:=yI hid i0 i1 i2 i3 i4 q1';refine cZ ?_;refine gJ λ ht=>?_;refine⟨_,rfl,rfl,?_⟩;rw[e];skip
def aFN(k id:Nat)(hid:id<k):∀(f:Nat) (l:List Tk) (a m b:Nat),a<m->m<b->b<=l.length->b-a<=f->l.length<=100000→
 AM.Tr aG Γ 209 k [.sl id 0 l.length,a,m,b,.fn 69 []] [(id,⟨8,aB,l.map tR⟩)]
  (λ k1 r1 H1=>k1=k/\r1= .tup []/\H1=[(id,⟨8,aB,(tG iM jB f l a m b).map tR⟩)])
 |0,l,a,m,b,h1,h2,h3,h4,hl=>oO
 |f+1,l,a,m,b,h1,h2,h3,h4,hl=>by
  by_cases hA:m=a+1;.have h:=a9U (Γ:=Γ) l a m b hA h2 h3 hl k id hid;rw[tG,iP oO];exact h
  by_cases hB:b=m+1;.have h:=a9T (Γ:=Γ) l a m b oO hB h3 hl k id hid;rw[tG,iN oO,iP oO];exact h
  exact a9S f l a m b oO oO h3 h4 hl k id hid λ l a m b h1 h2 h3 h4 hl=>aFN k id hid f l a m b h1 h2 h3 h4 hl
def aWV(h:b<=l.length):(GC iM jB l a b).length=l.length:=(yY h).length_eq
def a6P(h:20*q<=l.length):(blk iM jB l q).length=l.length:=(RT h).length_eq
def a3C(hs:0<s)(h:2*s*q<=l.length):(prs iM jB s l q).length=l.length:=(PU hs h).length_eq
def aUU(hs:0<s):(TA iM jB s l).length=l.length:=(UL hs).length_eq
def a9W(l:List Tk)(hl:l.length<=100000)(k id:Nat)(hid:id<k):
 AM.Tr aG Γ 127 k [.sl id 0 l.length,l.length,.fn 69 []] [(id,⟨8,aB,l.map tR⟩)]
  (λ k1 r1 H1=>k1=k/\r1= .tup []/\H1=[(id,⟨8,aB,(JY iM jB l).map tR⟩)]):=by
 have i0:¬id=k:=oO;have i4:∀q,id<k+q:=λ q=>oO;have i1:∀q,¬id=k+q:=λ q=>oO;have i2:¬k=id:=oO;have i3:∀q,¬k+q=id:=λ q=>oO;obtain⟨N,eN⟩:=xE l.length;rw[<-eN];refine bR Tryz.func127 rfl 63 rfl bB ?_;have kp:Kp [0,1,2,6,7,8,9,13,30,35,54] (λ i=>if k<=i then i-k+1 else 0):=oR;have uU:=rY hid i0 i1 i2 i3 i4;refine gO ?_;refine cD (X:=Nat) rfl [0,1,2,6,7,8,9,13,30,35,54] k (λ q=>[(7,(20*q:Nat)),(8,(20*(q+1):Nat))]) (λ q=>[(id,⟨8,aB,(blk iM jB l q).map tR⟩)]) (λ q=>20*q<=N) (λ q=>N-20*q) 0 ?_ (bF _) ?_;.rw[show blk iM jB l 0=l from rfl,show((20*0:Nat):Int)=0 from rfl,show((20*(0+1):Nat):Int)=20 from rfl];refine cZ ?_;exact iC
 intro q hq;obtain⟨L,eL⟩:=xE (blk iM jB l q);have hL:L.length=N:=by rw[eL,a6P oO,eN]
 have hnx:blk iM jB l (q+1)=GC iM jB L (20*q) (20*(q+1)):=by rw[blk,eL,Nat.mul_succ]
 rw[<-eL];obtain⟨A,eA⟩:=xE (20*q);obtain⟨B,eB⟩:=xE (20*(q+1));rw[<-eB,<-eA]at hnx;rw[<-eB,<-eA];by_cases hlt:B<=N
 .have hlt':(B:Int)<=(N:Int):=oO;have hT:=aWU (Γ:=Γ) L A B oO oO oO k id hid;rw[hL]at hT;obtain⟨C,eC⟩:=xE (B+20);have wB:aH.wrap ((B:Int)+20)=(C:Int):=by rw[fD oO oO];omega
  have uU:=xG hid i0 i1 i2 i3 i4 hlt' wB;refine cZ ?_;refine gJ λ ht=>?_;refine sK [.gen (.tup []) k [(id,⟨8,aB,L.map tR⟩)] [(id,⟨8,aB,(GC iM jB L A B).map tR⟩)]] ?_;refine gO ?_;refine⟨q+1,oO,oO,?_⟩;rw[hnx,(oO:20*(q+1+1)=C),<-eB];exact iC
 have hlt':¬(B:Int)<=(N:Int):=oO;have hq20:q=N/20:=oO;have hT:=aWU (Γ:=Γ) L A N oO oO oO k id hid;rw[hL]at hT;obtain⟨L0,eL0⟩:=xE (GC iM jB L A N);have hL0:L0.length=N:=by rw[eL0,aWV oO,hL]
 rw[<-eL0]at hT;have hst:JY iM jB l=yR iM jB N 20 L0:=by rw[JY,<-eN,<-hq20,<-eL,<-eA,eL0]
 rw[hst];have uU:=yI hid i0 i1 i2 i3 i4 hlt';refine cZ ?_;refine gJ λ ht=>?_;refine sK [.gen (.tup []) k [(id,⟨8,aB,L.map tR⟩)] [(id,⟨8,aB,L0.map tR⟩)]] ?_;refine gO ?_;refine cD (X:=Nat×Nat×List Tk×Int×Int) rfl [0,1,2,6,7,8,9,13,30,35,54] k (λ x=>[(6,x.1),(7,x.2.2.2.1),(8,x.2.2.2.2)]) (λ x=>[(id,⟨8,aB,x.2.2.1.map tR⟩)]) (λ x=>x.2.2.1.length=N/\0<x.1/\N<=x.1+x.2.1/\yR iM jB x.2.1 x.1 x.2.2.1=yR iM jB N 20 L0) (λ x=>x.2.1) (20,N,L0,(A:Int),(B:Int)) ?_ ⟨hL0,by simp only;omega,by simp only;omega,rfl⟩ ?_;.refine cZ ?_;exact iC
 rintro⟨s,f,M,o7,o8⟩ ⟨hM,hs,hf,hps⟩;simp only at hM hs hf hps;simp only;by_cases hsN:s<N
 .obtain⟨f,rfl⟩:∃f',f=f'+1:=⟨f-1,oO⟩;rw[yR,iP (by rw[hM];exact hsN)]at hps;obtain⟨P,eP⟩:=xE (TA iM jB s M);have hP:P.length=N:=by rw[eP,aUU hs,hM]
  obtain⟨d,ed⟩:=xE (2*s);rw[<-eP,<-ed]at hps;have hsN':(s:Int)<(N:Int):=oO;have w2:aH.wrap (2*(s:Int))=(d:Int):=by rw[fD oO oO];omega
  have w3:aH.wrap ((s:Int)*2)=(d:Int):=by rw[fD oO oO];omega
  have uU:=fB hid i0 i1 i2 i3 i4 hsN' w2 w3;refine cZ ?_;refine gJ λ ht=>?_;refine cD (X:=Nat) rfl [0,1,2,6,7,8,9,13,30,35,54] k (λ q=>[(7,(d*q:Nat)),(8,(d*(q+1):Nat))]) (λ q=>[(id,⟨8,aB,(prs iM jB s M q).map tR⟩)]) (λ q=>d*q<=N) (λ q=>N-d*q) 0 ?_ (bF _) ?_;.rw[show prs iM jB s M 0=M from rfl,Nat.mul_zero,eQ,JK];refine cZ ?_;exact iC
  clear hnx eL hL;intro q hq;obtain⟨L,eL⟩:=xE (prs iM jB s M q);have hL:L.length=N:=by rw[eL,a3C hs (by rw[<-ed,hM];exact hq),hM]
  have hnx:prs iM jB s M (q+1)=tG iM jB N L (d*q) (d*q+s) (d*q+d):=by rw[prs,<-eL,hM,ed]
  obtain⟨A,eA⟩:=xE (d*q);have hmul:d*(q+1)=A+d:=by rw[Nat.mul_succ,eA]
  rw[<-eA]at hnx hq;rw[hmul,<-eA,<-eL];obtain⟨B,eB⟩:=xE (A+d);obtain⟨C,eC⟩:=xE (A+s);rw[<-eB]at hnx hmul;rw[<-eC]at hnx;rw[<-eB];have wC:aH.wrap ((A:Int)+(s:Int))=(C:Int):=by rw[fD oO oO];omega
  by_cases hb:B<=N
  .have hb':(B:Int)<=(N:Int):=oO;have hT:=aFN (Γ:=Γ) k id hid N L A C B oO oO oO oO oO;rw[hL]at hT;obtain⟨D,eD⟩:=xE (B+d);have hmul2:d*(q+1+1)=D:=by rw[Nat.mul_succ,hmul,eD]
   have wD:aH.wrap ((B:Int)+(d:Int))=(D:Int):=by rw[fD oO oO];omega
   have uU:=fB hid i0 i1 i2 i3 i4 hb' w2 (uT w3 wC wD);refine cZ ?_;refine gJ λ ht=>?_;refine sK [.gen (.tup []) k [(id,⟨8,aB,L.map tR⟩)] [(id,⟨8,aB,(tG iM jB N L A C B).map tR⟩)]] ?_;refine gO ?_;refine⟨q+1,by rw[hmul];omega,by rw[hmul];omega,?_⟩;rw[hnx,hmul2,hmul];exact iC
  have hb':¬(B:Int)<=(N:Int):=oO;have hqd:q=N/d:=(Nat.div_eq_of_lt_le (by rw[jN,<-eA];exact hq) (by rw[jN,hmul];omega)).symm;have hpass:P=if C<N then tG iM jB N L A C N else L:=by rw[eP,TA,hM,<-ed,<-hqd,<-eA,<-eC,<-eL]
  by_cases hc:C<N;.have hc':(C:Int)<(N:Int):=oO;have hT:=aFN (Γ:=Γ) k id hid N L A C N oO oO oO oO oO;rw[iP hc]at hpass;rw[<-hpass,hL]at hT;have uU:=fB hid i0 i1 i2 i3 i4 hb' w2 (uT w3 wC hc');refine cZ ?_;refine vI ?_;refine kB (gB λ ht ht=>sK [.gen (.tup []) k [(id,⟨8,aB,L.map tR⟩)] [(id,⟨8,aB,P.map tR⟩)]] ?_);refine gO ?_;refine⟨(d,f,P,(A:Int),(B:Int)),⟨hP,by simp only;omega,by simp only;omega,hps⟩,by simp only;omega,?_⟩;simp only;exact iC
  have hc':¬(C:Int)<(N:Int):=oO;rw[iN hc]at hpass;have uU:=fB hid i0 i1 i2 i3 i4 hb' w2 (uT w3 wC hc');refine cZ ?_;refine vI ?_;refine kB (gB λ ht ht=>⟨(d,f,P,(A:Int),(B:Int)),⟨hP,by simp only;omega,by simp only;omega,hps⟩,by simp only;omega,?_⟩);simp only;rw[hpass];exact iC
 have hsN':¬(s:Int)<(N:Int):=oO
 have hM':M=yR iM jB N 20 L0:=by
  rw[<-hps]
  cases f with
  |zero=>rfl
  |succ f=>rw[yR,iN (by rw[hM];exact hsN)]
 have uU:=yI hid i0 i1 i2 i3 i4 hsN';refine cZ ?_;refine gJ λ ht=>?_;refine⟨_,rfl,rfl,?_⟩;rw[hM']
def XB(l:List Tk)(hl:l.length<=100000)(k id:Nat)(hid:id<k):
 AM.Tr aG Γ 68 k [.sl id 0 l.length,.fn 69 []] [(id,⟨8,aB,l.map tR⟩)]
  (λ k1 r1 H1=>k1=k/\r1= .tup []/\H1=[(id,⟨8,aB,(JY iM jB l).map tR⟩)]):=by
 have i0:¬id=k:=oO;have i4:∀q,id<k+q:=λ q=>oO;have i1:∀q,¬id=k+q:=λ q=>oO;have i2:¬k=id:=oO;have i3:∀q,¬k+q=id:=λ q=>oO;have hT:=a9W (Γ:=Γ) l hl k id hid;obtain⟨N,eN⟩:=xE l.length;rw[<-eN]at hT⊢
 refine bR Tryz.func68 rfl 9 rfl bB ?_;have kp:=kN k [0,1];have uU:=rY hid i0 i1 i2 i3 i4;refine gO ?_;refine sK [.gen (.tup []) k [(id,⟨8,aB,l.map tR⟩)] [(id,⟨8,aB,(JY iM jB l).map tR⟩)]] ?_;exact⟨_,rfl,rfl⟩
def vL(n:Nat)(f g:Nat->Int):(uS n f g).length=n:=by simp[uS]
def CT{f g:Nat->Int}(h:i<n):(uS n f g)[i]? =aA [aD (aE aH (f i)),aD (aE aH (g i))]:=by simp[uS,h]
def aPG{f g:Nat->Int}{v:Int}:(uS n f g).set i [aD (aE aH (f i)),aD (aE aH v)]=uS n f (AE g i v):=fF λ j=>by
 rw[dS];by_cases hj:j<n
 .by_cases e:i=j;.subst e;rw[iP rfl,vL,iP hj,CT hj];simp[AE]
  rw[iN e,CT hj,CT hj];simp[AE,Ne.symm e]
 rw[bE (l:=uS n f (AE g i v)) (by rw[vL];omega)];split;.rw[vL,iN oO]
 exact bE (by rw[vL];omega)
def vJ(n:Nat)(f:Nat->Sp):(qX n f).length=n:=by simp[qX]
def CS{f:Nat->Sp}(h:i<n):(qX n f)[i]? =aA [aD (aE aI (f i).v),aD (aE aT (f i).r),aD (aE aI (f i).floor)]:=by simp[qX,h]
def aPE{f:Nat->Nat->Sp}:(qX n (f g)).set c [aD (aE aI v.v),aD (aE aT v.r),aD (aE aI v.floor)]=qX n (AF f g c v g):=fF λ j=>by
 rw[dS];by_cases hj:j<n
 .by_cases e:c=j;.subst e;rw[iP rfl,vJ,iP hj,CS hj];simp[AF]
  rw[iN e,CS hj,CS hj];simp[AF,Ne.symm e]
 rw[bE (l:=qX n (AF f g c v g)) (by rw[vJ];omega)];split;.rw[vJ,iN oO]
 exact bE (by rw[vJ];omega)
def aXQ{f:Nat->Nat->Sp}:(λ j=>if j=g then qX n (AF f g c v g)else qX n (f j))=λ j=>qX n (AF f g c v j):=funext λ j=>by
 by_cases e:j=g;.subst e;rw[iP rfl]
 rw[iN e];congr 1;funext c';simp[AF,e]
def aYS{ns:Nat}(h:g<ns):(uD b ns n ns)[g]? =aA [.sl (b+g) 0 n]:=by rw[tO];simp[h]
def aQD{k:Nat}(h:g<n):AM.look (nA (k+a) s n R) (k+(a+g))=aA ⟨s,aB,R g⟩:=by rw[<-gM];exact wE h
def aPA{k:Nat}{rows:List (List AVal)}(h:g<n):yL (nA (k+a) s n R) (k+(a+g)) ⟨s,aB,rows⟩=nA (k+a) s n (λ j=>if j=g then rows else R j):=by rw[<-gM];exact PH h
attribute [local go_sem] aQD aPA
def mkW(s:St)(d:DE)(i:Nat):Nat->Int:=xI s.ng s.wt (pre d.wg i)
def mkS(s:St)(d:DE)(n i:Nat):Nat->Nat->Sp:=FY s.ns n s.sp (pre d.sp i)
def IB(g:Nat->Nat):Kp [0,1,2,3,4,5,6,8,10,11,12,15,30,31,32,33,47,73,74,75,76,102,128] g:=oR
def WH(s:St)(n:Nat)(d:DE)(hd:d.size<=1000)(hn:0<n)(hn2:n<=1000)(e1:s.nk=n)(e2:s.nu=n)(e3:∀g,g<s.ns->s.nsp g=n)(h1:0<s.ng)(h2:s.ng<=1000)(h5:0<s.ns)(h6:s.ns<=1000)(h8:s.nt<=1000)
 (hright:AM.Pure aG Γ 24 [.agg s.cells] aB) (k:Nat) (POST:Nat->AVal->aS->Prop)
 (hrest:AM.W aG Γ 131 k (gV (gD Tryz.f22) [1,1,1,1,1,1,1,1,1,1]) (AG aG Tryz.f22 POST) (k+3+(20+s.ns)+1) [(2,.rp s.cells),(3,.rp d.cells),(4,.ptr (k+2) 0 0),(5,(0:Int)),(6,.ptr (k+3) 0 0)] ((k+3,⟨7,aF,[[s.cpus,aD (aE aI s.credit),.sl (k+16) 0 s.ng,.sl (k+17) 0 n,.sl (k+18) 0 n,.sl (k+19) 0 (mkT s d).length,.sl (k+20) 0 s.ns]]⟩)::(k+2,⟨7,aB,[[(0:Int),aD (aE aI 0),(),(),(),(),()]]⟩)::(k+16,⟨2,aB,uS s.ng s.par (mkW s d d.n2)⟩)::(k+17,⟨1,aB,kL n (xI n s.clk (pre d.ck d.n0))⟩)::(k+18,⟨1,aB,kL n (xI n s.cur (pre d.cu d.n1))⟩)::(k+19,⟨8,aB,(mkT s d).map tR⟩)::(k+20,⟨1,aF,uD (k+21) s.ns n s.ns⟩)::nA (k+21) 3 s.ns (λ g=>qX n ((mkS s d n d.n5) g)))):
 AM.Tr aG Γ 22 k [.agg s.cells,.agg d.cells] [] POST:=by
 have hd':=hd;unfold DE.size at hd;have hcp:=aYT (Γ:=Γ) s n hn hn2 e1 e2 e3 h1 h2 h5 h6 h8 (k+3);obtain⟨kx,hkx⟩:=xE (k+3+(20+s.ns));rw[<-hkx]at hcp hrest;simp only[OC,OH,gM,aAC]at hcp;obtain⟨C1,eC1⟩:=xE (xI n s.clk (pre d.ck d.n0));obtain⟨U1,eU1⟩:=xE (xI n s.cur (pre d.cu d.n1));have hp1:AM.Tr aG Γ 62 (kx+1) [.sl (k+17) 0 n,.rd 2 d.n0 d.f0] [(k+17,⟨1,aB,kL n s.clk⟩)] (λ k1 r1 H1=>k1=kx+1/\r1= .tup []/\H1=[(k+17,⟨1,aB,kL n C1⟩)]):=by rw[eC1];exact a8I n s.clk d.n0 d.ck oO oO (kx+1) (k+17) oO
 have hp2:AM.Tr aG Γ 62 (kx+1) [.sl (k+18) 0 n,.rd 2 d.n1 d.f1] [(k+18,⟨1,aB,kL n s.cur⟩)] (λ k1 r1 H1=>k1=kx+1/\r1= .tup []/\H1=[(k+18,⟨1,aB,kL n U1⟩)]):=by rw[eU1];exact a8I n s.cur d.n1 d.cu oO oO (kx+1) (k+18) oO
 rw[<-eC1,<-eU1]at hrest;have hcs:(uD (k+21) s.ns n s.ns).map (λ row=>row.map (BS kx (k+3)))=uD (k+21) s.ns n s.ns:=by rw[tO,kT];refine fR λ g hg=>?_;have:=dX.1 hg;simp only[Function.comp,bN,bV,BS,sw];rw[iN oO,iN oO]
 obtain⟨sc,esc⟩:=xE s.cells;refine bR Tryz.func22 rfl 131 rfl bB (iG rfl ?_);(refine qM rfl [0,1,2,3,4,5,6,8,10,11,12,15,30,31,32,33,47,73,74,75,76,102,128] rfl rfl (λ K hK=>?_));simp-dsimp-implicitDefEqProofs (disch:=omega)only[go_sem,iO,↓reduceIte];(refine hK _ _ _ _ (λ hx=>?_));clear hx hK;simp-dsimp-implicitDefEqProofs (disch:=omega)only[go_sem,iO,↓reduceIte];clear K;refine gW (gT (k) (by simp-dsimp-implicitDefEqProofs (disch:=omega)only[go_sem,iO,↓reduceIte];rfl) rfl) ?_;simp-dsimp-implicitDefEqProofs only[qO,jR,go_sem,eq_self,↓reduceIte];refine gW (gT (k+1) (by simp-dsimp-implicitDefEqProofs (disch:=omega)only[go_sem,iO,↓reduceIte];rfl) rfl) ?_;simp-dsimp-implicitDefEqProofs only[qO,jR,go_sem,eq_self,↓reduceIte];have kp:=kN k [0,1,2,3,4,5,6,8,10,11,12,15,30,31,32,33,47,73,74,75,76,102,128];refine gO ?_;refine xJ [.ret aB] ?_;refine iA ?_ ?_;all_goals(try exact hright)
 refine gJ λ ht=>?_;refine xJ [.far (.agg [s.cpus,aD (aE aI s.credit),.sl (k+16) 0 s.ng,.sl (k+17) 0 n,.sl (k+18) 0 n,.sl (k+19) 0 s.nt,.sl (k+20) 0 s.ns]) kx [(k+2,⟨7,aB,[[(0:Int),aD (aE aI 0),(),(),(),(),()]]⟩)] [] ((k+16,⟨2,aB,uS s.ng s.par s.wt⟩)::(k+17,⟨1,aB,kL n s.clk⟩)::(k+18,⟨1,aB,kL n s.cur⟩)::(k+19,⟨8,aB,(sQ s).map tR⟩)::(k+20,⟨1,aF,uD (k+21) s.ns n s.ns⟩)::nA (k+21) 3 s.ns (λ g=>qX n (s.sp g)))] ?_;refine FN (zs ?_) (zs ?_) (zs ?_) (zs ?_);.exact λ q=>rfl
 .exact λ q hq=>by
   rcases hq with hq|hq;.simp[fN,AM.look]at hq
   have:k+16<=q:=by
    simp only[fN,AM.look]at hq;repeat'(split at hq;(· omega))
    obtain⟨B,hB⟩:=fU.1 hq;have:=KJ hB;omega
   simp only[AM.look];repeat rw[iN oO]
 .exact hcp
 refine gW (Mv.swap kx (k+3) ⟨oO,oO⟩ ⟨oO,oO⟩) ?_;have uU:=hcs;refine cZ ?_;have uU:=Go.AM.uU;refine gO ?_;refine sK [.gen (.tup []) (kx+1) [(k+17,⟨1,aB,kL n s.clk⟩)] [(k+17,⟨1,aB,kL n C1⟩)]] ?_;all_goals(try exact hp1)
 refine gO ?_;refine sK [.gen (.tup []) (kx+1) [(k+18,⟨1,aB,kL n s.cur⟩)] [(k+18,⟨1,aB,kL n U1⟩)]] ?_;all_goals(try exact hp2)
 refine gO ?_;refine cD (X:=Nat) rfl [0,1,2,3,4,5,6,8,10,11,12,15,30,31,32,33,47,73,74,75,76,102,128] (kx+1) (λ i=>[(32,i)]) (λ i=>(k+3,⟨7,aF,[[s.cpus,aD (aE aI s.credit),.sl (k+16) 0 s.ng,.sl (k+17) 0 n,.sl (k+18) 0 n,.sl (k+19) 0 s.nt,.sl (k+20) 0 s.ns]]⟩)::(k+2,⟨7,aB,[[(0:Int),aD (aE aI 0),(),(),(),(),()]]⟩)::(k+16,⟨2,aB,uS s.ng s.par (mkW s d i)⟩)::(k+17,⟨1,aB,kL n C1⟩)::(k+18,⟨1,aB,kL n U1⟩)::(k+19,⟨8,aB,(sQ s).map tR⟩)::(k+20,⟨1,aF,uD (k+21) s.ns n s.ns⟩)::nA (k+21) 3 s.ns (λ g=>qX n (s.sp g))) (λ i=>i<=d.n2) (λ i=>d.n2-i) 0 ?_ (bF _) ?_;.rw[show mkW s d 0=s.wt from rfl];refine cZ ?_;exact iC
 intro i hi;obtain⟨F,eF⟩:=xE (mkW s d i);have hnx:mkW s d (i+1)=if 0<=(d.wg i).1/\(d.wg i).1<s.ng then AE F (d.wg i).1.toNat (d.wg i).2 else F:=by rw[mkW,PV,UJ,eF];rfl
 rw[<-eF];by_cases hlt:i<d.n2
 .obtain⟨x,ex⟩:=xE ((d.wg i).1);obtain⟨y,ey⟩:=xE ((d.wg i).2);rw[<-ex,<-ey]at hnx;have ex':=ex.symm;have ey':=ey.symm;have hl:=vL s.ng s.par F;by_cases h0:0<=x
  .by_cases hx1:x<s.ng;.rw[iP ⟨h0,hx1⟩]at hnx;have g1:=CT (n:=s.ng) (f:=s.par) (g:=F) (i:=x.toNat) oO;have gs:=aPG (n:=s.ng) (f:=s.par) (g:=F) (i:=x.toNat) (v:=y);obtain⟨R,eR⟩:=xE (uS s.ng s.par F);rw[<-eR]at hl g1 gs;rw[<-eR];have b1:x.toNat<s.ng:=oO;have uU:=xG hl g1 h0 hx1 b1 ex' ey' hlt;refine cZ ?_;refine vI ?_;refine kB (gB λ ht ht=>⟨i+1,oO,oO,?_⟩);rw[hnx,<-gs,(oO:((i+1:Nat):Int)=(i:Int)+1)];exact iC
   rw[iN (λ h=>hx1 h.2)]at hnx;have uU:=rY hl h0 hx1 ex' ey' hlt;refine cZ ?_;refine vI ?_;refine kB (gB λ ht ht=>⟨i+1,oO,oO,?_⟩);rw[hnx,(oO:((i+1:Nat):Int)=(i:Int)+1)];exact iC
  rw[iN (λ h=>h0 h.1)]at hnx;have uU:=GX hl h0 ex' ey' hlt;refine cZ ?_;refine vI ?_;refine kB (gB λ ht ht=>⟨i+1,oO,oO,?_⟩);rw[hnx,(oO:((i+1:Nat):Int)=(i:Int)+1)];exact iC
 clear hnx;have hin:i=d.n2:=oO;rw[hin]at eF;obtain⟨W1,eW1⟩:=xE (mkW s d d.n2);rw[<-eW1]at eF hrest;rw[eF];obtain⟨K0,eK0⟩:=xE (aVM s d);have hK0:K0.length<=1000:=by rw[eK0];exact pL (bQR _ _) (by rw[NF];exact h8)
 have hdf:=aQZ (Γ:=Γ) (sQ s) (by rw[NF];omega) d oO (kx+1) (k+19) oO;rw[NF]at hdf;have hK0e:((sQ s).filter λ t=> !uN d t)=K0:=eK0.symm;rw[hK0e]at hdf;obtain⟨m,em⟩:=xE K0.length;rw[<-em]at hdf;have hnlt:¬(i:Int)<(d.n2:Int):=oO;have uU:=hnlt;refine cZ ?_;refine gJ λ ht=>?_;refine xJ [.gen (.sl (k+19) 0 m) (kx+1) [(k+19,⟨8,aB,(sQ s).map tR⟩)] [(k+19,⟨8,aB,K0.map tR⟩)]] ?_;refine iA ?_ ?_;all_goals(try exact hdf)
 refine EB (X:=Unit) rfl [0,1,2,3,4,5,6,8,10,11,12,15,30,31,32,33,47,73,74,75,76,102,128] (kx+1) (λ _=>[]) (λ _=>(k+3,⟨7,aF,[[s.cpus,aD (aE aI s.credit),.sl (k+16) 0 s.ng,.sl (k+17) 0 n,.sl (k+18) 0 n,.sl (k+19) 0 (m+d.n4),.sl (k+20) 0 s.ns]]⟩)::(k+2,⟨7,aB,[[(0:Int),aD (aE aI 0),(),(),(),(),()]]⟩)::(k+16,⟨2,aB,uS s.ng s.par W1⟩)::(k+17,⟨1,aB,kL n C1⟩)::(k+18,⟨1,aB,kL n U1⟩)::(k+19,⟨8,aB,(K0++pre d.tk d.n4).map tR⟩)::(k+20,⟨1,aF,uD (k+21) s.ns n s.ns⟩)::nA (k+21) 3 s.ns (λ g=>qX n (s.sp g))) (λ _=>True) ?_ ?_
 .rcases a7N d.n4 with h4|h4
  .have e:K0++pre d.tk d.n4=K0:=by rw[h4];exact cX _
   have uU:=h4;refine cZ ?_;refine gO ?_;refine⟨(),?_⟩;rw[show K0++pre d.tk 0=K0 from cX _];exact iC
  have hne4:¬d.n4=0:=oO;have erow:(aR d.n4).map d.f4=(pre d.tk d.n4).map tR:=by unfold pre;rw[kT];rfl
  have hone4:(((pre d.tk d.n4).map tR).all λ row=>row.all AM.one)=aB:=jW _ _ λ _=>rfl;have hKl:(K0.map tR).length=m:=by rw[dG,em]
  have hcs2:(uD (k+21) s.ns n s.ns).map (λ row=>row.map (BS (kx+1) (k+19)))=uD (k+21) s.ns n s.ns:=by rw[tO,kT];refine fR λ g hg=>?_;have:=dX.1 hg;simp only[Function.comp,bN,bV,BS,sw];rw[iN oO,iN oO]
  have uU:=GX h4 hne4 erow hone4 hKl;refine cZ ?_;refine gO ?_;refine⟨(),Mv.trans (Mv.swap (kx+1) (k+19) ⟨oO,oO⟩ ⟨oO,oO⟩) ?_⟩;rw[aQ];have uU:=hcs2;refine cZ ?_;exact iC
 rintro _ _;obtain⟨L1,eL1⟩:=xE (K0++pre d.tk d.n4);have hL1:L1.length=m+d.n4:=by rw[eL1,bT,<-em];simp[pre]
 rw[<-eL1];have hso:=XB (Γ:=Γ) L1 oO (kx+1) (k+19) oO;rw[hL1]at hso;obtain⟨T1,eT1⟩:=xE (mkT s d);have hst:JY iM jB L1=T1:=by rw[eT1,mkT,<-eK0,<-eL1]
 have hTl:T1.length=m+d.n4:=by rw[<-hst,stab_perm.length_eq,hL1]
 rw[hst]at hso;rw[<-eT1,hTl]at hrest;have uU:=Go.AM.uU;refine cZ ?_;refine gO ?_;refine sK [.gen (.tup []) (kx+1) [(k+19,⟨8,aB,L1.map tR⟩)] [(k+19,⟨8,aB,T1.map tR⟩)]] ?_;all_goals(try exact hso)
 refine gO ?_;refine cD (X:=Nat) rfl [0,1,2,3,4,5,6,8,10,11,12,15,30,31,32,33,47,73,74,75,76,102,128] (kx+1) (λ i=>[(75,i)]) (λ i=>(k+3,⟨7,aF,[[s.cpus,aD (aE aI s.credit),.sl (k+16) 0 s.ng,.sl (k+17) 0 n,.sl (k+18) 0 n,.sl (k+19) 0 (m+d.n4),.sl (k+20) 0 s.ns]]⟩)::(k+2,⟨7,aB,[[(0:Int),aD (aE aI 0),(),(),(),(),()]]⟩)::(k+16,⟨2,aB,uS s.ng s.par W1⟩)::(k+17,⟨1,aB,kL n C1⟩)::(k+18,⟨1,aB,kL n U1⟩)::(k+19,⟨8,aB,T1.map tR⟩)::(k+20,⟨1,aF,uD (k+21) s.ns n s.ns⟩)::nA (k+21) 3 s.ns (λ g=>qX n ((mkS s d n i) g))) (λ i=>i<=d.n5) (λ i=>d.n5-i) 0 ?_ (bF _) ?_;.rw[show mkS s d n 0=s.sp from rfl];refine cZ ?_;exact iC
 intro i hi;obtain⟨F,eF⟩:=xE (mkS s d n i);have hnx:mkS s d n (i+1)=if 0<=(d.sp i).1/\(d.sp i).1<s.ns/\0<=(d.sp i).2.1/\(d.sp i).2.1<n then AF F (d.sp i).1.toNat (d.sp i).2.1.toNat (d.sp i).2.2 else F:=by rw[mkS,PV,aPO,eF];rfl
 rw[<-eF];by_cases hlt:i<d.n5
 .obtain⟨x,ex⟩:∃x,x=(d.sp i).1:=⟨_,rfl⟩;obtain⟨y,ey⟩:=xE ((d.sp i).2.1);obtain⟨v,ev⟩:=xE ((d.sp i).2.2);rw[<-ex,<-ey,<-ev]at hnx;have ex':=ex.symm;have ey':=ey.symm;have ev':=ev.symm;by_cases h0:0<=x
  .by_cases hx1:x<s.ns
   .by_cases h2y:0<=y
    .by_cases hy1:y<n;.rw[iP ⟨h0,hx1,h2y,hy1⟩]at hnx;obtain⟨gt,egt⟩:=xE x.toNat;obtain⟨ct,ect⟩:=xE y.toNat;rw[<-egt,<-ect]at hnx;have egt':=egt.symm;have ect':=ect.symm;have bg:gt<s.ns:=oO;have bc:ct<n:=oO;have hco:=aYS (b:=k+21) (n:=n) bg;rw[gM]at hco;have g1:=CS (f:=F gt) bc;have hls:=vJ n (F gt);have gs:=aPE (n:=n) (c:=ct) (f:=F) (g:=gt) (v:=v);have fs:=aXQ (n:=n) (c:=ct) (f:=F) (g:=gt) (v:=v);have uU:=fB hlt ex' ey' ev' h0 hx1 h2y hy1 (fB egt' ect' bg bc hco g1 hls gs fs);refine cZ ?_;have kp:=IB (λ i=>if k+21<=i then 21 else i-k);refine vI ?_;refine kB (gB λ ht ht=>⟨i+1,oO,oO,?_⟩);rw[hnx,(oO:((i+1:Nat):Int)=(i:Int)+1)];exact iC
     rw[iN (λ h=>oO)]at hnx;have uU:=xG hlt ex' ey' ev' h0 hx1 h2y hy1;refine cZ ?_;have kp:=IB (λ i=>if k+21<=i then 21 else i-k);refine vI ?_;refine kB (gB λ ht ht=>⟨i+1,oO,oO,?_⟩);rw[hnx,(oO:((i+1:Nat):Int)=(i:Int)+1)];exact iC
    rw[iN (λ h=>oO)]at hnx;have uU:=yI hlt ex' ey' ev' h0 hx1 h2y;refine cZ ?_;have kp:=IB (λ i=>if k+21<=i then 21 else i-k);refine vI ?_;refine kB (gB λ ht ht=>⟨i+1,oO,oO,?_⟩);rw[hnx,(oO:((i+1:Nat):Int)=(i:Int)+1)];exact iC
   rw[iN (λ h=>oO)]at hnx;have uU:=rY hlt ex' ey' ev' h0 hx1;refine cZ ?_;have kp:=IB (λ i=>if k+21<=i then 21 else i-k);refine vI ?_;refine kB (gB λ ht ht=>⟨i+1,oO,oO,?_⟩);rw[hnx,(oO:((i+1:Nat):Int)=(i:Int)+1)];exact iC
  rw[iN (λ h=>oO)]at hnx;have uU:=GX hlt ex' ey' ev' h0;refine cZ ?_;have kp:=IB (λ i=>if k+21<=i then 21 else i-k);refine vI ?_;refine kB (gB λ ht ht=>⟨i+1,oO,oO,?_⟩);rw[hnx,(oO:((i+1:Nat):Int)=(i:Int)+1)];exact iC
 have hin5:i=d.n5:=oO;rw[hin5]at eF;rw[<-eF]at hrest;refine cZ ?_;refine iG rfl ?_;(refine qM rfl [0,1,2,3,4,5,6,8,10,11,12,15,30,31,32,33,47,73,74,75,76,102,128] rfl rfl (λ K hK=>?_));simp-dsimp-implicitDefEqProofs (disch:=omega)only[go_sem,iO,↓reduceIte];(refine hK _ _ _ _ (λ hx=>?_));clear hx hK;simp-dsimp-implicitDefEqProofs (disch:=omega)only[go_sem,iO,↓reduceIte];clear K;refine iG rfl (uQ rfl _ rfl (λ ht=>?_) (λ ht=>?_));.exact absurd (of_decide_eq_true ht) oO
 refine GW rfl (cZ ?_);refine gW ?_ hrest;exact iC
structure OwnSt (Hc:aS) (b n:Nat) (t:St):Prop where
 nk:t.nk=n
 nu:t.nu=n
 sp:∀g,g<t.ns->t.nsp g=n
 l1:AM.look Hc (b+16)=aA ⟨2,aB,uS t.ng t.par t.wt⟩
 l2:AM.look Hc (b+17)=aA ⟨1,aB,kL n t.clk⟩
 l3:AM.look Hc (b+18)=aA ⟨1,aB,kL n t.cur⟩
 l4:AM.look Hc (b+19)=aA ⟨8,aB,(sQ t).map tR⟩
 l5:AM.look Hc (b+20)=aA ⟨1,aF,uD (b+21) t.ns n t.ns⟩
 l6:∀g,g<t.ns->AM.look Hc (b+21+g)=aA ⟨3,aB,qX n (t.sp g)⟩
def HS(b n:Nat)(t:St):List AVal:=[aD (aE aH t.cpus),aD (aE aI t.credit),.sl (b+16) 0 t.ng,.sl (b+17) 0 n,.sl (b+18) 0 n,.sl (b+19) 0 t.nt,.sl (b+20) 0 t.ns]
def a9Q(h:i<t.nt):((sQ t).map tR)[i]? =aA (tf t i):=by rw[aAV];simp[h]
def aKV(h:OwnSt Hc b n t):∀(j:Nat) v v',(HS b n t)[j]? =aA v->t.cells[j]? =aA v'->Bor Γ Hc v v':=by
 have b2:Bor Γ Hc (.sl (b+16) 0 t.ng) (.rd 2 t.ng (gf t)):=sM h.l1 (by rw[vL];exact aJ _) (λ i _=>rfl) λ i hi=>⟨_,CT hi,nB rfl⟩;have b3:Bor Γ Hc (.sl (b+17) 0 n) (.rd 1 n (kf t)):=sM h.l2 (by rw[sC];exact aJ _) (λ i _=>rfl) λ i hi=>⟨_,yO hi,nB rfl⟩;have b4:Bor Γ Hc (.sl (b+18) 0 n) (.rd 1 n (uf t)):=sM h.l3 (by rw[sC];exact aJ _) (λ i _=>rfl) λ i hi=>⟨_,yO hi,nB rfl⟩;have b5:Bor Γ Hc (.sl (b+19) 0 t.nt) (.rd 8 t.nt (tf t)):=sM h.l4 (by rw[dG,NF];exact aJ _) (λ i _=>rfl) λ i hi=>⟨_,a9Q hi,nB rfl⟩
 have b6:Bor Γ Hc (.sl (b+20) 0 t.ns) (.rd 1 t.ns (ssf t)):=sM h.l5 (by rw[tO];simp) (λ i _=>rfl) λ i hi=>⟨_,aYS hi,λ j v v' h1 h2=>by
  match j with
  | 0=>
    simp only[lY,aA.injEq,ssf]at h1 h2
    subst h1;subst h2
    rw[h.sp i hi]
    exact sM (h.l6 i hi) (by rw[vJ];exact aJ _) (λ c _=>rfl) λ c hc=>⟨_,CS hc,nB rfl⟩
  |j+1=>simp[ssf]at h1⟩
 have e1:=h.nk;have e2:=h.nu;intro j v v' h1 h2
 match j with
 |0=>cases h1;cases h2;exact Bor.lit
 |1=>cases h1;cases h2;exact Bor.lit
 |2=>cases h1;cases h2;exact b2
 |3=>cases h1;cases h2;rw[e1];exact b3
 |4=>cases h1;cases h2;rw[e2];exact b4
 |5=>cases h1;cases h2;exact b5
 |6=>cases h1;cases h2;exact b6
 |j+7=>simp[HS]at h1
def a3G(h:OwnSt Hc b n t):Bor Γ Hc (.agg (HS b n t)) (.agg t.cells):=Bor.agg rfl (aKV h)
def a3F{id:Nat}(h:OwnSt Hc b n t)(hid:AM.look Hc id=aA ⟨7,aF,[HS b n t]⟩):Bor Γ Hc (.ptr id 0 0) (.rp t.cells):=Bor.ptr hid rfl rfl (aKV h)
def AH(b n:Nat)(t:St):aS:=(b+16,⟨2,aB,uS t.ng t.par t.wt⟩)::(b+17,⟨1,aB,kL n t.clk⟩)::(b+18,⟨1,aB,kL n t.cur⟩)::(b+19,⟨8,aB,(sQ t).map tR⟩)::(b+20,⟨1,aF,uD (b+21) t.ns n t.ns⟩)::nA (b+21) 3 t.ns (λ g=>qX n (t.sp g))
def aBU(e1:t.nk=n)(e2:t.nu=n)(e3:∀g,g<t.ns->t.nsp g=n):OwnSt (AH b n t) b n t where
 nk:=e1
 nu:=e2
 sp:=e3
 l1:=by simp only[AH,AM.look];repeat(first|rw[iN oO]|rw[iP trivial])
 l2:=by simp only[AH,AM.look];repeat(first|rw[iN oO]|rw[iP trivial])
 l3:=by simp only[AH,AM.look];repeat(first|rw[iN oO]|rw[iP trivial])
 l4:=by simp only[AH,AM.look];repeat(first|rw[iN oO]|rw[iP trivial])
 l5:=by simp only[AH,AM.look];repeat(first|rw[iN oO]|rw[iP trivial])
 l6 g hg:=by
  simp only[AH,AM.look];repeat rw[iN oO]
  exact wE hg
def OwnSt.two{j:Nat}{A B:Blk}(h:OwnSt Hc b n t)(hi:i<b+16)(hj:j<b+16):OwnSt ((i,A)::(j,B)::Hc) b n t where
 nk:=h.nk
 nu:=h.nu
 sp:=h.sp
 l1:=by simp only[AM.look];rw[iN oO,iN oO];exact h.l1
 l2:=by simp only[AM.look];rw[iN oO,iN oO];exact h.l2
 l3:=by simp only[AM.look];rw[iN oO,iN oO];exact h.l3
 l4:=by simp only[AM.look];rw[iN oO,iN oO];exact h.l4
 l5:=by simp only[AM.look];rw[iN oO,iN oO];exact h.l5
 l6 g hg:=by simp only[AM.look];rw[iN oO,iN oO];exact h.l6 g hg
def NQ(k:Nat):Kp [0,1,4,5,10,12,13,14,24] (λ i=>i-k):=oR
def bGG(n m:Nat)(hn:n<=100000)(hm:m<=100000)(f g:Nat->Int):AM.Pure aG Γ 114 [.rd 1 n (λ i=>[(f i)]),.rd 1 m (λ i=>[(g i)])] (pE n m (λ i=>f i==g i)):=by
 refine cA Tryz.func114 rfl 26 rfl bB rfl λ k=>?_;obtain⟨E,eE⟩:=xE (pE n m (λ i=>f i==g i));rw[<-eE];have kp:=NQ k;refine wl ?_;refine pN (λ ht=>?_) λ ht=>?_;.refine cB rfl ⟨_,rfl,bG ?_⟩;rw[eE,rE oO]
 refine cD (X:=Nat) rfl [0,1,4,5,10,12,13,14,24] k (λ i=>[(13,i)]) (λ i=>[]) (λ i=>i<=n/\∀j,j<i->(f j==g j)=aB) (λ i=>n-i) 0 ?_ ⟨bF _,λ j hj=>absurd hj (bU _)⟩ ?_;.refine gG ?_;exact sB
 rintro i ⟨hi,hall⟩;refine gG ?_;refine wl ?_;refine kS (gB λ ht ht=>?_) (gB λ ht ht=>?_) (rX λ ht=>?_);.refine cB rfl ⟨_,rfl,bG ?_⟩;rw[eE,rF (i:=i) oO (by first|(rw[dY];simp at ht⊢;omega)|(simpa using ht))]
 .refine⟨i+1,⟨oO,λ j hj=>?_⟩,oO,?_⟩
  .by_cases he:j=i;.subst he;first|(simp;omega)|(simpa using ht)
   exact hall j oO
  exact sB
 refine cB rfl ⟨_,rfl,bG ?_⟩;rw[eE,kQ oO (λ j hj=>hall j oO)]
section
attribute [local go_sem] mI tR pR
def aXT(n m:Nat)(hn:n<=100000)(hm:m<=100000)(f g:Nat->Int×Int):AM.Pure aG Γ 128 [.rd 2 n (λ i=>mI (f i)),.rd 2 m (λ i=>mI (g i))] (pE n m (λ i=>cV (f i) (g i))):=by
 refine cA Tryz.func128 rfl 26 rfl bB rfl λ k=>?_;obtain⟨E,eE⟩:=xE (pE n m (λ i=>cV (f i) (g i)));rw[<-eE];have kp:=NQ k;refine wl ?_;refine pN (λ ht=>?_) λ ht=>?_;.refine cB rfl ⟨_,rfl,bG ?_⟩;rw[eE,rE oO]
 refine cD (X:=Nat) rfl [0,1,4,5,10,12,13,14,24] k (λ i=>[(13,i)]) (λ i=>[]) (λ i=>i<=n/\∀j,j<i->(cV (f j) (g j))=aB) (λ i=>n-i) 0 ?_ ⟨bF _,λ j hj=>absurd hj (bU _)⟩ ?_;.refine gG ?_;exact sB
 rintro i ⟨hi,hall⟩;refine gG ?_;refine wl ?_;refine kS (gB λ ht ht=>?_) (gB λ ht ht=>?_) (rX λ ht=>?_);.refine cB rfl ⟨_,rfl,bG ?_⟩;rw[eE,rF (i:=i) oO (by first|(rw[dY];simp[cV]at ht⊢;omega)|(simpa [cV]using ht))]
 .refine⟨i+1,⟨oO,λ j hj=>?_⟩,oO,?_⟩
  .by_cases he:j=i;.subst he;first|(simp[cV];omega)|(simpa [cV]using ht)
   exact hall j oO
  exact sB
 refine cB rfl ⟨_,rfl,bG ?_⟩;rw[eE,kQ oO (λ j hj=>hall j oO)]
def bGE(n m:Nat)(hn:n<=100000)(hm:m<=100000)(f g:Nat->Tk):AM.Pure aG Γ 129 [.rd 8 n (λ i=>tR (f i)),.rd 8 m (λ i=>tR (g i))] (pE n m (λ i=>cT (f i) (g i))):=by
 refine cA Tryz.func129 rfl 26 rfl bB rfl λ k=>?_;obtain⟨E,eE⟩:=xE (pE n m (λ i=>cT (f i) (g i)));rw[<-eE];have kp:=NQ k;refine wl ?_;refine pN (λ ht=>?_) λ ht=>?_;.refine cB rfl ⟨_,rfl,bG ?_⟩;rw[eE,rE oO]
 refine cD (X:=Nat) rfl [0,1,4,5,10,12,13,14,24] k (λ i=>[(13,i)]) (λ i=>[]) (λ i=>i<=n/\∀j,j<i->(cT (f j) (g j))=aB) (λ i=>n-i) 0 ?_ ⟨bF _,λ j hj=>absurd hj (bU _)⟩ ?_;.refine gG ?_;exact sB
 rintro i ⟨hi,hall⟩;refine gG ?_;refine wl ?_;refine kS (gB λ ht ht=>?_) (gB λ ht ht=>?_) (rX λ ht=>?_);.refine cB rfl ⟨_,rfl,bG ?_⟩;rw[eE,rF (i:=i) oO (by first|(rw[dY];simp[cT]at ht⊢;omega)|(simpa [cT]using ht))]
 .refine⟨i+1,⟨oO,λ j hj=>?_⟩,oO,?_⟩
  .by_cases he:j=i;.subst he;first|(simp[cT];omega)|(simpa [cT]using ht)
   exact hall j oO
  exact sB
 refine cB rfl ⟨_,rfl,bG ?_⟩;rw[eE,kQ oO (λ j hj=>hall j oO)]
def bGF(n m:Nat)(hn:n<=100000)(hm:m<=100000)(f g:Nat->Int×Int×Sp):AM.Pure aG Γ 130 [.rd 5 n (λ i=>pR (f i)),.rd 5 m (λ i=>pR (g i))] (pE n m (λ i=>cP (f i) (g i))):=by
 refine cA Tryz.func130 rfl 26 rfl bB rfl λ k=>?_;obtain⟨E,eE⟩:=xE (pE n m (λ i=>cP (f i) (g i)));rw[<-eE];have kp:=NQ k;refine wl ?_;refine pN (λ ht=>?_) λ ht=>?_;.refine cB rfl ⟨_,rfl,bG ?_⟩;rw[eE,rE oO]
 refine cD (X:=Nat) rfl [0,1,4,5,10,12,13,14,24] k (λ i=>[(13,i)]) (λ i=>[]) (λ i=>i<=n/\∀j,j<i->(cP (f j) (g j))=aB) (λ i=>n-i) 0 ?_ ⟨bF _,λ j hj=>absurd hj (bU _)⟩ ?_;.refine gG ?_;exact sB
 rintro i ⟨hi,hall⟩;refine gG ?_;obtain⟨z,ez⟩:=xE (cP (f i) (g i));refine iG rfl ?_;(refine qM rfl [0,1,4,5,10,12,13,14,24] rfl rfl (λ K hK=>?_));refine sT ?_;(refine hK _ _ _ _ (λ hx=>?_));clear hx hK;refine sT ?_;clear K;refine iG rfl (uQ rfl _ rfl (λ ht=>?_) (λ ht=>?_))
 .simp only[nf]at ht;refine BM rfl (gG ?_);refine iG rfl (BN rfl (iG rfl ?_));(refine qM rfl [0,1,4,5,10,12,13,14,24] rfl rfl (λ K hK=>?_));refine sT ?_;(refine hK _ _ _ _ (λ hx=>?_));clear hx hK;refine sT ?_;clear K;refine iG rfl (dl [.raw (aA 24) ⟨aD (bC (!z)),k,[],[]⟩] ?_);refine iA ?_ ?_;.rw[ez];exact aBR rfl rfl rfl
  refine wl ?_;refine pN (λ ht=>?_) λ ht=>?_;.refine cB rfl ⟨_,rfl,bG ?_⟩;rw[eE,rF (i:=i) oO (by rw[<-ez];simp_all)]
  refine⟨i+1,⟨oO,λ j hj=>?_⟩,oO,?_⟩
  .by_cases he:j=i;.subst he;rw[<-ez];simp_all
   exact hall j oO
  exact sB
 simp only[nf]at ht;refine GW rfl (gG ?_);refine jI ?_;refine cB rfl ⟨_,rfl,bG ?_⟩;rw[eE,kQ oO (λ j hj=>hall j oO)]
end
def bAC(d e:DE)(hd:d.size<=100000)(he:e.size<=100000):AM.Pure aG Γ 70 [.agg d.cells,.agg e.cells] (eqD d e):=by
 unfold DE.size at hd he;refine cA Tryz.func70 rfl 45 rfl bB rfl λ k=>?_;obtain⟨E,eE⟩:=xE (eqD d e);rw[<-eE];obtain⟨z0,h0⟩:=xE (pE d.n0 e.n0 (λ i=>cV (d.ck i) (e.ck i)));obtain⟨z1,h1⟩:=xE (pE d.n1 e.n1 (λ i=>cV (d.cu i) (e.cu i)));obtain⟨z2,h2⟩:=xE (pE d.n2 e.n2 (λ i=>cV (d.wg i) (e.wg i)));obtain⟨z3,h3⟩:=xE (pE d.n3 e.n3 (λ i=>d.gn i==e.gn i));obtain⟨z4,h4⟩:=xE (pE d.n4 e.n4 (λ i=>cT (d.tk i) (e.tk i)));obtain⟨z5,h5⟩:=xE (pE d.n5 e.n5 (λ i=>cP (d.sp i) (e.sp i)));rw[eqD,<-h0,<-h1,<-h2,<-h3,<-h4,<-h5]at eE;have kp:=kN k [0,1,2,3,4];refine jI ?_;refine cl [.ret z0,.ret z1,.ret z2,.ret z3,.ret z4,.ret z5] ?_;refine bEJ (zs ?_) (gZ λ hg=>?_) (yB λ hg hg=>?_) (MO λ hg hg hg=>?_) (aOE λ hg hg hg hg=>?_) (aOD λ hg hg hg hg hg=>?_) (aOD λ hg hg hg hg hg=>?_) (aOD λ hg hg hg hg hg=>?_) (aOE λ hg hg hg hg=>?_) (MO λ hg hg hg=>?_) (yB λ hg hg=>?_) (gZ λ hg=>?_);all_goals(first|(rw[h0];exact aXT d.n0 e.n0 oO oO d.ck e.ck)|(rw[h1];exact aXT d.n1 e.n1 oO oO d.cu e.cu)|(rw[h2];exact aXT d.n2 e.n2 oO oO d.wg e.wg)|(rw[h3];exact bGG d.n3 e.n3 oO oO d.gn e.gn)|(rw[h4];exact bGE d.n4 e.n4 oO oO d.tk e.tk)|(rw[h5];exact bGF d.n5 e.n5 oO oO d.sp e.sp)|skip)
 all_goals(refine cB rfl ⟨_,rfl,bG ?_⟩;rw[eE];simp_all)
def zSc:List AVal:=[aD (aE aH 0),aD (aE aI 0),aD (aP aC 0 0),aD (aP aC 0 0),aD (aP aC 0 0),aD (aP aC 0 0),aD (aP aC 0 0)]
def aSQ{x:Int}:VLe (.tup [.agg zSc,x]) (.tup [.agg zSt.cells,x]):=
 FC (.cons (BH (.cons (bL _) (.cons (bL _) (.cons zW (.cons zW (.cons zW (.cons zW (.cons zW .nil)))))))) (.cons (bL _) .nil))
def aKF(s:St)(d:DE):sQ (yG s d)=mkT s d:=PZ
def NP(k:Nat):Kp [0,1,2,3,4,5,6,8,10,11,12,15,30,31,32,33,47,73,74,75,76,102,128] (λ i=>i-k):=oR
def WI(s:St)(d:DE)(hrt:dR s=[])(hp:PreW s)(hr:DSm d)(hd:d.size<=500)(h2:s.nt+d.n4<=200)(z:Bool)(ez:z= !(CA s d))(k:Nat)(Q:AQ)
 (hrest:AM.W aG Γ 131 k (gV (gD Tryz.f22) [1,1,0,1,1,1,1,1,1,1,1,1,1]) Q (k+3+(20+s.ns)+1) [(128,z),(4,.ptr (k+2) 0 0),(5,(0:Int)),(6,.ptr (k+3) 0 0)] ((k+3,⟨7,aF,[HS k s.nk (yG s d)]⟩)::(k+2,⟨7,aB,[[(0:Int),aD (aE aI 0),(),(),(),(),()]]⟩)::AH k s.nk (yG s d))):
 AM.W aG Γ 131 k (gV (gD Tryz.f22) [0,1,1,1,1,1,1,1,1,1,1]) Q (k+3+(20+s.ns)+1) [(2,.rp s.cells),(3,.rp d.cells),(4,.ptr (k+2) 0 0),(5,(0:Int)),(6,.ptr (k+3) 0 0)] ((k+3,⟨7,aF,[HS k s.nk (yG s d)]⟩)::(k+2,⟨7,aB,[[(0:Int),aD (aE aI 0),(),(),(),(),()]]⟩)::AH k s.nk (yG s d)):=by
 obtain⟨hrc,_⟩:=xT hrt;have hpB:=aNR hp hr h2;have hown:=(aBU (b:=k) (n:=s.nk) (t:=yG s d) rfl hrc.1 (λ g hg=>hrc.2 g hg)).two (i:=k+3) (j:=k+2) (A:=⟨7,aF,[HS k s.nk (yG s d)]⟩) (B:=⟨7,aB,[[(0:Int),aD (aE aI 0),(),(),(),(),()]]⟩) oO oO;obtain⟨t,et⟩:=xE (yG s d);obtain⟨X,eX⟩:=xE (qP (btw s t));obtain⟨E,eE⟩:=xE (yF s t);have hX:X.size<=20000:=by rw[eX,et];exact aZL hp.pre hpB.pre hp.sm.nk
 have hz:z= !(decide (E=0)&&eqD X d):=by rw[ez,CA,eX,eE,et]
 rw[<-et]at hown hpB hrest⊢
 obtain⟨kx,ekx⟩:=xE (k+3+(20+s.ns)+1);rw[<-ekx]at hrest⊢
 refine bDI 2 ⟨rfl,rfl,trivial⟩ (Z:=Unit) (λ _=>True) 6 (k+3) t.cells (λ φ=>[(2,.rp s.cells),(3,.rp d.cells),(4,.lit (φ 4)),(5,(0:Int)),(6,.lit (φ 6))]) (λ _=>[(128,z),(4,.ptr (k+2) 0 0),(5,(0:Int)),(6,.ptr (k+3) 0 0)]) (λ _ φ=>[(128,z),(4,.lit (φ 4)),(5,(0:Int)),(6,.lit (φ 6))]) rfl ?_ ?_ ?_ ?_ ?_ ?_;.simp only[AM.look];rfl
 .exact a3F hown (by simp only[AM.look];rfl)
 .intro φ t' v' h;simp only[AM.look]at h;repeat' split at h
  .rename_i e;subst e;cases h;exact .inl ⟨_,rfl,zX rfl⟩
  .rename_i e;subst e;cases h;exact .inl ⟨_,rfl,zX rfl⟩
  .rename_i e;subst e;cases h;exact .inr rfl
  .rename_i e;subst e;cases h;exact .inl ⟨_,rfl,zX rfl⟩
  .rename_i e;subst e;cases h;exact .inr rfl
  cases h
 .intro z' φ t' v' h;simp only[AM.look]at h;repeat' split at h
  .rename_i e;subst e;cases h;exact⟨_,rfl,.inl ⟨rfl,rfl⟩⟩
  .rename_i e;subst e;cases h;exact⟨_,rfl,.inr ⟨rfl,rfl⟩⟩
  .rename_i e;subst e;cases h;exact⟨_,rfl,.inl ⟨rfl,rfl⟩⟩
  .rename_i e;subst e;cases h;exact⟨_,rfl,.inr ⟨rfl,rfl⟩⟩
  cases h
 .intro φ B x hφ;have hbt:=WE (Γ:=(B,t.cells++bI x .junk)::Γ) s t hp.pre hpB.pre hp.k hpB.k;have hsm:=bAC (Γ:=(B,t.cells++bI x .junk)::Γ) X d oO oO;rw[<-eX,<-eE]at hbt;obtain⟨y,ey⟩:=xE (eqD X d);rw[<-ey]at hsm hz;simp only[hφ];refine bJB ?_;have kp:=NP k;refine xJ [.raw (aA 117) ⟨.agg t.cells,kx,[],[]⟩,.ret (.tup [.agg X.cells,E])] ?_;refine kS (zs ?_) (zs ?_) (zs ?_);.exact aHI rfl rfl (by simp only[AM.look];rfl) rfl
  all_goals(try exact hbt)
  refine bJB ?_;by_cases h0:E=0
  .have hz':z= !y:=by rw[hz,decide_eq_true h0,lZ]
   subst h0;refine xJ [.ret y] ?_;refine kS (gZ λ hg=>?_) (gZ λ hg=>?_) (gZ λ hg=>?_);all_goals(try exact hsm)
   all_goals(try exact absurd trivial ‹¬True›)
   refine bJC ⟨(),kx+1,?_⟩;rw[hz'];exact iC
  have hz':z=aB:=by rw[hz,decide_eq_false h0,MM];rfl
  have uU:=h0;refine xJ [] ?_;refine kB (gZ λ hg=>bJC ⟨(),kx+1,?_⟩);rw[hz'];exact iC
 intro _ _;exact hrest
def Bor.le{v u v':AVal}(h:Bor Γ Hc v u)(hl:VLe u v'):Bor Γ Hc v v':=λ w G ρ H A cv hr hh hv=>hl _ _ _ _ _ (h w G ρ H A cv hr hh hv)
def bCX{x:Value}:Bor Γ Hc (.tup [.agg zSc,.lit x]) (.tup [.agg zSc,.lit x]):=Bor.tup rfl λ j v v' h1 h2=>by
 rw[h1]at h2;cases h2
 match j with
 |0=>cases h1;exact Bor.agg rfl (nB rfl)
 |1=>cases h1;exact Bor.lit
 |j+2=>simp at h1
def aRP(s:St)(d:DE)(hrt:dR s=[])(hp:PreW s)(hr:DSm d)(hd:d.size<=500)(h2:s.nt+d.n4<=200)(hright:AM.Pure aG Γ 24 [.agg s.cells] aB)(hok:CA s d=aB)(k:Nat):
 AM.Tr aG Γ 22 k [.agg s.cells,.agg d.cells] [] (λ k1 r1 H1=>k1=k+(24+s.ns)/\r1= .tup [.agg (HS k s.nk (yG s d)),(0:Int)]/\H1=AH k s.nk (yG s d)):=by
 obtain⟨hrc,q1,q2,q3,q4,q5⟩:=xT hrt;have hnt:=hp.nt;obtain⟨RH,eRH⟩:=xE (AH k s.nk (yG s d):aS);obtain⟨RV,eRV⟩:=xE (.tup [.agg (HS k s.nk (yG s d)),.lit (.int .i64 0)]:AVal);refine Tr.mono (mO (kk:=k+(24+s.ns)) (V:=RV) (RH:=RH) oO ?_ ?_ ?_) (λ _ _ _ h=>⟨h.1,h.2.1.trans eRV,h.2.2.trans eRH⟩);.rw[eRV];unfold HS;simp-dsimp-implicitDefEqProofs (disch:=omega)only[go_sem,iO,TC,ltB_iff,aQ,↓reduceIte];try(simp only[aO,dTt];omega)
 .have hf:=BD (s:=3) (R:=λ g=>qX s.nk ((yG s d).sp g)) (show k+21+(yG s d).ns<=k+(24+s.ns)by show k+21+s.ns<=_;omega);have ho:((uD (k+21) (yG s d).ns s.nk (yG s d).ns).all λ row=>row.all (iL (kC (k+(24+s.ns)))))=aB:=IX (by show k+21+s.ns<=_;omega);rw[eRH];unfold AH;simp only[oU]at hf;simp only[oU,gI,hf,ho,kC,BO,BP,iE,aO,dTt];repeat'(first|(refine And.intro ?_ ?_)|omega|trivial)
 obtain⟨POST,ePOST⟩:∃P:Nat->AVal->aS->Prop,P=λ _ r1 H1=>r1=RV/\IA H1 RH:=⟨_,rfl⟩;rw[<-ePOST];refine WH s s.nk d oO q1 oO rfl hrc.1 (λ g hg=>hrc.2 g hg) q3 oO oO oO oO hright k _ ?_;suffices h:AM.W aG Γ 131 k (gV (gD Tryz.f22) [1,1,1,1,1,1,1,1,1,1]) (AG aG Tryz.f22 POST) (k+3+(20+s.ns)+1) [(2,.rp s.cells),(3,.rp d.cells),(4,.ptr (k+2) 0 0),(5,(0:Int)),(6,.ptr (k+3) 0 0)] ((k+3,⟨7,aF,[HS k s.nk (yG s d)]⟩)::(k+2,⟨7,aB,[[(0:Int),aD (aE aI 0),(),(),(),(),()]]⟩)::AH k s.nk (yG s d))by have e:=aKF s d;unfold AH at h;rw[e]at h;exact h
 refine iG rfl (WI s d hrt hp hr hd h2 aF (by rw[hok];rfl) k _ ?_);obtain⟨OC,eOC⟩:=xE (HS k s.nk (yG s d));obtain⟨OH',eOH⟩:=xE (AH k s.nk (yG s d));rw[<-eOC,<-eOH];have hOl:OC.length=7:=by rw[eOC];rfl
 have hO1:OC.all AM.one=aB:=by rw[eOC];rfl
 have hOc:OC.all clean=aF:=by rw[eOC];rfl
 have hOt:OC.take 7=OC:=by rw[eOC];rfl
 have kp:=NP k;have uU:=pJ hOl hO1 hOc hOt;refine gJ λ ht=>?_;refine cB rfl (cZ ?_);refine⟨_,rfl,?_⟩;rw[ePOST];refine⟨?_,?_⟩;.rw[eRV,eOC]
 rw[eRH,eOH];unfold AH;exact SX iV
def a0B(s:St)(d:DE)(hrt:dR s=[])(hp:PreW s)(hr:DSm d)(hd:d.size<=500)(h2:s.nt+d.n4<=200)(hright:AM.Pure aG Γ 24 [.agg s.cells] aB)(hok:CA s d=aB):
 AM.Pure aG Γ 22 [.agg s.cells,.agg d.cells] (.tup [.agg (yG s d).cells,(0:Int)]):=by
 obtain⟨hrc,_⟩:=xT hrt;refine tX λ k=>(aRP s d hrt hp hr hd h2 hright hok k).mono ?_;rintro k1 r1 H1 ⟨_,rfl,rfl⟩;refine Bor.tup rfl λ j v v' h1 h2=>?_
 match j with
 |0=>cases h1;cases h2;exact a3G (aBU rfl hrc.1 (λ g hg=>hrc.2 g hg))
 |1=>cases h1;cases h2;exact Bor.lit
 |j+2=>simp at h1
def a0C(s:St)(d:DE)(hrt:dR s=[])(hp:PreW s)(hr:DSm d)(hd:d.size<=500)(h2:s.nt+d.n4<=200)(hright:AM.Pure aG Γ 24 [.agg s.cells] aB)(hno:CA s d=aF)(k:Nat):
 AM.Tr aG Γ 22 k [.agg s.cells,.agg d.cells] [] (λ _ r1 H1=>Bor Γ H1 r1 (.tup [.agg zSt.cells,(352:Int)])):=by
 obtain⟨hrc,q1,q2,q3,q4,q5⟩:=xT hrt;have hnt:=hp.nt;obtain⟨POST,ePOST⟩:∃P:Nat->AVal->aS->Prop,P=λ _ r1 H1=>Bor Γ H1 r1 (.tup [.agg zSt.cells,.lit (.int .i64 352)]):=⟨_,rfl⟩;rw[<-ePOST];refine WH s s.nk d oO q1 oO rfl hrc.1 (λ g hg=>hrc.2 g hg) q3 oO oO oO oO hright k _ ?_;suffices h:AM.W aG Γ 131 k (gV (gD Tryz.f22) [1,1,1,1,1,1,1,1,1,1]) (AG aG Tryz.f22 POST) (k+3+(20+s.ns)+1) [(2,.rp s.cells),(3,.rp d.cells),(4,.ptr (k+2) 0 0),(5,(0:Int)),(6,.ptr (k+3) 0 0)] ((k+3,⟨7,aF,[HS k s.nk (yG s d)]⟩)::(k+2,⟨7,aB,[[(0:Int),aD (aE aI 0),(),(),(),(),()]]⟩)::AH k s.nk (yG s d))by have e:=aKF s d;unfold AH at h;rw[e]at h;exact h
 refine iG rfl (WI s d hrt hp hr hd h2 aB (by rw[hno];rfl) k _ ?_);obtain⟨OC,eOC⟩:=xE (HS k s.nk (yG s d));obtain⟨OH',eOH⟩:=xE (AH k s.nk (yG s d));rw[<-eOC,<-eOH];have hOl:OC.length=7:=by rw[eOC];rfl
 have hO1:OC.all AM.one=aB:=by rw[eOC];rfl
 have hOc:OC.all clean=aF:=by rw[eOC];rfl
 have hOt:OC.take 7=OC:=by rw[eOC];rfl
 have kp:=NP k;have uU:=pJ hOl hO1 hOc hOt;refine gJ λ ht=>?_;refine cB rfl (cZ ?_);refine⟨_,rfl,?_⟩;rw[ePOST];exact Bor.le bCX aSQ
def aRQ(s:St)(d:DE)(hright:AM.Pure aG Γ 24 [.agg s.cells] aF):
 AM.Pure aG Γ 22 [.agg s.cells,.agg d.cells] (.tup [.agg zSt.cells,(350:Int)]):=by
 refine SM ?_ aSQ;refine cA Tryz.func22 rfl 131 rfl bB rfl λ k=>?_;have kp:=NP k;refine gO ?_;refine xJ [.ret aF] ?_;refine iA ?_ ?_;all_goals(try exact hright)
 refine gJ λ ht=>?_;refine kX ?_;exact bL _
def a6W(s:St)(hn:Nrm s)(hp:PreW s)(hright:AM.Pure aG Γ 24 [.agg s.cells] (aD (bC (dR s).isEmpty)))(d:DE)(hr:DSm d)(hd:d.size<=500)(h2:s.nt+d.n4<=200):
 AM.Pure aG Γ 22 [.agg s.cells,.agg d.cells] (.tup [.agg (MY s d).cells,(SD s d)]):=by
 by_cases hrt:dR s=[]
 .rw[emp_iff.2 hrt]at hright
  cases hok:CA s d with
  |true=>obtain⟨e1,e2⟩:=aEO hrt (apOkB_iff.1 hok);rw[e1,e2];exact a0B s d hrt hp hr hd h2 hright hok
  |false=>obtain⟨e1,e2⟩:=aNQ hrt (λ h=>by have:=apOkB_iff.2 h;rw[hok]at this;cases this);rw[e1,e2];exact tX λ k=>a0C s d hrt hp hr hd h2 hright hok k
 obtain⟨e1,e2⟩:=a0E (d:=d) hrt;rw[e1,e2];have e3:(dR s).isEmpty=aF:=by rw[dY];exact λ h=>hrt (emp_iff.1 h)
 rw[e3]at hright;exact aRQ s d hright
def apC{α:Type}{a:α}{l m:List α}:List.append (a::l) m=a::List.append l m:=rfl
def apE{α:Type}{m:List α}:List.append [] m=m:=rfl
section
variable{P:Program}{nt kb:Nat}{Q:AQ}{k:Nat}{fr:Fr}{H:aS}{c:Code}{p:List Nat}
def a0U{id:Nat}{l l':List Oper}(hc:gV c p= .region id l.toArray aF)(hl:l=l')(keep:List Nat)(cs:List Orc)(hd:nL nt l'.toArray=aB)
 (h:∀K:List Foot->Nat->Fr->aS->Prop,(∀tr k' fr' H',(kb<=k'->Q .normal k' (lM keep fr') H')->K tr k' fr' H')->GU P Γ l'.toArray l' cs k fr H K .mk):AM.W P Γ nt kb (gV c p) Q k fr H:=by subst hl;exact MK hc keep cs hd h
end
def ckB(s:St)(i:Nat):Bool:=decide (s.clk i<0\/281474976710656<s.clk i)
def bIS(t:Int):AM.Pure aG Γ 132 [t] (decide (t<0\/281474976710656<t)):=by
 refine cA Tryz.func132 rfl 9 rfl bB rfl λ k=>?_;have kp:=kN k [0,2];refine wl ?_;refine WS (gZ λ hg=>?_) (gZ λ hg=>?_);all_goals(refine cB rfl ⟨_,rfl,bG ?_⟩)
 all_goals(simp only[aD.injEq,bC.injEq];exact bQ)
def bIT(s:St)(n:Nat)(hn:n<=1000):AM.Pure aG Γ 210 [.rd 1 n (kf s),.fn 132 []] (idx (ckB s) n):=by
 refine cA Tryz.func210 rfl 19 rfl bB rfl λ k=>?_;have kp:=kN k [0,1,4,5,7,8,9,16];refine jI ?_;refine cD (X:=Nat) rfl [0,1,4,5,7,8,9,16] k (λ i=>[(8,i)]) (λ i=>[]) (λ i=>i<=n/\∀j,j<i->ckB s j=aF) (λ i=>n-i) 0 ?_ ⟨bF _,λ j hj=>absurd hj (bU _)⟩ ?_;.refine gG ?_;exact sB
 rintro i ⟨hi,hall⟩;refine gG ?_;refine wl ?_;refine pN (λ ht=>?_) λ ht=>?_
 .refine cl [.ret (ckB s i)] ?_;refine iA ?_ ?_;.exact bIS (s.clk i)
  refine wl ?_;refine pN (λ ht=>?_) λ ht=>?_;.refine cB rfl ⟨_,rfl,bG ?_⟩;rw[idx,AT hall ht oO]
  refine⟨i+1,⟨oO,λ j hj=>?_⟩,oO,?_⟩
  .by_cases he:j=i;.subst he;exact ht
   exact hall j oO
  refine gG ?_;exact sB
 refine cB rfl ⟨_,rfl,bG ?_⟩;rw[idx,xZ (λ j hj=>hall j oO)]
def bIU(s:St)(n:Nat)(hn:n<=1000):AM.Pure aG Γ 131 [.rd 1 n (kf s),.fn 132 []] (nI (ckB s) n):=by
 refine cA Tryz.func131 rfl 9 rfl bB rfl λ k=>?_;have kp:=kN k [0,1,4];refine jI ?_;refine cl [.ret (idx (ckB s) n)] ?_;refine iA ?_ ?_;.exact bIT s n hn
 refine cB rfl ⟨_,rfl,bG ?_⟩;rw[OA]
def XS(s:St)(n:Nat)(t:Tk):Bool:=decide (1<=t.id/\t.id<=65535/\0<=t.group/\t.group<s.ns/\0<=t.cpu/\t.cpu<n/\(1<=t.weight/\t.weight<=65536)/\t.mask/2^n=0/\t.mask/2^t.cpu.toNat%2=1/\qI t.v t.r t.weight=aB)
def aPM(s:St)(t:Tk)(n:Nat)(h1:1<=n)(h2:n<=64)(hc:s.cpus=n)(hm0:0<=t.mask)(hm1:t.mask<18446744073709551616)(hns:s.ns<=1000):
 AM.Pure aG Γ 135 [.agg s.cells,.agg (tkc t)] (XS s n t):=by
 obtain⟨T,eT⟩:=xE (tkc t);obtain⟨RV,eRV⟩:=xE (aD (.bool (XS s n t)));rw[<-eRV];refine cA Tryz.func135 rfl 72 rfl bB (by rw[eRV];rfl) λ k=>?_;by_cases hcp:0<=t.cpu/\t.cpu<n
 .have hneg:(t.cpu<0)=False:=eq_false oO;have hmb:=rA (x:=t.mask) (c:=t.cpu) hm0 hm1 hcp.1 oO;have hw:=xU t.weight (Γ:=Γ);have hwd:=aLE t.mask n h1 h2 hm0 hm1 (Γ:=Γ);have kp:=kN k [0,1,2,3,4];have uU:=rY hc @tkc.eq_1 @apC @apE hneg hmb;refine jI ?_;refine a0U (l':=?l) rfl ?hl [0,1,2,3,4] [.ret (decide (1<=t.weight/\t.weight<=65536)),.ret (decide (t.mask/2^n≠0)),.ret (enc t.v t.r t.weight),.ret (qI t.v t.r t.weight)] ?hd (λ K hK=>?h);case hl=>simp only[apC,apE];(try rfl)
  case hd=>rfl
  refine gG ?_;((repeat'(first|(refine And.intro ?_ ?_)|(refine lR (λ hb=>?_) (λ hb=>?_)<;>(have hg:=hb;(try simp only[nfb]at hg);simp-dsimp-implicitDefEqProofs only[go_sem,hc,tkc,apC,apE,hneg,hmb,hb,hg,↓reduceIte];clear hb;(try simp only[nfe]at hg))))));all_goals(try(first|exact hw|exact hwd))
  all_goals(try(exact qZ _ _ _ oO oO))
  all_goals(try(exact lW _ _ _ oO oO))
  any_goals (refine hK _ _ _ _ (λ hx=>?_))
  all_goals(try(clear hx hK))
  all_goals(try(simp-dsimp-implicitDefEqProofs only[go_sem,hc,tkc,apC,apE,hneg,hmb,↓reduceIte]))
  all_goals(refine cB rfl ⟨_,rfl,?_⟩)
  all_goals(rw[eRV];refine bG ?_;simp only[XS])
  all_goals(first
   |(rw[decide_eq_false (λ h=>by obtain⟨a1,a2,a3,a4,a5,a6,a7,a8,a9,a10⟩:=h;first|omega|exact hg a8|exact hg a7|exact hg a9)])
   |(congr 2;rw[eY,dTt];exact⟨λ h=>⟨by assumption,by assumption,by assumption,by assumption,by assumption,by assumption,by assumption,Classical.byContradiction (by assumption),by assumption,h⟩,λ h=>h.2.2.2.2.2.2.2.2.2⟩))
 skip
 have hw:=xU t.weight (Γ:=Γ);have hwd:=aLE t.mask n h1 h2 hm0 hm1 (Γ:=Γ);have kp:=kN k [0,1,2,3,4];have uU:=GX hc @tkc.eq_1 @apC @apE @aJ;refine jI ?_;refine a0U (l':=?l) rfl ?hl [0,1,2,3,4] [.ret (decide (1<=t.weight/\t.weight<=65536)),.ret (decide (t.mask/2^n≠0)),.ret (enc t.v t.r t.weight),.ret (qI t.v t.r t.weight)] ?hd (λ K hK=>?h);case hl=>simp only[apC,apE];(try rfl)
 case hd=>rfl
 refine gG ?_;((repeat'(first|(refine And.intro ?_ ?_)|(refine lR (λ hb=>?_) (λ hb=>?_)<;>(have hg:=hb;(try simp only[nfb]at hg);simp-dsimp-implicitDefEqProofs only[go_sem,hc,tkc,apC,apE,aJ,hb,hg,↓reduceIte];clear hb;(try simp only[nfe]at hg))))));all_goals(try(exfalso;omega))
 all_goals(try(first|exact hw|exact hwd))
 all_goals(try(exact qZ _ _ _ oO oO))
 all_goals(try(exact lW _ _ _ oO oO))
 any_goals (refine hK _ _ _ _ (λ hx=>?_))
 all_goals(try(clear hx hK))
 all_goals(try(simp-dsimp-implicitDefEqProofs only[go_sem,hc,tkc,apC,apE,aJ,↓reduceIte]))
 all_goals(refine cB rfl ⟨_,rfl,?_⟩)
 all_goals(rw[eRV];refine bG ?_;simp only[XS])
 all_goals(first
  |(rw[decide_eq_false (λ h=>by obtain⟨a1,a2,a3,a4,a5,a6,a7,a8,a9,a10⟩:=h;first|omega|exact hg a8|exact hg a7|exact hg a9)])
  |(congr 2;rw[eY,dTt];exact⟨λ h=>⟨by assumption,by assumption,by assumption,by assumption,by assumption,by assumption,by assumption,Classical.byContradiction (by assumption),by assumption,h⟩,λ h=>h.2.2.2.2.2.2.2.2.2⟩))
def SpP(s:St)(n g c:Nat):Prop:=qI (s.sp g c).v (s.sp g c).r (s.wt g)=aB/\(g=0->(s.sp g c).v=0/\(s.sp g c).r=0)
structure ShP (s:St) (n:Nat):Prop where
 nk:s.nk=n
 nu:s.nu=n
 ns:s.ns=s.ng
 ck:∀i,i<s.nk->ckB s i=aF
 sp:∀g,g<s.ns->s.nsp g=n/\∀c,c<n->SpP s n g c
 tk:∀i,i<s.nt->(0<i->(s.tsk (i-1)).id<(s.tsk i).id)/\XS s n (s.tsk i)=aB
def aEP{p:Nat->Bool}:∀ {n:Nat},nI p n=aF->∀i,i<n->p i=aF
 |0,_,i,hi=>absurd hi (bU _)
 |n+1,h,i,hi=>by
  rw[nI,gA]at h;rcases jU.1 hi with h'|rfl;.exact aEP h.1 i h'
  exact h.2
def a3Y(s:St)(hs:s.Small)(hk:Kinds s)(n:Nat)(h1:1<=n)(h2:n<=64)(hc:s.cpus=n)(hm:nU s=aB)(hwt:∀g,g<s.ng->1<=s.wt g/\s.wt g<=65536)(b:Bool)(hb:b=aB↔ShP s n):
 AM.Pure aG Γ 75 [.agg s.cells] b:=by
 obtain⟨hng,hnk,hnu,hnt,hns,hnsp⟩:=id hs
 have hno:¬ShP s n->b=aF:=λ h=>by
  cases hb':b with
  |false=>rfl
  |true=>exact absurd (hb.1 hb') h
 have hrc:=xS (OJ Γ) s;rw[hm]at hrc;have hca:=bIU s s.nk hnk (Γ:=Γ);refine cA Tryz.func75 rfl 123 rfl bB rfl λ k=>?_;have kp:=kN k [0,1,2,3,4,6,7,8,40,43,45,46,47,48,57,58,59,60,61,91,95,96,97,98,121];refine jI ?_;refine cl [.ret aB] ?_;refine FN (zs ?_) (yB λ hg hg=>?_) (yB λ hg hg=>?_) (gZ λ hg=>?_);all_goals(try exact hrc)
 .refine wl ?_;refine pN (λ ht=>?_) λ ht=>?_
  .have hbf:=hno λ h=>by have:=h.ns;omega
   subst hbf;refine cB rfl ⟨_,rfl,bL _⟩
  refine clA [.ret (nI (ckB s) s.nk)] ?_;all_goals(try exact hca)
  have hnn:s.nk=n:=oO;have hsg:s.ns=s.ng:=oO
  cases hck:nI (ckB s) s.nk with
  |true=>
   have hbf:=hno λ h=>by have:=BG h.ck;rw[hck]at this;cases this
   subst hbf;have uU:=hck;refine sP λ ht=>?_;refine cB rfl ⟨_,rfl,bL _⟩
  |false=>
   have uU:=hck;refine sP λ ht=>?_;refine cD (X:=Nat) rfl [0,1,2,3,4,6,7,8,40,43,45,46,47,48,57,58,59,60,61,91,95,96,97,98,121] (k+1) (λ g=>[(47,g)]) (λ g=>[(k,⟨7,aB,[s.cells]⟩)]) (λ g=>g<=s.ns/\∀g',g'<g->s.nsp g'=n/\∀c,c<n->SpP s n g' c) (λ g=>s.ns-g) 0 ?_ ⟨bF _,λ g' h=>absurd h (bU _)⟩ ?_;.have uU:=Go.AM.uU;refine gG ?_;exact sB
   rintro g ⟨hg1,hall⟩;have uU:=Go.AM.uU;refine gG ?_;by_cases hgn:g<s.ns
   .have hw:=hwt g oO;have hsp:=hnsp g hgn;refine wl ?_;refine WS (gB λ ht ht=>?_) (gB λ ht ht=>?_);.have hbf:=hno λ h=>ht (by rw[(h.sp g hgn).1,hc]);subst hbf;refine cB rfl ⟨_,rfl,bL _⟩
    have hpn:s.nsp g=n:=oO;refine cD (X:=Nat) rfl [0,1,2,3,4,6,7,8,40,43,45,46,47,48,57,58,59,60,61,91,95,96,97,98,121] (k+1) (λ c=>[(60,c)]) (λ c=>[(k,⟨7,aB,[s.cells]⟩)]) (λ c=>c<=s.nsp g/\∀c',c'<c->SpP s n g c') (λ c=>s.nsp g-c) 0 ?_ ⟨bF _,λ c' h=>absurd h (bU _)⟩ ?_;.refine gG ?_;exact sB
    rintro c ⟨hc1,hal⟩;refine gG ?_;by_cases hcn:c<s.nsp g
    .have he:=qZ (s.sp g c).v (s.sp g c).r (s.wt g) oO oO (Γ:=Γ);have hch:=lW (s.sp g c).v (s.sp g c).r (s.wt g) oO oO (Γ:=Γ);have hwr:aT.wrap (s.wt g)=s.wt g:=wrap_u32 oO oO;have uU:=hwr;refine sP λ ht=>?_;refine dl [.ret (enc (s.sp g c).v (s.sp g c).r (s.wt g)),.ret (qI (s.sp g c).v (s.sp g c).r (s.wt g))] ?_;refine FN (MO λ hg hg hg=>?_) (MO λ hg hg hg=>?_) (yB λ hg hg=>?_) (gZ λ hg=>?_);all_goals(try(first|exact he|exact hch))
     .refine wl ?_;refine pN (λ ht=>?_) λ ht=>?_
      .have hbf:=hno λ h=>by have:=((h.sp g hgn).2 c oO).2 oO;omega
       subst hbf;refine cB rfl ⟨_,rfl,bL _⟩
      refine⟨c+1,⟨oO,λ c' hc'=>?_⟩,oO,?_⟩
      .rcases jU.1 hc' with h|rfl;.exact hal c' h
       exact⟨by assumption,λ _=>⟨oO,oO⟩⟩
      refine gG ?_;(have uU:=hwr;exact pK)
     .have hbf:=hno λ h=>by have:=((h.sp g hgn).2 c oO).2 oO;omega
      subst hbf;refine sP λ ht=>?_;refine cB rfl ⟨_,rfl,bL _⟩
     .refine sP λ ht=>?_;refine⟨c+1,⟨oO,λ c' hc'=>?_⟩,oO,?_⟩
      .rcases jU.1 hc' with h|rfl;.exact hal c' h
       exact⟨by assumption,λ h=>absurd h oO⟩
      refine gG ?_;(have uU:=hwr;exact pK)
     have hbf:=hno λ h=>by have:=((h.sp g hgn).2 c oO).1;rw[hg]at this;cases this
     subst hbf;refine sP λ ht=>?_;refine cB rfl ⟨_,rfl,bL _⟩
    have hcn:c=s.nsp g:=oO;subst hcn;refine sP λ ht=>?_;refine⟨g+1,⟨oO,λ g' hg'=>?_⟩,oO,?_⟩
    .rcases jU.1 hg' with h|rfl;.exact hall g' h
     exact⟨hpn,λ c hc=>hal c oO⟩
    refine gG ?_;exact sB
   have hgn:g=s.ns:=oO;subst hgn;refine sP λ ht=>?_;refine cD (X:=Nat) rfl [0,1,2,3,4,6,7,8,40,43,45,46,47,48,57,58,59,60,61,91,95,96,97,98,121] (k+1) (λ i=>[(97,i)]) (λ i=>[(k,⟨7,aB,[s.cells]⟩)]) (λ i=>i<=s.nt/\∀j,j<i->(0<j->(s.tsk (j-1)).id<(s.tsk j).id)/\XS s n (s.tsk j)=aB) (λ i=>s.nt-i) 0 ?_ ⟨bF _,λ j h=>absurd h (bU _)⟩ ?_;.refine gG ?_;exact sB
   rintro i ⟨hi1,hti⟩;refine gG ?_;by_cases hin:i<s.nt
   .have hrt:=aPM s (s.tsk i) n h1 h2 hc (hk.wf.mask0 i) (hk.wf.mask1 i) hns (Γ:=Γ);simp only[tkc]at hrt;refine sP λ ht=>?_
    cases hok:XS s n (s.tsk i)with
    |false=>
     have hbf:=hno λ h=>by have:=(h.tk i hin).2;rw[hok]at this;cases this
     subst hbf;rw[hok]at hrt;rcases i with _|j
     .skip
      refine dl [.ret aF] ?_;refine iA ?_ ?_;all_goals(try exact hrt)
      refine sP λ ht=>?_;refine cB rfl ⟨_,rfl,bL _⟩
     have hj1:aH.wrap ((j:Int)+1-1)=(j:Int):=by rw[(oO:(j:Int)+1-1=j)];exact wrap_i64 oO oO
     have hj2:(0:Int)<(j:Int)+1:=oO;have hj3:j<s.nt:=oO;have uU:=uT hj1 hj2 hj3;refine dl [.ret aF] ?_;refine kS (gZ λ hg=>?_) (gZ λ hg=>?_) (gZ λ hg=>?_);all_goals(try exact hrt)
     .refine sP λ ht=>?_;refine cB rfl ⟨_,rfl,bL _⟩
     refine sP λ ht=>?_;refine cB rfl ⟨_,rfl,bL _⟩
    |true=>
     rw[hok]at hrt;rcases i with _|j
     .skip
      refine dl [.ret aB] ?_;refine iA ?_ ?_;all_goals(try exact hrt)
      refine sP λ ht=>?_;refine⟨0+1,⟨oO,λ j' hj'=>?_⟩,oO,?_⟩;.obtain rfl:j'=0:=oO;exact⟨λ h=>absurd h (oX _),hok⟩
      refine gG ?_;exact sB
     have hj1:aH.wrap ((j:Int)+1-1)=(j:Int):=by rw[(oO:(j:Int)+1-1=j)];exact wrap_i64 oO oO
     have hj2:(0:Int)<(j:Int)+1:=oO;have hj3:j<s.nt:=oO;have uU:=uT hj1 hj2 hj3;refine dl [.ret aB] ?_;refine kS (gZ λ hg=>?_) (gZ λ hg=>?_) (gZ λ hg=>?_);all_goals(try exact hrt)
     .refine sP λ ht=>?_;refine⟨j+1+1,⟨oO,λ j' hj'=>?_⟩,oO,?_⟩
      .rcases jU.1 hj' with h|rfl;.exact hti j' h
       refine⟨λ _=>?_,hok⟩;rw[a7O];omega
      refine gG ?_;(have uU:=uT hj1 hj2 hj3;exact pK)
     have hbf:=hno λ h=>by have:=(h.tk (j+1) hin).1 oO;rw[a7O]at this;omega
     subst hbf;refine sP λ ht=>?_;refine cB rfl ⟨_,rfl,bL _⟩
   have hin:i=s.nt:=oO;subst hin;have hbt:b=aB:=hb.2 ⟨hnn,oO,hsg,aEP hck,λ g hg=>⟨(hall g hg).1,(hall g hg).2⟩,λ i hi=>hti i hi⟩;subst hbt;refine sP λ ht=>?_;refine cB rfl ⟨_,rfl,bL _⟩
 .have hbf:=hno λ h=>hg (by rw[h.nu,hc]);subst hbf;refine sP λ ht=>?_;refine cB rfl ⟨_,rfl,bL _⟩
 have hbf:=hno λ h=>hg (by rw[h.nk,hc]);subst hbf;refine sP λ ht=>?_;refine cB rfl ⟨_,rfl,bL _⟩
end Go.Proofs.T
end
section
namespace Go.Proofs.T
open Go Go.AM Go.Proofs
variable{L:LSt}{n:Nat}{s:St}
attribute [local irreducible] jM del
variable{Γ:dW}
def aVJ(s:St)(hm:nU s=aF):AM.Pure aG Γ 75 [.agg s.cells] aF:=by
 have hrc:=xS (OJ Γ) s;rw[hm]at hrc;refine cA Tryz.func75 rfl 123 rfl bB rfl λ k=>?_;have kp:=kN k [0,1,2,3,4,6,7,8,40,43,45,46,47,48,57,58,59,60,61,91,95,96,97,98,121];refine jI ?_;refine cl [.ret aF] ?_;refine iA ?_ ?_;all_goals(try exact hrc)
 refine sP λ ht=>?_;refine cB rfl ⟨_,rfl,bL _⟩
def aME(k:Nat):Kp [0,1,2,3,4,5,6,7,8,9,10,13,18,19,20,21,52,54,55,56,57,78] (λ i=>i-k):=oR
def aLG(s:St)(hsh:AM.Pure aG Γ 75 [.agg s.cells] aF):AM.Pure aG Γ 24 [.agg s.cells] aF:=by
 refine cA Tryz.func24 rfl 81 rfl bB rfl λ k=>?_;have kp:=aME k;refine jI ?_;refine cl [.ret aF] ?_;refine iA ?_ ?_;all_goals(try exact hsh)
 refine sP λ ht=>?_;refine cB rfl ⟨_,rfl,bL _⟩
def TU(L:LSt)(c:Nat):Prop:=L.cur c=0\/∃j,j<L.tl.length/\(L.tsk j).ready=aB/\(L.tsk j).cpu=c/\(L.tsk j).id=L.cur c
def FlP(L:LSt)(c:Nat):Prop:=∀g,g<L.sl.length->∀x,GY L g c=aA x->x.v<=(L.sp g c).floor
def bAX(L:LSt)(n:Nat)(hs:L.st.Small)(hsh:AM.Pure aG Γ 75 [.agg L.st.cells] aB)(hP:ShP L.st n)(hso:BJ L)(hS:Shp L n)(hns:0<L.sl.length)
 (b:Bool) (hb:b=aB↔∀c,c<n->TU L c/\FlP L c):AM.Pure aG Γ 24 [.agg L.st.cells] b:=by
 have hno:¬(∀c,c<n->TU L c/\FlP L c)->b=aF:=λ h=>by
  cases hb':b with
  |false=>rfl
  |true=>exact absurd (hb.1 hb') h
 obtain⟨hng,hnk,hnu,hnt,hns',hnsp⟩:=id hs;have e1:L.st.nu=n:=hP.nu;have e0:L.st.ns=L.sl.length:=rfl;refine cA Tryz.func24 rfl 81 rfl bB rfl λ k=>?_;have kp:=aME k;refine jI ?_;refine cl [.ret aB] ?_;refine iA ?_ ?_;all_goals(try exact hsh)
 refine sP λ ht=>?_;refine gW (gT (k+1) (by simp-dsimp-implicitDefEqProofs only[go_sem,↓reduceIte];rfl) rfl) ?_;simp-dsimp-implicitDefEqProofs only[qO,jR,go_sem,eq_self,↓reduceIte];refine cD (X:=Nat) rfl [0,1,2,3,4,5,6,7,8,9,10,13,18,19,20,21,52,54,55,56,57,78] (k+2) (λ c=>[(20,c)]) (λ c=>[(k,⟨7,aB,[L.st.cells]⟩)]) (λ c=>c<=L.st.nu/\∀c',c'<c->TU L c'/\FlP L c') (λ c=>L.st.nu-c) 0 ?_ ⟨bF _,λ c' h=>absurd h (bU _)⟩ ?_;.refine gG ?_;exact sB
 rintro c ⟨hc1,hall⟩;refine gG ?_;by_cases hcn:c<L.st.nu
 .obtain⟨r,hr⟩:=aMR L (L.cur c);have hfd:=a8U L (L.cur c) r hr hso hS.nt (Γ:=Γ);refine sP λ ht=>?_;refine cl [.ret r] ?_;refine iA ?_ ?_;all_goals(try exact hfd)
  refine EB (X:=Unit) rfl [0,1,2,3,4,5,6,7,8,9,10,13,18,19,20,21,52,54,55,56,57,78] (k+2) (λ _=>[]) (λ _=>[(k,⟨7,aB,[L.st.cells]⟩)]) (λ _=>TU L c) ?_ ?_
  .by_cases h0:L.cur c=0
   .have hcp:TU L c:=dE h0;clear hfd hr hall;have h0':L.st.cur c=0:=h0;have uU:=zA h0' h0;refine wl ?_;refine zq7 (yB λ hg hg=>?_) (MO λ hg hg hg=>?_) (a9H λ ht hg hg hg=>?_) (a9H λ ht hg hg hg=>?_) (a9H λ ht hg hg hg=>?_) (bKO λ ht hg hg=>?_) (HA λ ht hg=>?_);all_goals(try exact absurd trivial ‹¬True›)
    all_goals(refine⟨(),hcp,?_⟩;(have uU:=zA h0' h0;exact pK))
   have h0':¬L.st.cur c=0:=h0;rcases hr with⟨rfl,hnone⟩|⟨i,hi,rfl,hid⟩
   .have hncp:¬TU L c:=λ h=>by
     rcases h with h|⟨j,hj,_,_,h⟩;.exact absurd h h0
     exact absurd h (hnone j hj)
    have hbf:=hno λ h=>hncp (h c oO).1;subst hbf;clear hfd hall;have uU:=zA h0' h0;refine wl ?_;refine kB (HA λ ht hg=>?_);all_goals(try exact absurd trivial ‹¬True›)
    all_goals(refine cB rfl ⟨_,rfl,bL _⟩)
   have hi':i<L.st.nt:=hi
   have hcb':TU L c->(L.tsk i).ready=aB/\(L.tsk i).cpu=c:=λ h=>by
    rcases h with h1|⟨j,hj,h2,h3,h4⟩;.exact absurd h1 h0
    have:j=i:=by
     rcases kR j i with e|e|e;.have:=hso j i e hi;omega
     .exact e
     have:=hso i j e hj;omega
    subst this;exact⟨h2,h3⟩
   have e8:(i:Int).toNat=i:=bW i;have e9:((i:Int)<0)=False:=eq_false oO
   cases hrd:(L.tsk i).ready with
   |false=>
    have hbf:=hno λ h=>by have:=(hcb' (h c oO).1).1;rw[hrd]at this;cases this
    subst hbf;have hrd':(L.st.tsk i).ready=aF:=hrd;clear hfd hall hcb';have uU:=yI h0' h0 hrd hrd' hi' e8 e9;refine wl ?_;refine kB (HA λ ht hg=>?_);all_goals(try exact absurd trivial ‹¬True›)
    all_goals(refine cB rfl ⟨_,rfl,bL _⟩)
   |true=>
    have hrd':(L.st.tsk i).ready=aB:=hrd;by_cases hcp:(L.tsk i).cpu=c
    .have hcpp:TU L c:=dP ⟨i,hi,hrd,hcp,hid⟩;have hcp':(L.st.tsk i).cpu=c:=hcp;have hbn:((c:Int)!=(c:Int))=aF:=by simp
     clear hfd hall hcb';have uU:=fB h0' h0 hrd hrd' hi' e8 e9 hcp (zA hcp' hbn);refine wl ?_;refine kB (HA λ ht hg=>?_);all_goals(try exact absurd trivial ‹¬True›)
     all_goals(refine⟨(),hcpp,?_⟩;(have uU:=fB h0' h0 hrd hrd' hi' e8 e9 hcp (zA hcp' hbn);exact pK))
    have hbf:=hno λ h=>hcp (hcb' (h c oO).1).2;subst hbf;have hcp':¬(L.st.tsk i).cpu=c:=hcp;have hne:((L.st.tsk i).cpu !=(c:Int))=aB:=by simpa using hcp'
    clear hfd hall hcb';have uU:=fB h0' h0 hrd hrd' hi' e8 e9 hcp (zA hcp' hne);refine wl ?_;refine kB (HA λ ht hg=>?_);all_goals(try exact absurd trivial ‹¬True›)
    all_goals(refine cB rfl ⟨_,rfl,bL _⟩)
  rintro _ hcur;have hcn':c<n:=oO;clear hfd hr;refine gG ?_;refine jI ?_;refine cD (X:=Nat) rfl [0,1,2,3,4,5,6,7,8,9,10,13,18,19,20,21,52,54,55,56,57,78] (k+2) (λ g=>[(56,g)]) (λ g=>[(k,⟨7,aB,[L.st.cells]⟩)]) (λ g=>g<=L.sl.length/\∀g',g'<g->∀x,GY L g' c=aA x->x.v<=(L.sp g' c).floor) (λ g=>L.sl.length-g) 0 ?_ ⟨bF _,λ g' h=>absurd h (bU _)⟩ ?_;.refine gG ?_;exact sB
  rintro g ⟨hg1,hgall⟩;refine gG ?_;by_cases hgn:g<L.sl.length
  .have hgn':g<L.st.ns:=hgn;have hle:=aWK L n c hS hcn' L.sl.length g hgn (Nat.sub_le _ _) (Γ:=Γ);have hrow:L.st.nsp g=n:=(hP.sp g hgn).1
   cases hl:GY L g c with
   |none=>
    rw[show iU L L.sl.length g c=aC from hl]at hle;have uU:=uT hgn hgn' hrow;refine sP λ ht=>?_;refine cl [.ret (.tup [.agg [aD (aE aI 18446744073709551615),aD (aE aI 18446744073709551615),aD (aE aI 18446744073709551615)],aF])] ?_;refine iA ?_ ?_;all_goals(try exact hle)
    refine jI ?_;refine dlA [] ?_;refine sP λ ht=>?_;refine⟨g+1,⟨oO,λ g' hg'=>?_⟩,oO,?_⟩
    .rcases jU.1 hg' with h|rfl;.exact hgall g' h
     intro x hx;rw[hl]at hx;cases hx
    refine gG ?_;(have uU:=uT hgn hgn' hrow;exact pK)
   |some x=>
    rw[show iU L L.sl.length g c=aA x from hl]at hle;have uU:=uT hgn hgn' hrow;refine sP λ ht=>?_;refine cl [.ret (.tup [.agg [aD (aE aI x.v),aD (aE aI x.b),aD (aE aI x.x)],aB])] ?_;refine iA ?_ ?_;all_goals(try exact hle)
    refine jI ?_;refine dl [.ret (aD (aE aI x.v))] ?_;refine iA ?_ ?_;all_goals(try exact aLK _ _ _)
    refine wl ?_;refine pN (λ ht=>?_) λ ht=>?_
    .have hbf:=hno λ h=>by
      have:=(h c oO).2 g hgn x hl;have ht':(L.sp g c).floor<x.v:=by assumption
      omega
     subst hbf;refine cB rfl ⟨_,rfl,bL _⟩
    refine⟨g+1,⟨oO,λ g' hg'=>?_⟩,oO,?_⟩
    .rcases jU.1 hg' with h|rfl;.exact hgall g' h
     intro y hy;rw[hl]at hy;cases hy;have ht':x.v<=(L.sp g' c).floor:=by assumption
     exact ht'
    refine gG ?_;(have uU:=uT hgn hgn' hrow;exact pK)
  have hgn:g=L.sl.length:=oO;subst hgn;refine sP λ ht=>?_;refine⟨c+1,⟨oO,λ c' hc'=>?_⟩,oO,?_⟩
  .rcases jU.1 hc' with h|rfl;.exact hall c' h
   exact⟨hcur,λ g hg=>hgall g hg⟩
  refine gG ?_;exact sB
 have hcn:c=L.st.nu:=oO;subst hcn;have hbt:b=aB:=hb.2 λ c hc=>hall c oO;subst hbt;refine sP λ ht=>?_;refine cB rfl ⟨_,rfl,bL _⟩
def ckB_iff{i:Nat}:ckB s i=aF↔0<=s.clk i/\s.clk i<=281474976710656:=by simp only[ckB,dFn];omega
def okTk_iff{t:Tk}:XS s n t=aB↔1<=t.id/\t.id<=65535/\0<=t.group/\t.group<s.ns/\0<=t.cpu/\t.cpu<n/\(1<=t.weight/\t.weight<=65536)/\t.mask/2^n=0/\t.mask/2^t.cpu.toNat%2=1/\qI t.v t.r t.weight=aB:=by simp only[XS,dTt]
def UC(h:∀i,i<L.tl.length->0<i->(L.tsk (i-1)).id<(L.tsk i).id):BJ L:=λ i j hij=>by
 induction j with
 |zero=>omega
 |succ j ih=>
  intro hj;have h1:=h (j+1) hj oO;rw[a7O]at h1;by_cases e:i=j;.subst e;exact h1
  have:=ih oO oO;omega
def a8V{v r w:Int}(h:qI v r w=aB):1<=w/\w<=65536:=by simp only[qI,dTt]at h;omega
def a6J(h:jQ s=aB):∀g,0<g->g<s.ng->0<=s.par g/\s.par g<g:=λ g h1 h2=>by have:=(iJ h).2 g h1 h2;simp only[okR,aO,dTt]at this;exact HO h1 this.2
def aZD(h:jQ s=aB):∀g,g<s.ng->1<=s.wt g/\s.wt g<=65536:=λ g h1=>by
 by_cases e:g=0;.subst e;have:=(iJ h).1.2.2.2.2.2.2;omega
 have:=(iJ h).2 g oO h1;simp only[okR,okW,aO,dTt]at this;exact this.1
def aUF(hP:PreW L.st)(hc:jQ L.st=aB)(hn:L.cpus=n)(h:ShP L.st n)(hcur:∀c,c<n->TU L c):Rt0 L n:=by
 obtain⟨⟨r1,r2,r3,r4,r5,r6,r7⟩,_⟩:=iJ hc;have r1:1<=L.cpus:=r1;have r2:L.cpus<=64:=r2;have hsg:L.sl.length=L.gl.length:=h.ns;have r4:1<=L.gl.length:=r4;have r5:L.gl.length<=256:=r5;have hnt:L.tl.length<=200:=hP.nt
 refine⟨oO,oO,hn,hP.c0,r3,hsg.symm,oO,oO,h.nk,h.nu,λ g hg=>(h.sp g hg).1,oO,λ g h1 h2=>a6J hc g h1 (by show g<L.gl.length;omega),r6,λ g hg=>aZD hc g (by show g<L.gl.length;omega),
  λ c hcc=>ckB_iff.1 (h.ck c (by have:L.st.nk=n:=h.nk;omega)),λ g c hg hcc=>?_,λ c hcc=>((h.sp 0 (by show 0<L.sl.length;omega)).2 c hcc).2 rfl,λ i hi=>?_,UC λ i hi h0=>(h.tk i hi).1 h0,hcur⟩
 .obtain⟨a1,a2,a3,a4,a5⟩:=hP.spr g c;exact⟨((h.sp g hg).2 c hcc).1,a1,a2,a3,a4,a5⟩
 obtain⟨b1,b2,b3,b4,b5,b6,b7,b8,b9,b10⟩:=okTk_iff.1 (h.tk i hi).2;obtain⟨c1,c2,c3,c4,c5⟩:=hP.tkr i;exact⟨b1,b2,b3,b4,b5,b6,b10,c3,c4,c5,c1,c2,b8,b9⟩
def shp_of(h:Rt0 L n):ShP L.st n:=by have hng:=h.ng;refine⟨h.nk,h.nu,hng.symm,λ i hi=>ckB_iff.2 (h.clk i (by have hi:i<L.kl.length:=hi;rw[h.nk]at hi;exact hi)),λ g hg=>⟨h.rows g hg,λ c hc=>⟨(h.sp g c hg hc).1,λ e=>by subst e;exact h.root c hc⟩⟩,λ i hi=>⟨λ h0=>h.sorted (i-1) i oO hi,?_⟩⟩;have t:=h.tk i hi;exact okTk_iff.2 ⟨t.id1,t.id2,t.g0,t.g1,t.c0,t.c1,a8V t.e,t.m2,t.m3,t.e⟩
def bBF{α:Type}{l:List α}(h:¬0<l.length):l=[]:=jE oO
def aPD(hP:PreW L.st)(hn:L.cpus.toNat=n)(h:dR L.st=[]):Rt0 L n/\jQ L.st=aB:=by
 unfold dR at h;by_cases hc:jQ L.st=aB;rotate_left 1
 .rw[iP (by simpa using hc)]at h;cases h
 rw[iN (by rw[hc];simp)]at h;obtain⟨⟨r1,r2,r3,r4,r5,r6,r7⟩,_⟩:=iJ hc;have r1:1<=L.cpus:=r1;have r2:L.cpus<=64:=r2;have hcn:L.cpus=n:=oO;by_cases hs:0<(lQ L.st).length;.rw[iP hs]at h;rw[h]at hs;simp at hs
 rw[iN hs]at h;by_cases hp:0<(pH L.st).length;.rw[iP hp]at h;rw[h]at hp;simp at hp
 obtain⟨s1,s2,s3,s4⟩:=shapes_nil (s:=L.st) oO;have hp:=bBF hp;unfold pH at hp;simp only[bEH]at hp;obtain⟨p1,p2,p3,p4,p5⟩:=hp;have s1:(L.kl.length:Int)=L.cpus:=s1;have s2:(L.ul.length:Int)=L.cpus:=s2;have s3:L.sl.length=L.gl.length:=s3;have s4:∀g,g<L.sl.length->(((L.sl.getD g []).length:Nat):Int)=L.cpus:=s4;have hct:L.st.cpus.toNat=n:=hn;rw[hct]at p4 p5;refine⟨aUF hP hc hcn ⟨by show L.kl.length=n;omega,by show L.ul.length=n;omega,s3,λ i hi=>?_,λ g hg=>⟨by show(L.sl.getD g []).length=n;have:=s4 g hg;omega,λ c hcc=>?_⟩,λ i hi=>?_⟩ λ c hcc=>?_,hc⟩;.have:=flats_nil_iff.1 p1 i hi;unfold qD at this;rw[mZ]at this;exact this
 .have hr:g=0->(L.st.sp g c).v=0/\(L.st.sp g c).r=0:=λ e=>by subst e;have:=flats_nil_iff.1 p4 c hcc;unfold CV at this;rw[mZ,dFn]at this;have:=(hP.spr 0 c).1;have:=(hP.spr 0 c).2.2.1;omega
  refine⟨?_,hr⟩;by_cases e:g=0;.obtain⟨e1,e2⟩:=hr e;subst e;have e3:L.st.wt 0=1:=r7;rw[e1,e2,e3];rfl
  have:=flats_nil_iff.1 p3 g hg;unfold MQ at this;rw[iN e]at this;have hg2:g<L.sl.length:=hg;have:=flats_nil_iff.1 this c (by show c<(L.sl.getD g []).length;have:=s4 g hg2;omega);unfold aKH at this;rw[mZ,jZ]at this;exact this
 .have hb:∀r:Nat,r<7->brk L.st i ((r:Int)+4)=aF:=λ r hr=>by have:=flats_nil_iff.1 (flats_nil_iff.1 p2 r hr) i hi;unfold MF at this;rw[mZ]at this;exact this
  have b4:t4 L.st i=aF:=hb 0 oO;have b5:t5 L.st i=aF:=hb 1 oO;have b6:t6 L.st i=aF:=hb 2 oO;have b7:t7 L.st i=aF:=hb 3 oO;have b8:r8 L.st i=aF:=hb 4 oO;have b9:r9 L.st i=aF:=hb 5 oO;have b10:t10 L.st i=aF:=hb 6 oO;obtain⟨c1,c2,c3,c4,c5⟩:=hP.tkr i;simp only[t4,BQ,dFn]at b4;simp only[t5,dFn]at b5;simp only[t6,dFn]at b6;simp only[t7,jZ]at b7;simp only[r9,b7,lZ,jZ,aIY,dTt]at b9;simp only[onB,dTt]at b7;simp only[t10,jZ]at b10;rw[<-aSY L.st hP.k.wf i (by show 0<=L.cpus;omega) r2]at b8;simp only[t8,BQ,dFn]at b8;have hs3:(L.st.ns:Int)=L.st.ng:=by show(L.sl.length:Int)=L.gl.length;omega
  have hm:(L.st.tsk i).mask/2^n=0:=by
   have h0:0<=(L.st.tsk i).mask/2^n:=a7U c1 (CJ oO);rcases b8 with b8|b8;.have b8:¬L.cpus<64:=b8;have:n=64:=oO;subst this;exact Int.ediv_eq_zero_of_lt c1 (by show _<(18446744073709551616:Int);exact c2)
   have b8:¬0<shr (L.st.tsk i).mask L.cpus:=b8;rw[shr,hcn,(oO:min ((n:Int).toNat) 64=n),fG _ (CJ oO)]at b8;omega
  refine⟨λ h0=>?_,okTk_iff.2 ⟨oO,oO,oO,oO,b7.1,by have:(L.st.tsk i).cpu<L.cpus:=b7.2;omega,a8V b10,hm,b9,b10⟩⟩;rcases b4 with b4|b4;.omega
  omega
 have:=flats_nil_iff.1 p5 c hcc;unfold BW at this;rw[mZ]at this;by_cases h0:L.cur c=0;.exact dE h0
 have hd:decide (L.st.cur c≠0)=aB:=decide_eq_true h0;rw[hd,lZ,jZ,anyB_iff]at this;obtain⟨j,j1,j2⟩:=this;simp only[mU,aO,dTt]at j2;exact dP ⟨j,j1,j2.2.1,j2.2.2,j2.1⟩
def aPL(hP:PreW L.st)(hn:L.cpus.toNat=n):dR L.st=[]↔jQ L.st=aB/\ShP L.st n/\∀c,c<n->TU L c/\FlP L c:=by
 have h12:L.sl.length<=12:=by have:L.sl.length<=12:=hP.ns;omega
 constructor;.intro h;obtain⟨h0,hc⟩:=aPD hP hn h;rw[h0.check h12 hc]at h;exact⟨hc,shp_of h0,λ c hcc=>⟨h0.cur c hcc,λ g hg=>flrL_nil.1 (flats_nil_iff.1 (flats_nil_iff.1 h g hg) c hcc)⟩⟩
 rintro⟨hc,hs,hf⟩;have hcn:L.cpus=n:=by have:1<=L.cpus:=(iJ hc).1.1;omega
 have h0:=aUF hP hc hcn hs λ c hcc=>(hf c hcc).1;exact aEB h0 (λ g c hg hcc=>(hf c hcc).2 g hg) h12 hc
def bKR{a b:AVal}(h:VLe a b):VLes [a] [b]:= .cons h .nil
def a1X(h:PreW s):PreW (uH s).st:=by
 have e1:(uH s).st.ng=s.ng:=by simp[uH,LSt.st]
 have e2:(uH s).st.nk=s.nk:=by simp[uH,LSt.st]
 have e3:(uH s).st.nu=s.nu:=by simp[uH,LSt.st]
 have e4:(uH s).st.nt=s.nt:=by simp[uH,LSt.st]
 have e5:(uH s).st.ns=s.ns:=by simp[uH,LSt.st]
 have e6:∀g,g<s.ns->(uH s).st.nsp g=s.nsp g:=λ g hg=>by show(((uH s).sl.getD g []).length)=_;simp only[uH];rw[lU hg];simp
 refine a0Y ⟨by rw[e1];exact h.sm.ng,by rw[e2];exact h.sm.nk,by rw[e3];exact h.sm.nu,by rw[e4];exact h.sm.nt,by rw[e5];exact h.sm.ns,λ g hg=>?_⟩ (by rw[e4];exact h.nt) (by rw[e5];exact h.ns) (λ g hg=>?_) h.c0 (λ i=>?_) (λ g c=>?_);.rw[e5]at hg;rw[e6 g hg];exact h.sm.nsp g hg
 .rw[e5]at hg;rw[e6 g hg];exact h.p1 g hg
 .show TkR ((uH s).tl.getD i default);by_cases hi:i<s.nt;.simp only[uH];rw[lU hi];exact h.tkr i
  rw[rB (by simp[uH];omega)];exact⟨bY _,by decide,bY _,by decide,bY _⟩
 show SpR (((uH s).sl.getD g []).getD c default);by_cases hg:g<s.ns
 .simp only[uH];rw[lU hg];by_cases hc:c<s.nsp g;.rw[lU hc];exact h.spr g c
  rw[rB sO];exact⟨bY _,by decide,bY _,bY _,by decide⟩
 rw[rB (l:=(uH s).sl) (by simp[uH];omega)];exact⟨bY _,by show(0:Int)<=18446744073709551615;decide,bY _,bY _,by show(0:Int)<=18446744073709551615;decide⟩
def bAI(Γ:dW)(L:LSt)(hp:PreW L.st):AM.Pure aG Γ 24 [.agg L.st.cells] (aD (bC (dR L.st).isEmpty)):=by
 obtain⟨n,hn⟩:∃n,L.cpus.toNat=n:=⟨_,rfl⟩;have hiff:=aPL hp hn;have hsm:=hp.sm;rw[show(dR L.st).isEmpty=decide (dR L.st=[])by cases dR L.st<;>rfl];by_cases hc:jQ L.st=aB;rotate_left 1
 .rw[decide_eq_false (λ e=>hc (hiff.1 e).1)];exact aLG L.st (aVJ L.st (by rw[DV];simpa using hc))
 obtain⟨⟨r1,r2,r3,r4,r5,r6,r7⟩,_⟩:=iJ hc;have r1:1<=L.cpus:=r1;have r2:L.cpus<=64:=r2;have hcn:L.st.cpus=n:=by show L.cpus=n;omega
 obtain⟨sb,hsb⟩:∃sb:Bool,sb=aB↔ShP L.st n:=⟨@decide (ShP L.st n) (Classical.propDecidable _),sS⟩;have hsh:=a3Y L.st hsm hp.k n oO oO hcn (by rw[DV];exact hc) (aZD hc) sb hsb (Γ:=Γ);by_cases hS:ShP L.st n;rotate_left 1
 .have e:sb=aF:=by
   cases sb with
   |false=>rfl
   |true=>exact absurd (hsb.1 rfl) hS
  rw[e]at hsh;rw[decide_eq_false (λ e=>hS (hiff.1 e).2.1)];exact aLG L.st hsh
 rw[hsb.2 hS]at hsh;have hlen:L.sl.length=L.gl.length:=hS.ns;have r4:1<=L.gl.length:=r4;refine bAX L n hsm hsh hS (UC λ i hi h0=>(hS.tk i hi).1 h0) ⟨hlen.symm,λ g hg=>(hS.sp g hg).1,by have:L.tl.length<=200:=hp.nt;omega,by have:L.sl.length<=12:=hp.ns;omega,λ i hi=>?_,λ g c hg hcc=>(hp.spr g c).2.1⟩ oO _ ?_;.obtain⟨b1,b2,_⟩:=okTk_iff.1 (hS.tk i hi).2;exact⟨by have b1:1<=(L.tsk i).id:=b1;omega,b2,(hp.tkr i).2.2.2.1⟩
 rw[dTt,hiff];exact⟨λ h=>h.2.2,λ h=>⟨hc,hS,h⟩⟩
def a2X(Γ:dW)(h:PreW s):AM.Pure aG Γ 24 [.agg s.cells] (aD (bC (dR (uH s).st).isEmpty)):=a0X (bAI Γ (uH s) (a1X h)) (bKR (a9P s))
end Go.Proofs.T
end
section
namespace Go.Proofs.T
open Go Go.AM Go.Proofs
variable{i n ng:Nat}{Ls:Nat->LSt}{x:Nums}{a b:St}
variable{Γ:dW}
def a4F(L:LSt)(h:L.gl.length=L.st.ng):Nrm L.st where
 g i hi:=by show(L.gl.getD i (0,0)).1=0/\(L.gl.getD i (0,0)).2=0;rw[qB (by rw[h];exact hi)];exact⟨rfl,rfl⟩
 k i hi:=qB hi
 u i hi:=qB hi
 t i hi:=qB hi
 n g hg:=by show(L.sl.getD g []).length=0;rw[qB hg];rfl
 s g c hc:=qB hc
def a2V{L:LSt}(h:Rt0 L n)(h12:L.sl.length<=12)(hn:n<=12)(ht:L.tl.length<=200):PreW L.st:=by
 obtain⟨h1,h2,h3⟩:=h.preOk h12 hn
 have hf:∀g c,0<=(L.sp g c).floor/\(L.sp g c).floor<=18446744073709551615:=λ g c=>by
  by_cases hg:g<L.sl.length
  .by_cases hc:c<n;.have:=h.sp g c hg hc;exact this.2.2.2.2
   have e:L.sp g c=default:=by unfold LSt.sp;exact rB (by rw[h.rows g hg];omega)
   rw[e];exact⟨bY _,by show(0:Int)<=_;omega⟩
  have e:L.sp g c=default:=by unfold LSt.sp;rw[rB (l:=L.sl) oO];rfl
  rw[e];exact⟨bY _,by show(0:Int)<=_;omega⟩
 refine⟨h1,ht,h2,h3,h.cr0,h.kinds,λ i=>?_,λ g c=>(hf g c).1,λ g c=>(hf g c).2⟩;show 0<=(L.tsk i).v;by_cases hi:i<L.tl.length;.exact(h.tk i hi).v0
 have e:L.tsk i=default:=by unfold LSt.tsk;exact rB oO
 rw[e];exact bY _
structure Made35 (Γ:dW) (x:Nums) (f:Nat->Sm) (n ng:Nat) (Ls:Nat->LSt):Prop where
 n1:1<=n
 n4:n<=4
 g1:1<=ng
 g6:ng<=6
 rt:∀i,i<=900->Rt (Ls i) n/\(Ls i).tl.length<=i/\(Ls i).sl.length=ng
 lat:∀i j,i<=j->j<=900->Later (Ls i) (Ls j)
 made:∀nl z (q c:Nat),q=min nl 40->nl<=9223372036854775807->0<=z->z<=255->z%((q:Int)+1)=(c:Int)->AM.Pure aG Γ 20 [.agg x.cells,.rd 8 nl (λ i=>smc (f i)),aD (aE bM z)] (.tup [.agg (Ls c).st.cells,.agg (Ls q).st.cells,aB])
def aWA(x:Nums)(hx:NumsOk x)(f:Nat->Sm)(hf:∀i,SmOk (f i)):∃n ng Ls,Made35 Γ x f n ng Ls:=by
 have hc0:=hx.c0;have hg0:=hx.g0;obtain⟨qg,hqg⟩:∃q:Nat,x.g%6=(q:Int):=⟨(x.g%6).toNat,oO⟩;obtain⟨n,hn⟩:∃q:Nat,1+x.c%4=(q:Int):=⟨(1+x.c%4).toNat,oO⟩;obtain⟨ng,hng⟩:=xE (qg+1);have hok:=a3V hx (q:=qg) oO hn;have hsl:(mF (JA (1+x.c%4) x.cr (kV x qg).1) n).sl.length=ng:=by rw[hng,←(wA x qg).1];exact gP
 obtain⟨Ls,zs,hR⟩:=a2U Γ hok rfl (λ i=>UO (f i)) (λ i=>bAR (hf i)) 17 (25+ng) (28+ng) oO oO;rw[hsl]at hR;exact⟨n,ng,Ls,oO,oO,oO,oO,hR.rt,λ i j h1 h2=>hR.later h1 h2,λ nl z q c h1 h2 h3 h4 h5=>a0V rfl rfl (Tr.mono (aQC x hx f hf nl q c qg n ng z h1 h2 h3 h4 h5 hqg hn hng 0 Ls zs (by rw[show 0+17=17 from rfl,(oO:0+(25+ng)=25+ng),(oO:0+(28+ng)=28+ng)];exact hR)) (λ _ _ _ h=>by rw[h];exact bL _))⟩
structure Ms (s:St):Prop where
 nrm:Nrm s
 pre:PreW s
 ok:dR s=[]
 nk:s.nk<=4
 ng:s.ng<=6
 ns:s.ns<=6
 nt:s.nt<=40
def Made35.ms{f:Nat->Sm}(h:Made35 Γ x f n ng Ls)(hi:i<=40):Ms (Ls i).st:=by obtain⟨h1,h2,h3⟩:=h.rt i oO;have h4:=h.n4;have h6:=h.g6;exact⟨a4F _ rfl,a2V h1.r0 oO oO oO,aEB h1.r0 h1.fl oO h1.cfg,by show(Ls i).kl.length<=4;rw[h1.r0.nk];exact h4,by show(Ls i).gl.length<=6;rw[h1.r0.ng];omega,by show(Ls i).sl.length<=6;omega,by show(Ls i).tl.length<=40;omega⟩
def Made35.two{f:Nat->Sm}(h:Made35 Γ x f n ng Ls){j:Nat}(hi:i<=40)(hj:j<=40):Two (Ls i).st (Ls j).st:=by
 have key:∀ {i j:Nat},i<=40->j<=40->i<=j->Two (Ls i).st (Ls j).st:=λ {i j} hi hj hij=>
  ⟨(h.ms hi).nrm,(h.ms hj).nrm,(h.ms hi).ok,(h.ms hj).ok,by have h1:=(h.rt i oO).1;have h2:=(h.rt j oO).1;have h3:=h.lat i j hij oO;have h4:=h1.r0.ng;have h5:=h2.r0.ng;have h6:=h3.ns;exact al_iff.2 ⟨h3.cpus.symm,h3.credit.symm,by show(Ls i).gl.length=(Ls j).gl.length;omega,λ g _=>(h3.par g).symm⟩⟩
 by_cases hij:i<=j;.exact key hi hj hij
 exact(key hj hi oO).swap
def aKL{s:St}(hn:Nrm s)(hp:PreW s):AM.Pure aG Γ 24 [.agg s.cells] (aD (bC (dR s).isEmpty)):=by have:=a2X Γ hp;rw[a9O hn]at this;exact this
def aNL(hb:PreW b):(∀x∈(btw a b).tk,TkR x)/\∀x∈(btw a b).sp,SpR x.2.2:=by
 constructor
 .intro x hx;unfold btw at hx;split at hx;.cases hx
  split at hx;.cases hx
  obtain⟨i,_,h⟩:=mem_flx.1 hx;rw[(mem_if1.1 h).2];exact hb.tkr i
 intro x hx;unfold btw at hx;split at hx;.cases hx
 split at hx;.cases hx
 obtain⟨g,_,h⟩:=mem_flx.1 hx;obtain⟨i,_,h⟩:=mem_flx.1 h;rw[(mem_if1.1 h).2];exact hb.spr g i
def bCM{x:Dl}(ht:∀t∈x.tk,TkR t)(hs:∀t∈x.sp,SpR t.2.2):DSm (qP x):=by
 have h0:∀ {α:Type} {l:List α} {z:α} {i:Nat},l.getD i z∈l\/l.getD i z=z:=λ {α l z i}=>by
  by_cases h:i<l.length;.exact dE (zB h)
  exact dP (qB oO)
 refine⟨λ i=>?_,λ i=>?_⟩
 .rcases h0 (l:=x.tk) (z:=zT) (i:=i)with h|h;.exact ht _ h
  show TkR (x.tk.getD i zT);rw[h];exact a7Y
 rcases h0 (l:=x.sp) (z:=(0,0,⟨0,0,0⟩)) (i:=i)with h|h;.exact hs _ h
 show SpR (x.sp.getD i (0,0,⟨0,0,0⟩)).2.2;rw[h];exact⟨bY _,by decide,bY _,bY _,by decide⟩
def aZM(a b:St):(qP (btw a b)).size<=a.nk+a.nk+a.ng+a.nt+b.nt+a.ns*a.nk/\(qP (btw a b)).n4<=b.nt:=by
 have h0:∀x:Dl,(qP x).size=x.ck.length+x.cu.length+x.wg.length+x.gn.length+x.tk.length+x.sp.length/\(qP x).n4=x.tk.length:=λ _=>⟨rfl,rfl⟩;rw[(h0 _).1,(h0 _).2];unfold btw;split;.simp[noDl]
 split;.simp[noDl]
 have l0:=lH (zE a.clk b.clk) a.nk;have l1:=lH (zE a.cur b.cur) a.nk;have l2:=lH (RG a b) a.ng;have l3:=lH (VK a b) a.nt;have l4:=lH (KF a b) b.nt;have l5:=QS a b a.nk a.ns;simp only[GM,CE];omega
def aLF(ha:Ms a)(hb:Ms b):(qP (btw a b)).size<=200/\(qP (btw a b)).n4<=40:=by obtain⟨h1,h2⟩:=aZM a b;have k1:=ha.nk;have k2:=ha.ng;have k3:=ha.nt;have k4:=hb.nt;have k5:a.ns*a.nk<=6*4:=Nat.mul_le_mul ha.ns ha.nk;omega
attribute [local irreducible] jM del
def cS(x y:Sp):Bool:=x.v==y.v&&(x.r==y.r&&x.floor==y.floor)
def bCT{x y:Sp}:cS x y=aB↔x=y:=by obtain⟨a,b,c⟩:=x;obtain⟨d,e,f⟩:=y;simp[cS]
def sR(x:Sp):List AVal:=[aD (aE aI x.v),aD (aE aT x.r),aD (aE aI x.floor)]
section
attribute [local go_sem] mI tR sR
def NR(k:Nat):Kp [0,1,4,5,10,14,25] (λ i=>i-k):=oR
def a8F(n m:Nat)(hn:n<=1000)(hm:m<=1000)(f g:Nat->Int):AM.Pure aG Γ 80 [.rd 1 n (λ i=>[(f i)]),.rd 1 m (λ i=>[(g i)])] (pE n m (λ i=>f i==g i)):=by
 refine cA Tryz.func80 rfl 26 rfl bB rfl λ k=>?_;obtain⟨E,eE⟩:=xE (pE n m (λ i=>f i==g i));rw[<-eE];have kp:=NR k;refine wl ?_;refine pN (λ ht=>?_) λ ht=>?_;.refine cB rfl ⟨_,rfl,bG ?_⟩;rw[eE,rE oO]
 refine cD (X:=Nat) rfl [0,1,4,5,10,14,25] k (λ i=>[(5,i)]) (λ i=>[]) (λ i=>i<=n/\∀j,j<i->(f j==g j)=aB) (λ i=>n-i) 0 ?_ ⟨bF _,λ j hj=>absurd hj (bU _)⟩ ?_;.refine gG ?_;exact sB
 rintro i ⟨hi,hall⟩;refine gG ?_;refine wl ?_;refine kS (gB λ ht ht=>?_) (gB λ ht ht=>?_) (rX λ ht=>?_);.refine cB rfl ⟨_,rfl,bG ?_⟩;rw[eE,rF (i:=i) oO (by first|(rw[dY];simp at ht⊢;omega)|(simpa using ht))]
 .refine⟨i+1,⟨oO,λ j hj=>?_⟩,oO,?_⟩
  .by_cases he:j=i;.subst he;first|(simp;omega)|(simpa using ht)
   exact hall j oO
  exact sB
 refine cB rfl ⟨_,rfl,bG ?_⟩;rw[eE,kQ oO (λ j hj=>hall j oO)]
def sLT(n m:Nat)(hn:n<=1000)(hm:m<=1000)(f g:Nat->Tk):AM.Pure aG Γ 142 [.rd 8 n (λ i=>tR (f i)),.rd 8 m (λ i=>tR (g i))] (pE n m (λ i=>cT (f i) (g i))):=by
 refine cA Tryz.func142 rfl 26 rfl bB rfl λ k=>?_;obtain⟨E,eE⟩:=xE (pE n m (λ i=>cT (f i) (g i)));rw[<-eE];have kp:=NR k;refine wl ?_;refine pN (λ ht=>?_) λ ht=>?_;.refine cB rfl ⟨_,rfl,bG ?_⟩;rw[eE,rE oO]
 refine cD (X:=Nat) rfl [0,1,4,5,10,14,25] k (λ i=>[(5,i)]) (λ i=>[]) (λ i=>i<=n/\∀j,j<i->(cT (f j) (g j))=aB) (λ i=>n-i) 0 ?_ ⟨bF _,λ j hj=>absurd hj (bU _)⟩ ?_;.refine gG ?_;exact sB
 rintro i ⟨hi,hall⟩;refine gG ?_;refine wl ?_;refine kS (gB λ ht ht=>?_) (gB λ ht ht=>?_) (rX λ ht=>?_);.refine cB rfl ⟨_,rfl,bG ?_⟩;rw[eE,rF (i:=i) oO (by first|(rw[dY];simp[cT]at ht⊢;omega)|(simpa [cT]using ht))]
 .refine⟨i+1,⟨oO,λ j hj=>?_⟩,oO,?_⟩
  .by_cases he:j=i;.subst he;first|(simp[cT];omega)|(simpa [cT]using ht)
   exact hall j oO
  exact sB
 refine cB rfl ⟨_,rfl,bG ?_⟩;rw[eE,kQ oO (λ j hj=>hall j oO)]
def sLS(n m:Nat)(hn:n<=1000)(hm:m<=1000)(f g:Nat->Sp):AM.Pure aG Γ 143 [.rd 3 n (λ i=>sR (f i)),.rd 3 m (λ i=>sR (g i))] (pE n m (λ i=>cS (f i) (g i))):=by
 refine cA Tryz.func143 rfl 26 rfl bB rfl λ k=>?_;obtain⟨E,eE⟩:=xE (pE n m (λ i=>cS (f i) (g i)));rw[<-eE];have kp:=NR k;refine wl ?_;refine pN (λ ht=>?_) λ ht=>?_;.refine cB rfl ⟨_,rfl,bG ?_⟩;rw[eE,rE oO]
 refine cD (X:=Nat) rfl [0,1,4,5,10,14,25] k (λ i=>[(5,i)]) (λ i=>[]) (λ i=>i<=n/\∀j,j<i->(cS (f j) (g j))=aB) (λ i=>n-i) 0 ?_ ⟨bF _,λ j hj=>absurd hj (bU _)⟩ ?_;.refine gG ?_;exact sB
 rintro i ⟨hi,hall⟩;refine gG ?_;refine wl ?_;refine kS (gB λ ht ht=>?_) (gB λ ht ht=>?_) (rX λ ht=>?_);.refine cB rfl ⟨_,rfl,bG ?_⟩;rw[eE,rF (i:=i) oO (by first|(rw[dY];simp[cS]at ht⊢;omega)|(simpa [cS]using ht))]
 .refine⟨i+1,⟨oO,λ j hj=>?_⟩,oO,?_⟩
  .by_cases he:j=i;.subst he;first|(simp[cS];omega)|(simpa [cS]using ht)
   exact hall j oO
  exact sB
 refine cB rfl ⟨_,rfl,bG ?_⟩;rw[eE,kQ oO (λ j hj=>hall j oO)]
def sLG(n m:Nat)(hn:n<=1000)(hm:m<=1000)(f g:Nat->Int×Int):AM.Pure aG Γ 214 [.rd 2 n (λ i=>mI (f i)),.rd 2 m (λ i=>mI (g i))] (pE n m (λ i=>cV (f i) (g i))):=by
 refine cA Tryz.func214 rfl 26 rfl bB rfl λ k=>?_;obtain⟨E,eE⟩:=xE (pE n m (λ i=>cV (f i) (g i)));rw[<-eE];have kp:=NR k;refine wl ?_;refine pN (λ ht=>?_) λ ht=>?_;.refine cB rfl ⟨_,rfl,bG ?_⟩;rw[eE,rE oO]
 refine cD (X:=Nat) rfl [0,1,4,5,10,14,25] k (λ i=>[(5,i)]) (λ i=>[]) (λ i=>i<=n/\∀j,j<i->(cV (f j) (g j))=aB) (λ i=>n-i) 0 ?_ ⟨bF _,λ j hj=>absurd hj (bU _)⟩ ?_;.refine gG ?_;exact sB
 rintro i ⟨hi,hall⟩;refine gG ?_;refine wl ?_;refine kS (gB λ ht ht=>?_) (gB λ ht ht=>?_) (rX λ ht=>?_);.refine cB rfl ⟨_,rfl,bG ?_⟩;rw[eE,rF (i:=i) oO (by first|(rw[dY];simp[cV]at ht⊢;omega)|(simpa [cV]using ht))]
 .refine⟨i+1,⟨oO,λ j hj=>?_⟩,oO,?_⟩
  .by_cases he:j=i;.subst he;first|(simp[cV];omega)|(simpa [cV]using ht)
   exact hall j oO
  exact sB
 refine cB rfl ⟨_,rfl,bG ?_⟩;rw[eE,kQ oO (λ j hj=>hall j oO)]
end
def bAD(n m:Nat)(hn:n<=1000)(hm:m<=1000)(f g:Nat->Tk):AM.Pure aG Γ 81 [.rd 8 n (λ i=>tR (f i)),.rd 8 m (λ i=>tR (g i))] (pE n m (λ i=>cT (f i) (g i))):=by
 refine cA Tryz.func81 rfl 8 rfl bB rfl λ k=>?_;obtain⟨E,eE⟩:=xE (pE n m (λ i=>cT (f i) (g i)));rw[<-eE];have kp:=kN k [0,1,4];refine jI ?_;refine cl [.ret E] ?_;refine iA ?_ ?_;.rw[eE];exact sLT n m hn hm f g
 refine cB rfl ⟨_,rfl,bG ?_⟩;rfl
def bAF(n m:Nat)(hn:n<=1000)(hm:m<=1000)(f g:Nat->Sp):AM.Pure aG Γ 82 [.rd 3 n (λ i=>sR (f i)),.rd 3 m (λ i=>sR (g i))] (pE n m (λ i=>cS (f i) (g i))):=by
 refine cA Tryz.func82 rfl 8 rfl bB rfl λ k=>?_;obtain⟨E,eE⟩:=xE (pE n m (λ i=>cS (f i) (g i)));rw[<-eE];have kp:=kN k [0,1,4];refine jI ?_;refine cl [.ret E] ?_;refine iA ?_ ?_;.rw[eE];exact sLS n m hn hm f g
 refine cB rfl ⟨_,rfl,bG ?_⟩;rfl
def a2S(n m:Nat)(hn:n<=1000)(hm:m<=1000)(f g:Nat->Int×Int):AM.Pure aG Γ 141 [.rd 2 n (λ i=>mI (f i)),.rd 2 m (λ i=>mI (g i))] (pE n m (λ i=>cV (f i) (g i))):=by
 refine cA Tryz.func141 rfl 8 rfl bB rfl λ k=>?_;obtain⟨E,eE⟩:=xE (pE n m (λ i=>cV (f i) (g i)));rw[<-eE];have kp:=kN k [0,1,4];refine jI ?_;refine cl [.ret E] ?_;refine iA ?_ ?_;.rw[eE];exact sLG n m hn hm f g
 refine cB rfl ⟨_,rfl,bG ?_⟩;rfl
def cfE(a b:St):Bool:=a.cpus==b.cpus&&(a.credit==b.credit&&pE a.ng b.ng (λ i=>cV (a.par i,a.wt i) (b.par i,b.wt i)))
def kE(a b:St):Bool:=pE a.nk b.nk (λ i=>a.clk i==b.clk i)
def uE(a b:St):Bool:=pE a.nu b.nu (λ i=>a.cur i==b.cur i)
def tE(a b:St):Bool:=pE a.nt b.nt (λ i=>cT (a.tsk i) (b.tsk i))
def gE(a b:St)(g:Nat):Bool:=pE (a.nsp g) (b.nsp g) (λ i=>cS (a.sp g i) (b.sp g i))
def stE(a b:St):Bool:=cfE a b&&(kE a b&&(uE a b&&(tE a b&&pE a.ns b.ns (gE a b))))
def a2K(ha:Nrm a)(hb:Nrm b):stE a b=aB↔a=b:=by
 simp only[stE,cfE,kE,uE,tE,aO,beq_iff_eq,aMX,cV_iff,cT_iff,gE,bCT,Prod.mk.injEq];constructor
 .rintro⟨⟨h1,h2,h3,h4⟩,⟨h5,h6⟩,⟨h7,h8⟩,⟨h9,h10⟩,h11,h12⟩
  have hs:∀g,a.nsp g=b.nsp g:=λ g=>by
   by_cases hg:g<a.ns;.exact(h12 g hg).1
   rw[ha.n g oO,hb.n g oO]
  refine aJQ h1 h2 h3 (funext λ i=>?_) (funext λ i=>?_) h5 (funext λ i=>?_) h7 (funext λ i=>?_) h9 (funext λ i=>?_) h11 (funext hs) (funext λ g=>funext λ c=>?_)
  .by_cases hi:i<a.ng;.exact(h4 i hi).1
   rw[(ha.g i oO).1,(hb.g i oO).1]
  .by_cases hi:i<a.ng;.exact(h4 i hi).2
   rw[(ha.g i oO).2,(hb.g i oO).2]
  .by_cases hi:i<a.nk;.exact h6 i hi
   rw[ha.k i oO,hb.k i oO]
  .by_cases hi:i<a.nu;.exact h8 i hi
   rw[ha.u i oO,hb.u i oO]
  .by_cases hi:i<a.nt;.exact h10 i hi
   rw[ha.t i oO,hb.t i oO]
  by_cases hg:g<a.ns
  .by_cases hc:c<a.nsp g;.exact(h12 g hg).2 c hc
   rw[ha.s g c oO,hb.s g c (by rw[<-hs g];omega)]
  have h0:=ha.n g oO;rw[ha.s g c oO,hb.s g c (by rw[<-hs g];omega)]
 rintro rfl;simp
def a2T(a b:St)(ha:a.Small)(hb:b.Small):AM.Pure aG Γ 79 [.agg a.cfg,.agg b.cfg] (cfE a b):=by
 obtain⟨z,ez⟩:=xE (pE a.ng b.ng (λ i=>cV (a.par i,a.wt i) (b.par i,b.wt i)));have hgr:=a2S (Γ:=Γ) a.ng b.ng ha.ng hb.ng (λ i=>(a.par i,a.wt i)) (λ i=>(b.par i,b.wt i));rw[<-ez]at hgr;unfold cfE;rw[<-ez];refine cA Tryz.func79 rfl 24 rfl bB rfl λ k=>?_;have kp:=kN k [0,1,2,3,4];refine jI ?_;refine cl [.ret z] ?_;refine FN (yB λ hg hg=>?_) (yB λ hg hg=>?_) (yB λ hg hg=>?_) (gZ λ hg=>?_);.exact hgr
 all_goals(refine cB rfl ⟨_,rfl,bG ?_⟩;simp_all)
def bAE(a b:St)(ha:a.Small)(hb:b.Small):AM.Pure aG Γ 25 [.agg a.cells,.agg b.cells] (stE a b):=by
 have h0:=a2T (Γ:=Γ) a b ha hb;have h1:=a8F (Γ:=Γ) a.nk b.nk ha.nk hb.nk a.clk b.clk;have h2:=a8F (Γ:=Γ) a.nu b.nu ha.nu hb.nu a.cur b.cur;have h3:=bAD (Γ:=Γ) a.nt b.nt ha.nt hb.nt a.tsk b.tsk;obtain⟨z0,e0⟩:=xE (cfE a b);obtain⟨z1,e1⟩:=xE (kE a b);obtain⟨z2,e2⟩:=xE (uE a b);obtain⟨z3,e3⟩:=xE (tE a b);unfold stE;rw[<-e0,<-e1,<-e2,<-e3];rw[<-e0]at h0;rw[show pE a.nk b.nk (λ i=>a.clk i==b.clk i)=z1 from e1.symm]at h1;rw[show pE a.nu b.nu (λ i=>a.cur i==b.cur i)=z2 from e2.symm]at h2;rw[show pE a.nt b.nt (λ i=>cT (a.tsk i) (b.tsk i))=z3 from e3.symm]at h3;obtain⟨E,eE⟩:=xE (pE a.ns b.ns (gE a b));rw[<-eE];obtain⟨hng,hnk,hnu,hnt,hns,hnsp⟩:=ha;obtain⟨hng',hnk',hnu',hnt',hns',hnsp'⟩:=hb;refine cA Tryz.func25 rfl 64 rfl bB rfl λ k=>?_;have kp:=kN k [0,1,2,3,4,5,44,49,63];refine jI ?_;refine cl [.ret z0,.ret z1,.ret z2,.ret z3] ?_;refine zq9 (zs ?_) (gZ λ hg=>?_) (yB λ hg hg=>?_) (MO λ hg hg hg=>?_) (aOE λ hg hg hg hg=>?_) (aOE λ hg hg hg hg=>?_) (MO λ hg hg hg=>?_) (yB λ hg hg=>?_) (gZ λ hg=>?_);all_goals(try(first|exact h0|exact h1|exact h2|exact h3))
 .by_cases hns3:a.ns=b.ns
  .have hns2:((a.ns:Int)!=(b.ns:Int))=aF:=by simp[hns3]
   have uU:=hns2;refine sP λ ht=>?_;refine cD (X:=Nat) rfl [0,1,2,3,4,5,44,49,63] (k+2) (λ i=>[(5,i)]) (λ i=>[(k+1,⟨7,aB,[b.cells]⟩),(k,⟨7,aB,[a.cells]⟩)]) (λ i=>i<=a.ns/\∀j,j<i->gE a b j=aB) (λ i=>a.ns-i) 0 ?_ ⟨bF _,λ j hj=>absurd hj (bU _)⟩ ?_;.refine gG ?_;(have uU:=hns2;exact pK)
   rintro i ⟨hi,hall⟩;have uU:=Go.AM.uU;refine gG ?_;refine wl ?_;refine pN (λ ht=>?_) λ ht=>?_
   .have hi2:=hnsp i oO;have hi3:=hnsp' i oO;have hsp:=bAF (Γ:=Γ) (a.nsp i) (b.nsp i) hi2 hi3 (a.sp i) (b.sp i);obtain⟨w,ew⟩:=xE (gE a b i);rw[show pE (a.nsp i) (b.nsp i) (λ c=>cS (a.sp i c) (b.sp i c))=w from ew.symm]at hsp;refine dl [.ret w] ?_;refine iA ?_ ?_;all_goals(try omega)
    .exact hsp
    refine wl ?_;refine pN (λ ht=>?_) λ ht=>?_;.refine cB rfl ⟨_,rfl,bG ?_⟩;rw[eE,rF (i:=i) oO (by rw[<-ew];simp_all)];simp
    refine⟨i+1,⟨oO,λ j hj=>?_⟩,oO,?_⟩
    .by_cases he:j=i;.subst he;rw[<-ew];simp_all
     exact hall j oO
    refine gG ?_;exact sB
   refine cB rfl ⟨_,rfl,bG ?_⟩;have hE:E=aB:=by rw[eE,kQ hns3 λ j hj=>hall j oO]
   simp_all
  have hns2:((a.ns:Int)!=(b.ns:Int))=aB:=by simp;omega
  have uU:=hns2;refine sP λ ht=>?_;refine cB rfl ⟨_,rfl,bG ?_⟩;rw[eE,rE hns3];simp
 all_goals((refine sP λ ht=>?_))
 all_goals(refine cB rfl ⟨_,rfl,bG ?_⟩;simp_all)
end Go.Proofs.T
end
section
namespace Go.Proofs.T
open Go Go.AM Go.Proofs
variable{x:Dl}{w:Nat}
def OM(x:Dl):Nat->Dl
 |0=>{x with ck:=[]}
 |1=>{x with ck:=x.ck++x.ck}
 |2=>{x with ck:=x.ck++[(1,0)]}
 |3=>{x with ck:=x.ck++[(2,1)]}
 |4=>{x with ck:=[(1,5),(0,4)]}
 |5=>{x with ck:=[(0, -1)]}
 |6=>{x with cu:=[]}
 |7=>{x with cu:=[(1,5)]}
 |8=>{x with wg:=[(0,2)]}
 |9=>{x with wg:=[(-1,2)]}
 |10=>{x with gn:=x.gn++[5]}
 |11=>{x with gn:=[7]}
 |12=>{x with gn:=[]}
 |13=>{x with tk:=x.tk++x.tk}
 |14=>{x with tk:=[]}
 |15=>{x with tk:=x.tk++[⟨4,0,1,0,1,aF,0,0⟩]}
 |16=>{x with tk:=x.tk++[⟨9,0,1,0,1,aF,0,1⟩]}
 |17=>{x with sp:=[]}
 |18=>{x with sp:=x.sp++x.sp}
 |19=>{x with sp:=x.sp++[(0,1,⟨0,0,0⟩)]}
 |20=>{x with sp:=x.sp++[(0,1,⟨0,0,5⟩)]}
 |21=>{x with sp:=x.sp++[(1,1,⟨0,0,5⟩)]}
 |22=>{x with sp:=x.sp++[(0, -1,⟨0,0,5⟩)]}
 |_=>x
def bCY(h:∀t∈x.tk,TkR t):∀t∈(OM x w).tk,TkR t:=λ t ht=>by
 have one:∀u:Tk,TkR u->t∈x.tk++[u]->TkR t:=λ u hu h'=>by
  rcases dJ.1 h' with h'|h';.exact h t h'
  rw[tA.1 h'];exact hu
 unfold OM at ht;split at ht;case h_14=>exact h t ((dJ.1 ht).elim id id)
 case h_15=>cases ht
 case h_16=>exact one _ ⟨by decide,by decide,by decide,by decide,by decide⟩ ht
 case h_17=>exact one _ ⟨by decide,by decide,by decide,by decide,by decide⟩ ht
 all_goals exact h t ht
def bCZ(h:∀t∈x.sp,SpR t.2.2):∀t∈(OM x w).sp,SpR t.2.2:=λ t ht=>by
 have one:∀u:Int×Int×Sp,SpR u.2.2->t∈x.sp++[u]->SpR t.2.2:=λ u hu h'=>by
  rcases dJ.1 h' with h'|h';.exact h t h'
  rw[tA.1 h'];exact hu
 unfold OM at ht;split at ht;case h_18=>cases ht
 case h_19=>exact h t ((dJ.1 ht).elim id id)
 case h_20=>exact one _ ⟨by decide,by decide,by decide,by decide,by decide⟩ ht
 case h_21=>exact one _ ⟨by decide,by decide,by decide,by decide,by decide⟩ ht
 case h_22=>exact one _ ⟨by decide,by decide,by decide,by decide,by decide⟩ ht
 case h_23=>exact one _ ⟨by decide,by decide,by decide,by decide,by decide⟩ ht
 all_goals exact h t ht
def DR(x:Dl):(qP x).size=x.ck.length+x.cu.length+x.wg.length+x.gn.length+x.tk.length+x.sp.length/\(qP x).n4=x.tk.length:=⟨rfl,rfl⟩
def aZQ(x:Dl)(w:Nat):(qP (OM x w)).size<=2*(qP x).size+2/\(qP (OM x w)).n4<=2*(qP x).n4+1:=by rw[(DR _).1,(DR _).1,(DR _).2,(DR _).2];unfold OM;split<;>(try simp only[bT,iI,FM])<;>omega
def a3A{a b:St}(h:Two a b)(X:Dl):
 (SD a (qP X)≠0->SD a (qP X)=352/\MY a (qP X)=zSt/\X≠T.btw a b)∧
 (SD a (qP X)=0->MY a (qP X)=yG a (qP X)/\Two a (yG a (qP X))/\T.btw a (yG a (qP X))=X/\(yG a (qP X)=b↔X=T.btw a b)):=by
 by_cases hk:TQ a (qP X)
 .obtain⟨h1,h2⟩:=aEO h.ra hk;obtain⟨h3,h4⟩:=a0D h.ra hk h.na;rw[aIJ]at h4;refine⟨λ e=>absurd h1 e,λ _=>⟨h2,h3,h4,λ e=>?_,λ e=>?_⟩⟩;.rw[<-h4,e]
  rw[e];exact h.leads.2
 obtain⟨h1,h2⟩:=aNQ h.ra hk;refine⟨λ _=>⟨h1,h2,λ e=>hk ?_⟩,λ e=>absurd (h1.symm.trans e) dC⟩;rw[e];exact h.leads.1
end Go.Proofs.T
end
section
namespace Go.Proofs.T
open Go Go.AM Go.Proofs
variable{Γ:dW}
attribute [local irreducible] jM del
def aMC(k:Nat):Kp [0,1,2,3,4,8,9,10,11,12,13,14,15,16,17,18,20,40,53] (λ i=>i-k):=oR
def a3B{a b S:St}{D X G:DE}{e:Int}{z:Bool}(hA:AM.Pure aG Γ 22 [.agg a.cells,.agg X.cells] (.tup [.agg S.cells,e]))(hX:AM.Pure aG Γ 23 [.agg X.cells,.agg D.cells] z)
 (hno:e≠0->e=352/\S=zSt/\z=aF) (hB:e=0->AM.Pure aG Γ 21 [.agg a.cells,.agg S.cells] (.tup [.agg G.cells,(0:Int)])) (hG:e=0->AM.Pure aG Γ 23 [.agg G.cells,.agg X.cells] aB)
 (hR:e=0->AM.Pure aG Γ 24 [.agg S.cells] aB) (hS:e=0->AM.Pure aG Γ 25 [.agg S.cells,.agg b.cells] z) (k0 k:Nat):
 W aG Γ 94 k0 (gV (gD lI) [1,1,1,1,1,1]) (AG aG lI λ _ r1 _=>VLe r1 (aD (bC aB))) k [(8,aF),(9,.rp a.cells),(10,.rp b.cells),(12,.rp D.cells),(14,.rp X.cells)] []:=by
 by_cases he:e=0
 .subst he;have hB:=hB rfl;have hG:=hG rfl;have hR:=hR rfl;have hS:=hS rfl;have kp:=aMC k;refine jI ?_;refine cl [.ret (.tup [.agg S.cells,(0:Int)])] ?_;refine iA ?_ ?_;all_goals(try exact hA)
  refine sP λ ht=>?_;refine cl [.ret (.tup [.agg G.cells,(0:Int)])] ?_;refine iA ?_ ?_;all_goals(try exact hB)
  refine jI ?_;refine dl [.ret aB,.ret aB,.ret z,.ret z] ?_;refine zq5 (zs ?_) (zs ?_) (zs ?_) (zs ?_) (zs ?_);all_goals(try(first|exact hG|exact hR|exact hS|exact hX))
  all_goals(try exact absurd trivial ‹¬True›)
  exact cB rfl ⟨_,rfl,bL _⟩
 obtain⟨rfl,rfl,rfl⟩:=hno he;have hzk:zSt.nk=0:=rfl;have kp:=aMC k;have uU:=hzk;refine jI ?_;refine cl [.ret (.tup [.agg zSt.cells,(352:Int)])] ?_;refine iA ?_ ?_;all_goals(try exact hA)
 refine sP λ ht=>?_;refine cl [.ret aF] ?_;refine iA ?_ ?_;all_goals(try exact hX)
 exact cB rfl ⟨_,rfl,bL _⟩
end Go.Proofs.T
end
section
namespace Go.Proofs.T
open Go Go.AM Go.Proofs
structure Row6 (A:List AVal) (c:Bool):Prop where
 len:A.length=6
 tk:A.take 6=A
 on:A.all AM.one=aB
 cl:A.all clean=c
structure RowF (A A':List AVal) (c c':Bool) (j:Nat) (x y:AVal):Prop where
 a:Row6 A c
 a':Row6 A' c'
 get:A[j]? =aA x
 set:lG A [y] j=A'
abbrev BT(Γ:dW)(k:Nat)(A:List AVal)(w:Int)(H:aS)(A':List AVal)(RH:aS):Prop:=AM.Tr aG Γ 18 k [.agg A,aD (aE aH w)] H (λ _ r1 H1=>r1= .agg A'/\IA H1 RH)
abbrev TI(Γ:dW)(j w s:Nat)(r:List AVal):Prop:=∀ {A A':List AVal} {k id n cap:Nat} {l:List (List AVal)},RowF A A' aF aF j (.slc id 0 n cap) (.slc id 0 (n+1) cap)->l.length=n->0<n->n<=100000->id<k->(l.all λ row=>row.all AM.one)=aB->n+1<=cap->BT Γ k A w [(id,⟨s,aB,l⟩)] A' [(id,⟨s,aB,l++[r]⟩)]
abbrev TG(Γ:dW)(j w s:Nat)(r:List AVal):Prop:=∀ {A A':List AVal} {k id n cap:Nat} {l:List (List AVal)},RowF A A' aF aF j (.slc id 0 n cap) (.sl (k+3) 0 (n+1))->l.length=n->0<n->n<=100000->id<k->(l.all λ row=>row.all AM.one)=aB->cap<n+1->BT Γ k A w [(id,⟨s,aB,l⟩)] A' [(k+3,⟨s,aB,l++[r]⟩),(id,⟨s,aB,l⟩)]
def jJ{get:Nat->Option Blk}{id s m:Nat}{l:List (List AVal)}(hB:get id=aA ⟨s,aB,l⟩)(h:l.length=m):SrcA get (.sl id 0 m) s m l aB [id]:=by have:=SrcA.sl (r:=0) (m:=m) hB (by show 0+m<=l.length;omega);simp only[bKB]at this;rwa [gU oO]at this
def jV{l m:List (List AVal)}{n:Nat}(h:l.length=n):gH l m n=l++m:=by subst h;unfold gH;rw[bVG,List.drop_eq_nil_of_le oO,cX]
def RowF.f {A A':List AVal}{c c':Bool}{j:Nat}{x y:AVal}(h:RowF A A' c c' j x y):A.length=6/\A.take 6=A/\A.all AM.one=aB/\A.all clean=c/\A'.length=6/\A'.take 6=A'/\A'.all AM.one=aB/\A'.all clean=c'/\A[j]? =aA x/\lG A [y] j=A':=
 ⟨h.a.len,h.a.tk,h.a.on,h.a.cl,h.a'.len,h.a'.tk,h.a'.on,h.a'.cl,h.get,h.set⟩
section
variable{Γ:dW}{A A':List AVal}{k id n cap:Nat}{l:List (List AVal)}{x:AVal}
attribute [local irreducible] jM del
def jL(k:Nat):Kp [0,1,2,4,5,9,18,27,36,43,49,53,59,65,71,79,84,88,97,101,110,119,123,132,141,151,161] (λ i=>i-k):=oR
def b0(F:RowF A A' aB aB 0 (x) (aD (aP aC 0 0))):BT Γ k A 0 [] A' []:=by have u:=F.f;simp only[go_sem]at u;refine bR dD rfl 172 rfl bB ?_;have kp:=jL k;have uU:=u;refine sP λ ht=>?_;have uU:=u;refine cR ?_;rfl
def b1n(F:RowF A A' aB aB 0 (aD (aP aC 0 0)) (aD (aP aC 0 0))):BT Γ k A 1 [] A' []:=by have u:=F.f;simp only[go_sem]at u;refine bR dD rfl 172 rfl bB ?_;have kp:=jL k;have uU:=u;refine wl ?_;refine kB (gB λ ht ht=>?_);have uU:=u;refine cR ?_;rfl
def jK(g:Nat->Nat):Kp [0,1,2,4,5,9,18,27,36,43,49,53,59,65,71,79,84,88,97,101,110,119,123,132,141,151,161] g:=oR
def b1i(F:RowF A A' aF aF 0 (.slc id 0 n cap) (.slc id 0 (n+n) cap))(hl:l.length=n)(hn:0<n)(hn2:n<=100000)(hid:id<k)(hone:(l.all λ row=>row.all AM.one)=aB)(hcap:n+n<=cap):BT Γ k A 1 [(id,⟨2,aB,l⟩)] A' [(id,⟨2,aB,l++l⟩)]:=by
 have u:=F.f;simp only[go_sem]at u;have o:=dB hid;refine bR dD rfl 172 rfl bB ?_;have kp:=jK (λ i=>if i=id then 0 else i-k+1);have uU:=zA u o;refine wl ?_;refine kB (gB λ ht ht=>cl [.raw (aA 16) ⟨.slc id 0 (n+n) cap,k+2,[(id,aA ⟨2,aB,l++l⟩)],[id,id]⟩] ?_);refine iA ?_ ?_;.rw[<-jV hl];exact jH (B:=⟨2,aB,l⟩) rfl y4 rfl (sV uU) rfl rfl (jJ (sV uU) hl) hone oO oO (by show n<=l.length;omega) rfl rfl
 refine jI ?_;have uU:=zA u o;refine cR ?_;rfl
def b1g(F:RowF A A' aF aF 0 (.slc id 0 n cap) (.sl (k+2) 0 (n+n)))(hl:l.length=n)(hn:0<n)(hn2:n<=100000)(hid:id<k)(hone:(l.all λ row=>row.all AM.one)=aB)(hcap:cap<n+n):BT Γ k A 1 [(id,⟨2,aB,l⟩)] A' [(k+2,⟨2,aB,l++l⟩),(id,⟨2,aB,l⟩)]:=by
 have u:=F.f;simp only[go_sem]at u;have o:=dB hid;refine bR dD rfl 172 rfl bB ?_;have kp:=jK (λ i=>if i=id then 0 else i-k+1);have uU:=zA u o;refine wl ?_;refine kB (gB λ ht ht=>cl [.raw (aA 16) ⟨.sl (k+2) 0 (n+n),k+3,[(k+2,aA ⟨2,aB,l++l⟩)],[id,id]⟩] ?_);refine iA ?_ ?_;.exact jX (B:=⟨2,aB,l⟩) rfl y4 rfl (sV uU) rfl rfl rfl (jJ (sV uU) hl) hone oO oO hl oO oO
 refine jI ?_;have uU:=zA u o;refine cR ?_;rfl
def b2n(F:RowF A A' aB aF 0 (aD (aP aC 0 0)) (.sl (k+3) 0 1)):BT Γ k A 2 [] A' [(k+3,⟨2,aB,[[(1:Int),(0:Int)]]⟩)]:=by have u:=F.f;simp only[go_sem]at u;refine bR dD rfl 172 rfl bB ?_;have kp:=jL k;have uU:=u;refine wl ?_;refine kB (aAO λ ht ht ht=>?_);have uU:=u;refine cR ?_;rfl
def b2i:TI Γ 0 2 2 [(1:Int),(0:Int)]:= @λ A A' k id n cap l F hl hn hn2 hid hone hcap=>by
 have u:=F.f;simp only[go_sem]at u;have o:=dB hid;refine bR dD rfl 172 rfl bB ?_;have kp:=jK (λ i=>if i=id then 0 else i-k+1);have uU:=zA u o;refine wl ?_;refine kB (aAO λ ht ht ht=>cl [.raw (aA 25) ⟨.slc id 0 (n+1) cap,k+3,[(id,aA ⟨2,aB,l++[[aD (aE aH 1),aD (aE aH 0)]]⟩)],[id,k+2]⟩] ?_);refine iA ?_ ?_;.rw[<-jV hl];exact jH (B:=⟨2,aB,l⟩) rfl y4 rfl (sV uU) rfl rfl (jJ (l:=[[aD (aE aH 1),aD (aE aH 0)]]) (sV uU) rfl) rfl oO oO (by show n<=l.length;omega) rfl rfl
 refine jI ?_;have uU:=zA u o;refine cR ?_;rfl
def b2g:TG Γ 0 2 2 [(1:Int),(0:Int)]:= @λ A A' k id n cap l F hl hn hn2 hid hone hcap=>by
 have u:=F.f;simp only[go_sem]at u;have o:=dB hid;refine bR dD rfl 172 rfl bB ?_;have kp:=jK (λ i=>if i=id then 0 else i-k+1);have uU:=zA u o;refine wl ?_;refine kB (aAO λ ht ht ht=>cl [.raw (aA 25) ⟨.sl (k+3) 0 (n+1),k+4,[(k+3,aA ⟨2,aB,l++[[aD (aE aH 1),aD (aE aH 0)]]⟩)],[id,k+2]⟩] ?_);refine iA ?_ ?_;.exact jX (B:=⟨2,aB,l⟩) rfl y4 rfl (sV uU) rfl rfl rfl (jJ (l:=[[aD (aE aH 1),aD (aE aH 0)]]) (sV uU) rfl) rfl oO oO hl oO oO
 refine jI ?_;have uU:=zA u o;refine cR ?_;rfl
def b3n(F:RowF A A' aB aF 0 (aD (aP aC 0 0)) (.sl (k+3) 0 1)):BT Γ k A 3 [] A' [(k+3,⟨2,aB,[[(2:Int),(1:Int)]]⟩)]:=by have u:=F.f;simp only[go_sem]at u;refine bR dD rfl 172 rfl bB ?_;have kp:=jL k;have uU:=u;refine wl ?_;refine kB (aFG λ ht ht ht ht=>?_);have uU:=u;refine cR ?_;rfl
def b3i:TI Γ 0 3 2 [(2:Int),(1:Int)]:= @λ A A' k id n cap l F hl hn hn2 hid hone hcap=>by
 have u:=F.f;simp only[go_sem]at u;have o:=dB hid;refine bR dD rfl 172 rfl bB ?_;have kp:=jK (λ i=>if i=id then 0 else i-k+1);have uU:=zA u o;refine wl ?_;refine kB (aFG λ ht ht ht ht=>cl [.raw (aA 34) ⟨.slc id 0 (n+1) cap,k+3,[(id,aA ⟨2,aB,l++[[aD (aE aH 2),aD (aE aH 1)]]⟩)],[id,k+2]⟩] ?_);refine iA ?_ ?_;.rw[<-jV hl];exact jH (B:=⟨2,aB,l⟩) rfl y4 rfl (sV uU) rfl rfl (jJ (l:=[[aD (aE aH 2),aD (aE aH 1)]]) (sV uU) rfl) rfl oO oO (by show n<=l.length;omega) rfl rfl
 refine jI ?_;have uU:=zA u o;refine cR ?_;rfl
def b3g:TG Γ 0 3 2 [(2:Int),(1:Int)]:= @λ A A' k id n cap l F hl hn hn2 hid hone hcap=>by
 have u:=F.f;simp only[go_sem]at u;have o:=dB hid;refine bR dD rfl 172 rfl bB ?_;have kp:=jK (λ i=>if i=id then 0 else i-k+1);have uU:=zA u o;refine wl ?_;refine kB (aFG λ ht ht ht ht=>cl [.raw (aA 34) ⟨.sl (k+3) 0 (n+1),k+4,[(k+3,aA ⟨2,aB,l++[[aD (aE aH 2),aD (aE aH 1)]]⟩)],[id,k+2]⟩] ?_);refine iA ?_ ?_;.exact jX (B:=⟨2,aB,l⟩) rfl y4 rfl (sV uU) rfl rfl rfl (jJ (l:=[[aD (aE aH 2),aD (aE aH 1)]]) (sV uU) rfl) rfl oO oO hl oO oO
 refine jI ?_;have uU:=zA u o;refine cR ?_;rfl
def b4(F:RowF A A' aB aF 0 (x) (.sl (k+2) 0 2)):BT Γ k A 4 [] A' [(k+2,⟨2,aB,[[(1:Int),(5:Int)],[(0:Int),(4:Int)]]⟩)]:=by have u:=F.f;simp only[go_sem]at u;refine bR dD rfl 172 rfl bB ?_;have kp:=jL k;have uU:=u;refine wl ?_;refine kB ⟨λ ht ht ht ht ht=>zN ?_⟩;have uU:=u;refine cR ?_;rfl
def b5(F:RowF A A' aB aF 0 (x) (.sl (k+2) 0 1)):BT Γ k A 5 [] A' [(k+2,⟨2,aB,[[(0:Int),(-1:Int)]]⟩)]:=by have u:=F.f;simp only[go_sem]at u;refine bR dD rfl 172 rfl bB ?_;have kp:=jL k;have uU:=u;refine wl ?_;refine kB ⟨λ ht ht ht ht ht ht=>zN ?_⟩;have uU:=u;refine cR ?_;rfl
def b6(F:RowF A A' aB aB 1 (x) (aD (aP aC 0 0))):BT Γ k A 6 [] A' []:=by have u:=F.f;simp only[go_sem]at u;refine bR dD rfl 172 rfl bB ?_;have kp:=jL k;have uU:=u;refine wl ?_;refine kB ⟨λ ht ht ht ht ht ht ht=>zN ?_⟩;have uU:=u;refine cR ?_;rfl
def b7(F:RowF A A' aB aF 1 (x) (.sl (k+2) 0 1)):BT Γ k A 7 [] A' [(k+2,⟨2,aB,[[(1:Int),(5:Int)]]⟩)]:=by have u:=F.f;simp only[go_sem]at u;refine bR dD rfl 172 rfl bB ?_;have kp:=jL k;have uU:=u;refine wl ?_;refine kB ⟨?_⟩;(repeat intro ht);apply zN;have uU:=u;refine cR ?_;rfl
def b8(F:RowF A A' aB aF 2 (x) (.sl (k+2) 0 1)):BT Γ k A 8 [] A' [(k+2,⟨2,aB,[[(0:Int),(2:Int)]]⟩)]:=by have u:=F.f;simp only[go_sem]at u;refine bR dD rfl 172 rfl bB ?_;have kp:=jL k;have uU:=u;refine wl ?_;refine kB ⟨?_⟩;(repeat intro ht);apply zN;have uU:=u;refine cR ?_;rfl
def b9(F:RowF A A' aB aF 2 (x) (.sl (k+2) 0 1)):BT Γ k A 9 [] A' [(k+2,⟨2,aB,[[(-1:Int),(2:Int)]]⟩)]:=by have u:=F.f;simp only[go_sem]at u;refine bR dD rfl 172 rfl bB ?_;have kp:=jL k;have uU:=u;refine wl ?_;refine kB ⟨?_⟩;(repeat intro ht);apply zN;have uU:=u;refine cR ?_;rfl
def bQF(F:RowF A A' aB aF 3 (aD (aP aC 0 0)) (.sl (k+3) 0 1)):BT Γ k A 10 [] A' [(k+3,⟨1,aB,[[(5:Int)]]⟩)]:=by have u:=F.f;simp only[go_sem]at u;refine bR dD rfl 172 rfl bB ?_;have kp:=jL k;have uU:=u;refine wl ?_;refine kB ⟨?_⟩;(repeat intro ht);apply zN;have uU:=u;refine cR ?_;rfl
def bQG:TI Γ 3 10 1 [(5:Int)]:= @λ A A' k id n cap l F hl hn hn2 hid hone hcap=>by
 have u:=F.f;simp only[go_sem]at u;have o:=dB hid;refine bR dD rfl 172 rfl bB ?_;have kp:=jK (λ i=>if i=id then 0 else i-k+1);have uU:=zA u o;refine wl ?_;refine kB ⟨?_⟩;(repeat intro ht);apply zN;refine cl [.raw (aA 77) ⟨.slc id 0 (n+1) cap,k+3,[(id,aA ⟨1,aB,l++[[aD (aE aH 5)]]⟩)],[id,k+2]⟩] ?_;refine iA ?_ ?_;.rw[<-jV hl];exact jH (B:=⟨1,aB,l⟩) rfl y5 rfl (sV uU) rfl rfl (jJ (l:=[[aD (aE aH 5)]]) (sV uU) rfl) rfl oO oO (by show n<=l.length;omega) rfl rfl
 refine jI ?_;have uU:=zA u o;refine cR ?_;rfl
def bQH:TG Γ 3 10 1 [(5:Int)]:= @λ A A' k id n cap l F hl hn hn2 hid hone hcap=>by
 have u:=F.f;simp only[go_sem]at u;have o:=dB hid;refine bR dD rfl 172 rfl bB ?_;have kp:=jK (λ i=>if i=id then 0 else i-k+1);have uU:=zA u o;refine wl ?_;refine kB ⟨?_⟩;(repeat intro ht);apply zN;refine cl [.raw (aA 77) ⟨.sl (k+3) 0 (n+1),k+4,[(k+3,aA ⟨1,aB,l++[[aD (aE aH 5)]]⟩)],[id,k+2]⟩] ?_;refine iA ?_ ?_;.exact jX (B:=⟨1,aB,l⟩) rfl y5 rfl (sV uU) rfl rfl rfl (jJ (l:=[[aD (aE aH 5)]]) (sV uU) rfl) rfl oO oO hl oO oO
 refine jI ?_;have uU:=zA u o;refine cR ?_;rfl
def b11(F:RowF A A' aB aF 3 (x) (.sl (k+2) 0 1)):BT Γ k A 11 [] A' [(k+2,⟨1,aB,[[(7:Int)]]⟩)]:=by have u:=F.f;simp only[go_sem]at u;refine bR dD rfl 172 rfl bB ?_;have kp:=jL k;have uU:=u;refine wl ?_;refine kB ⟨?_⟩;(repeat intro ht);apply zN;have uU:=u;refine cR ?_;rfl
def b12(F:RowF A A' aB aB 3 (x) (aD (aP aC 0 0))):BT Γ k A 12 [] A' []:=by have u:=F.f;simp only[go_sem]at u;refine bR dD rfl 172 rfl bB ?_;have kp:=jL k;have uU:=u;refine wl ?_;refine kB ⟨?_⟩;(repeat intro ht);apply zN;have uU:=u;refine cR ?_;rfl
def bQB(F:RowF A A' aB aB 4 (aD (aP aC 0 0)) (aD (aP aC 0 0))):BT Γ k A 13 [] A' []:=by have u:=F.f;simp only[go_sem]at u;refine bR dD rfl 172 rfl bB ?_;have kp:=jL k;have uU:=u;refine wl ?_;refine kB ⟨?_⟩;(repeat intro ht);apply zN;have uU:=u;refine cR ?_;rfl
def bQC(F:RowF A A' aF aF 4 (.slc id 0 n cap) (.slc id 0 (n+n) cap))(hl:l.length=n)(hn:0<n)(hn2:n<=100000)(hid:id<k)(hone:(l.all λ row=>row.all AM.one)=aB)(hcap:n+n<=cap):BT Γ k A 13 [(id,⟨8,aB,l⟩)] A' [(id,⟨8,aB,l++l⟩)]:=by
 have u:=F.f;simp only[go_sem]at u;have o:=dB hid;refine bR dD rfl 172 rfl bB ?_;have kp:=jK (λ i=>if i=id then 0 else i-k+1);have uU:=zA u o;refine wl ?_;refine kB ⟨?_⟩;(repeat intro ht);apply zN;refine cl [.raw (aA 95) ⟨.slc id 0 (n+n) cap,k+2,[(id,aA ⟨8,aB,l++l⟩)],[id,id]⟩] ?_;refine iA ?_ ?_;.rw[<-jV hl];exact jH (B:=⟨8,aB,l⟩) rfl y7 rfl (sV uU) rfl rfl (jJ (sV uU) hl) hone oO oO (by show n<=l.length;omega) rfl rfl
 refine jI ?_;have uU:=zA u o;refine cR ?_;rfl
def bQD(F:RowF A A' aF aF 4 (.slc id 0 n cap) (.sl (k+2) 0 (n+n)))(hl:l.length=n)(hn:0<n)(hn2:n<=100000)(hid:id<k)(hone:(l.all λ row=>row.all AM.one)=aB)(hcap:cap<n+n):BT Γ k A 13 [(id,⟨8,aB,l⟩)] A' [(k+2,⟨8,aB,l++l⟩),(id,⟨8,aB,l⟩)]:=by
 have u:=F.f;simp only[go_sem]at u;have o:=dB hid;refine bR dD rfl 172 rfl bB ?_;have kp:=jK (λ i=>if i=id then 0 else i-k+1);have uU:=zA u o;refine wl ?_;refine kB ⟨?_⟩;(repeat intro ht);apply zN;refine cl [.raw (aA 95) ⟨.sl (k+2) 0 (n+n),k+3,[(k+2,aA ⟨8,aB,l++l⟩)],[id,id]⟩] ?_;refine iA ?_ ?_;.exact jX (B:=⟨8,aB,l⟩) rfl y7 rfl (sV uU) rfl rfl rfl (jJ (sV uU) hl) hone oO oO hl oO oO
 refine jI ?_;have uU:=zA u o;refine cR ?_;rfl
def b14(F:RowF A A' aB aB 4 (x) (aD (aP aC 0 0))):BT Γ k A 14 [] A' []:=by have u:=F.f;simp only[go_sem]at u;refine bR dD rfl 172 rfl bB ?_;have kp:=jL k;have uU:=u;refine wl ?_;refine kB ⟨?_⟩;(repeat intro ht);apply zN;have uU:=u;refine cR ?_;rfl
def bPX(F:RowF A A' aB aF 4 (aD (aP aC 0 0)) (.sl (k+3) 0 1)):BT Γ k A 15 [] A' [(k+3,⟨8,aB,[[(4:Int),(0:Int),(1:Int),(0:Int),aD (aE aI 1),aF,aD (aE aI 0),aD (aE aT 0)]]⟩)]:=by have u:=F.f;simp only[go_sem]at u;refine bR dD rfl 172 rfl bB ?_;have kp:=jL k;have uU:=u;refine wl ?_;refine kB ⟨?_⟩;(repeat intro ht);apply zN;have uU:=u;refine cR ?_;rfl
def bPY:TI Γ 4 15 8 [(4:Int),(0:Int),(1:Int),(0:Int),aD (aE aI 1),aF,aD (aE aI 0),aD (aE aT 0)]:= @λ A A' k id n cap l F hl hn hn2 hid hone hcap=>by
 have u:=F.f;simp only[go_sem]at u;have o:=dB hid;refine bR dD rfl 172 rfl bB ?_;have kp:=jK (λ i=>if i=id then 0 else i-k+1);have uU:=zA u o;refine wl ?_;refine kB ⟨?_⟩;(repeat intro ht);apply zN;refine cl [.raw (aA 108) ⟨.slc id 0 (n+1) cap,k+3,[(id,aA ⟨8,aB,l++[[aD (aE aH 4),aD (aE aH 0),aD (aE aH 1),aD (aE aH 0),aD (aE aI 1),aD (bC aF),aD (aE aI 0),aD (aE aT 0)]]⟩)],[id,k+2]⟩] ?_;refine iA ?_ ?_;.rw[<-jV hl];exact jH (B:=⟨8,aB,l⟩) rfl y7 rfl (sV uU) rfl rfl (jJ (l:=[[aD (aE aH 4),aD (aE aH 0),aD (aE aH 1),aD (aE aH 0),aD (aE aI 1),aD (bC aF),aD (aE aI 0),aD (aE aT 0)]]) (sV uU) rfl) rfl oO oO (by show n<=l.length;omega) rfl rfl
 refine jI ?_;have uU:=zA u o;refine cR ?_;rfl
def bPZ:TG Γ 4 15 8 [(4:Int),(0:Int),(1:Int),(0:Int),aD (aE aI 1),aF,aD (aE aI 0),aD (aE aT 0)]:= @λ A A' k id n cap l F hl hn hn2 hid hone hcap=>by
 have u:=F.f;simp only[go_sem]at u;have o:=dB hid;refine bR dD rfl 172 rfl bB ?_;have kp:=jK (λ i=>if i=id then 0 else i-k+1);have uU:=zA u o;refine wl ?_;refine kB ⟨?_⟩;(repeat intro ht);apply zN;refine cl [.raw (aA 108) ⟨.sl (k+3) 0 (n+1),k+4,[(k+3,aA ⟨8,aB,l++[[aD (aE aH 4),aD (aE aH 0),aD (aE aH 1),aD (aE aH 0),aD (aE aI 1),aD (bC aF),aD (aE aI 0),aD (aE aT 0)]]⟩)],[id,k+2]⟩] ?_;refine iA ?_ ?_;.exact jX (B:=⟨8,aB,l⟩) rfl y7 rfl (sV uU) rfl rfl rfl (jJ (l:=[[aD (aE aH 4),aD (aE aH 0),aD (aE aH 1),aD (aE aH 0),aD (aE aI 1),aD (bC aF),aD (aE aI 0),aD (aE aT 0)]]) (sV uU) rfl) rfl oO oO hl oO oO
 refine jI ?_;have uU:=zA u o;refine cR ?_;rfl
def bPU(F:RowF A A' aB aF 4 (aD (aP aC 0 0)) (.sl (k+3) 0 1)):BT Γ k A 16 [] A' [(k+3,⟨8,aB,[[(9:Int),(0:Int),(1:Int),(0:Int),aD (aE aI 1),aF,aD (aE aI 0),aD (aE aT 1)]]⟩)]:=by have u:=F.f;simp only[go_sem]at u;refine bR dD rfl 172 rfl bB ?_;have kp:=jL k;have uU:=u;refine wl ?_;refine kB ⟨?_⟩;(repeat intro ht);apply zN;have uU:=u;refine cR ?_;rfl
def bPV:TI Γ 4 16 8 [(9:Int),(0:Int),(1:Int),(0:Int),aD (aE aI 1),aF,aD (aE aI 0),aD (aE aT 1)]:= @λ A A' k id n cap l F hl hn hn2 hid hone hcap=>by
 have u:=F.f;simp only[go_sem]at u;have o:=dB hid;refine bR dD rfl 172 rfl bB ?_;have kp:=jK (λ i=>if i=id then 0 else i-k+1);have uU:=zA u o;refine wl ?_;refine kB ⟨?_⟩;(repeat intro ht);apply zN;refine cl [.raw (aA 117) ⟨.slc id 0 (n+1) cap,k+3,[(id,aA ⟨8,aB,l++[[aD (aE aH 9),aD (aE aH 0),aD (aE aH 1),aD (aE aH 0),aD (aE aI 1),aD (bC aF),aD (aE aI 0),aD (aE aT 1)]]⟩)],[id,k+2]⟩] ?_;refine iA ?_ ?_;.rw[<-jV hl];exact jH (B:=⟨8,aB,l⟩) rfl y7 rfl (sV uU) rfl rfl (jJ (l:=[[aD (aE aH 9),aD (aE aH 0),aD (aE aH 1),aD (aE aH 0),aD (aE aI 1),aD (bC aF),aD (aE aI 0),aD (aE aT 1)]]) (sV uU) rfl) rfl oO oO (by show n<=l.length;omega) rfl rfl
 refine jI ?_;have uU:=zA u o;refine cR ?_;rfl
def bPW:TG Γ 4 16 8 [(9:Int),(0:Int),(1:Int),(0:Int),aD (aE aI 1),aF,aD (aE aI 0),aD (aE aT 1)]:= @λ A A' k id n cap l F hl hn hn2 hid hone hcap=>by
 have u:=F.f;simp only[go_sem]at u;have o:=dB hid;refine bR dD rfl 172 rfl bB ?_;have kp:=jK (λ i=>if i=id then 0 else i-k+1);have uU:=zA u o;refine wl ?_;refine kB ⟨?_⟩;(repeat intro ht);apply zN;refine cl [.raw (aA 117) ⟨.sl (k+3) 0 (n+1),k+4,[(k+3,aA ⟨8,aB,l++[[aD (aE aH 9),aD (aE aH 0),aD (aE aH 1),aD (aE aH 0),aD (aE aI 1),aD (bC aF),aD (aE aI 0),aD (aE aT 1)]]⟩)],[id,k+2]⟩] ?_;refine iA ?_ ?_;.exact jX (B:=⟨8,aB,l⟩) rfl y7 rfl (sV uU) rfl rfl rfl (jJ (l:=[[aD (aE aH 9),aD (aE aH 0),aD (aE aH 1),aD (aE aH 0),aD (aE aI 1),aD (bC aF),aD (aE aI 0),aD (aE aT 1)]]) (sV uU) rfl) rfl oO oO hl oO oO
 refine jI ?_;have uU:=zA u o;refine cR ?_;rfl
def b17(F:RowF A A' aB aB 5 (x) (aD (aP aC 0 0))):BT Γ k A 17 [] A' []:=by have u:=F.f;simp only[go_sem]at u;refine bR dD rfl 172 rfl bB ?_;have kp:=jL k;have uU:=u;refine wl ?_;refine kB ⟨?_⟩;(repeat intro ht);apply zN;have uU:=u;refine cR ?_;rfl
def bPR(F:RowF A A' aB aB 5 (aD (aP aC 0 0)) (aD (aP aC 0 0))):BT Γ k A 18 [] A' []:=by have u:=F.f;simp only[go_sem]at u;refine bR dD rfl 172 rfl bB ?_;have kp:=jL k;have uU:=u;refine wl ?_;refine kB ⟨?_⟩;(repeat intro ht);apply zN;have uU:=u;refine cR ?_;rfl
def bPS(F:RowF A A' aF aF 5 (.slc id 0 n cap) (.slc id 0 (n+n) cap))(hl:l.length=n)(hn:0<n)(hn2:n<=100000)(hid:id<k)(hone:(l.all λ row=>row.all AM.one)=aB)(hcap:n+n<=cap):BT Γ k A 18 [(id,⟨5,aB,l⟩)] A' [(id,⟨5,aB,l++l⟩)]:=by
 have u:=F.f;simp only[go_sem]at u;have o:=dB hid;refine bR dD rfl 172 rfl bB ?_;have kp:=jK (λ i=>if i=id then 0 else i-k+1);have uU:=zA u o;refine wl ?_;refine kB ⟨?_⟩;(repeat intro ht);apply zN;refine cl [.raw (aA 130) ⟨.slc id 0 (n+n) cap,k+2,[(id,aA ⟨5,aB,l++l⟩)],[id,id]⟩] ?_;refine iA ?_ ?_;.rw[<-jV hl];exact jH (B:=⟨5,aB,l⟩) rfl y9 rfl (sV uU) rfl rfl (jJ (sV uU) hl) hone oO oO (by show n<=l.length;omega) rfl rfl
 refine jI ?_;have uU:=zA u o;refine cR ?_;rfl
def bPT(F:RowF A A' aF aF 5 (.slc id 0 n cap) (.sl (k+2) 0 (n+n)))(hl:l.length=n)(hn:0<n)(hn2:n<=100000)(hid:id<k)(hone:(l.all λ row=>row.all AM.one)=aB)(hcap:cap<n+n):BT Γ k A 18 [(id,⟨5,aB,l⟩)] A' [(k+2,⟨5,aB,l++l⟩),(id,⟨5,aB,l⟩)]:=by
 have u:=F.f;simp only[go_sem]at u;have o:=dB hid;refine bR dD rfl 172 rfl bB ?_;have kp:=jK (λ i=>if i=id then 0 else i-k+1);have uU:=zA u o;refine wl ?_;refine kB ⟨?_⟩;(repeat intro ht);apply zN;refine cl [.raw (aA 130) ⟨.sl (k+2) 0 (n+n),k+3,[(k+2,aA ⟨5,aB,l++l⟩)],[id,id]⟩] ?_;refine iA ?_ ?_;.exact jX (B:=⟨5,aB,l⟩) rfl y9 rfl (sV uU) rfl rfl rfl (jJ (sV uU) hl) hone oO oO hl oO oO
 refine jI ?_;have uU:=zA u o;refine cR ?_;rfl
def bPO(F:RowF A A' aB aF 5 (aD (aP aC 0 0)) (.sl (k+3) 0 1)):BT Γ k A 19 [] A' [(k+3,⟨5,aB,[[(0:Int),(1:Int),aD (aE aI 0),aD (aE aT 0),aD (aE aI 0)]]⟩)]:=by have u:=F.f;simp only[go_sem]at u;refine bR dD rfl 172 rfl bB ?_;have kp:=jL k;have uU:=u;refine wl ?_;refine kB ⟨?_⟩;(repeat intro ht);apply zN;have uU:=u;refine cR ?_;rfl
def bPP:TI Γ 5 19 5 [(0:Int),(1:Int),aD (aE aI 0),aD (aE aT 0),aD (aE aI 0)]:= @λ A A' k id n cap l F hl hn hn2 hid hone hcap=>by
 have u:=F.f;simp only[go_sem]at u;have o:=dB hid;refine bR dD rfl 172 rfl bB ?_;have kp:=jK (λ i=>if i=id then 0 else i-k+1);have uU:=zA u o;refine wl ?_;refine kB ⟨?_⟩;(repeat intro ht);apply zN;refine cl [.raw (aA 139) ⟨.slc id 0 (n+1) cap,k+3,[(id,aA ⟨5,aB,l++[[aD (aE aH 0),aD (aE aH 1),aD (aE aI 0),aD (aE aT 0),aD (aE aI 0)]]⟩)],[id,k+2]⟩] ?_;refine iA ?_ ?_;.rw[<-jV hl];exact jH (B:=⟨5,aB,l⟩) rfl y9 rfl (sV uU) rfl rfl (jJ (l:=[[aD (aE aH 0),aD (aE aH 1),aD (aE aI 0),aD (aE aT 0),aD (aE aI 0)]]) (sV uU) rfl) rfl oO oO (by show n<=l.length;omega) rfl rfl
 refine jI ?_;have uU:=zA u o;refine cR ?_;rfl
def bPQ:TG Γ 5 19 5 [(0:Int),(1:Int),aD (aE aI 0),aD (aE aT 0),aD (aE aI 0)]:= @λ A A' k id n cap l F hl hn hn2 hid hone hcap=>by
 have u:=F.f;simp only[go_sem]at u;have o:=dB hid;refine bR dD rfl 172 rfl bB ?_;have kp:=jK (λ i=>if i=id then 0 else i-k+1);have uU:=zA u o;refine wl ?_;refine kB ⟨?_⟩;(repeat intro ht);apply zN;refine cl [.raw (aA 139) ⟨.sl (k+3) 0 (n+1),k+4,[(k+3,aA ⟨5,aB,l++[[aD (aE aH 0),aD (aE aH 1),aD (aE aI 0),aD (aE aT 0),aD (aE aI 0)]]⟩)],[id,k+2]⟩] ?_;refine iA ?_ ?_;.exact jX (B:=⟨5,aB,l⟩) rfl y9 rfl (sV uU) rfl rfl rfl (jJ (l:=[[aD (aE aH 0),aD (aE aH 1),aD (aE aI 0),aD (aE aT 0),aD (aE aI 0)]]) (sV uU) rfl) rfl oO oO hl oO oO
 refine jI ?_;have uU:=zA u o;refine cR ?_;rfl
def bPL(F:RowF A A' aB aF 5 (aD (aP aC 0 0)) (.sl (k+3) 0 1)):BT Γ k A 20 [] A' [(k+3,⟨5,aB,[[(0:Int),(1:Int),aD (aE aI 0),aD (aE aT 0),aD (aE aI 5)]]⟩)]:=by have u:=F.f;simp only[go_sem]at u;refine bR dD rfl 172 rfl bB ?_;have kp:=jL k;have uU:=u;refine wl ?_;refine kB ⟨?_⟩;(repeat intro ht);apply zN;have uU:=u;refine cR ?_;rfl
def bPM:TI Γ 5 20 5 [(0:Int),(1:Int),aD (aE aI 0),aD (aE aT 0),aD (aE aI 5)]:= @λ A A' k id n cap l F hl hn hn2 hid hone hcap=>by
 have u:=F.f;simp only[go_sem]at u;have o:=dB hid;refine bR dD rfl 172 rfl bB ?_;have kp:=jK (λ i=>if i=id then 0 else i-k+1);have uU:=zA u o;refine wl ?_;refine kB ⟨?_⟩;(repeat intro ht);apply zN;refine cl [.raw (aA 149) ⟨.slc id 0 (n+1) cap,k+3,[(id,aA ⟨5,aB,l++[[aD (aE aH 0),aD (aE aH 1),aD (aE aI 0),aD (aE aT 0),aD (aE aI 5)]]⟩)],[id,k+2]⟩] ?_;refine iA ?_ ?_;.rw[<-jV hl];exact jH (B:=⟨5,aB,l⟩) rfl y9 rfl (sV uU) rfl rfl (jJ (l:=[[aD (aE aH 0),aD (aE aH 1),aD (aE aI 0),aD (aE aT 0),aD (aE aI 5)]]) (sV uU) rfl) rfl oO oO (by show n<=l.length;omega) rfl rfl
 refine jI ?_;have uU:=zA u o;refine cR ?_;rfl
def bPN:TG Γ 5 20 5 [(0:Int),(1:Int),aD (aE aI 0),aD (aE aT 0),aD (aE aI 5)]:= @λ A A' k id n cap l F hl hn hn2 hid hone hcap=>by
 have u:=F.f;simp only[go_sem]at u;have o:=dB hid;refine bR dD rfl 172 rfl bB ?_;have kp:=jK (λ i=>if i=id then 0 else i-k+1);have uU:=zA u o;refine wl ?_;refine kB ⟨?_⟩;(repeat intro ht);apply zN;refine cl [.raw (aA 149) ⟨.sl (k+3) 0 (n+1),k+4,[(k+3,aA ⟨5,aB,l++[[aD (aE aH 0),aD (aE aH 1),aD (aE aI 0),aD (aE aT 0),aD (aE aI 5)]]⟩)],[id,k+2]⟩] ?_;refine iA ?_ ?_;.exact jX (B:=⟨5,aB,l⟩) rfl y9 rfl (sV uU) rfl rfl rfl (jJ (l:=[[aD (aE aH 0),aD (aE aH 1),aD (aE aI 0),aD (aE aT 0),aD (aE aI 5)]]) (sV uU) rfl) rfl oO oO hl oO oO
 refine jI ?_;have uU:=zA u o;refine cR ?_;rfl
def bPI(F:RowF A A' aB aF 5 (aD (aP aC 0 0)) (.sl (k+3) 0 1)):BT Γ k A 21 [] A' [(k+3,⟨5,aB,[[(1:Int),(1:Int),aD (aE aI 0),aD (aE aT 0),aD (aE aI 5)]]⟩)]:=by have u:=F.f;simp only[go_sem]at u;refine bR dD rfl 172 rfl bB ?_;have kp:=jL k;have uU:=u;refine wl ?_;refine kB ⟨?_⟩;(repeat intro ht);apply zN;have uU:=u;refine cR ?_;rfl
def bPJ:TI Γ 5 21 5 [(1:Int),(1:Int),aD (aE aI 0),aD (aE aT 0),aD (aE aI 5)]:= @λ A A' k id n cap l F hl hn hn2 hid hone hcap=>by
 have u:=F.f;simp only[go_sem]at u;have o:=dB hid;refine bR dD rfl 172 rfl bB ?_;have kp:=jK (λ i=>if i=id then 0 else i-k+1);have uU:=zA u o;refine wl ?_;refine kB ⟨?_⟩;(repeat intro ht);apply zN;refine cl [.raw (aA 159) ⟨.slc id 0 (n+1) cap,k+3,[(id,aA ⟨5,aB,l++[[aD (aE aH 1),aD (aE aH 1),aD (aE aI 0),aD (aE aT 0),aD (aE aI 5)]]⟩)],[id,k+2]⟩] ?_;refine iA ?_ ?_;.rw[<-jV hl];exact jH (B:=⟨5,aB,l⟩) rfl y9 rfl (sV uU) rfl rfl (jJ (l:=[[aD (aE aH 1),aD (aE aH 1),aD (aE aI 0),aD (aE aT 0),aD (aE aI 5)]]) (sV uU) rfl) rfl oO oO (by show n<=l.length;omega) rfl rfl
 refine jI ?_;have uU:=zA u o;refine cR ?_;rfl
def bPK:TG Γ 5 21 5 [(1:Int),(1:Int),aD (aE aI 0),aD (aE aT 0),aD (aE aI 5)]:= @λ A A' k id n cap l F hl hn hn2 hid hone hcap=>by
 have u:=F.f;simp only[go_sem]at u;have o:=dB hid;refine bR dD rfl 172 rfl bB ?_;have kp:=jK (λ i=>if i=id then 0 else i-k+1);have uU:=zA u o;refine wl ?_;refine kB ⟨?_⟩;(repeat intro ht);apply zN;refine cl [.raw (aA 159) ⟨.sl (k+3) 0 (n+1),k+4,[(k+3,aA ⟨5,aB,l++[[aD (aE aH 1),aD (aE aH 1),aD (aE aI 0),aD (aE aT 0),aD (aE aI 5)]]⟩)],[id,k+2]⟩] ?_;refine iA ?_ ?_;.exact jX (B:=⟨5,aB,l⟩) rfl y9 rfl (sV uU) rfl rfl rfl (jJ (l:=[[aD (aE aH 1),aD (aE aH 1),aD (aE aI 0),aD (aE aT 0),aD (aE aI 5)]]) (sV uU) rfl) rfl oO oO hl oO oO
 refine jI ?_;have uU:=zA u o;refine cR ?_;rfl
def bPF(F:RowF A A' aB aF 5 (aD (aP aC 0 0)) (.sl (k+3) 0 1)):BT Γ k A 22 [] A' [(k+3,⟨5,aB,[[(0:Int),(-1:Int),aD (aE aI 0),aD (aE aT 0),aD (aE aI 5)]]⟩)]:=by have u:=F.f;simp only[go_sem]at u;refine bR dD rfl 172 rfl bB ?_;have kp:=jL k;have uU:=u;refine wl ?_;refine kB ⟨?_⟩;(repeat intro ht);apply zN;have uU:=u;refine cR ?_;rfl
def bPG:TI Γ 5 22 5 [(0:Int),(-1:Int),aD (aE aI 0),aD (aE aT 0),aD (aE aI 5)]:= @λ A A' k id n cap l F hl hn hn2 hid hone hcap=>by
 have u:=F.f;simp only[go_sem]at u;have o:=dB hid;refine bR dD rfl 172 rfl bB ?_;have kp:=jK (λ i=>if i=id then 0 else i-k+1);have uU:=zA u o;refine wl ?_;refine kB ⟨?_⟩;(repeat intro ht);apply zN;refine cl [.raw (aA 169) ⟨.slc id 0 (n+1) cap,k+3,[(id,aA ⟨5,aB,l++[[aD (aE aH 0),aD (aE aH (-1)),aD (aE aI 0),aD (aE aT 0),aD (aE aI 5)]]⟩)],[id,k+2]⟩] ?_;refine iA ?_ ?_;.rw[<-jV hl];exact jH (B:=⟨5,aB,l⟩) rfl y9 rfl (sV uU) rfl rfl (jJ (l:=[[aD (aE aH 0),aD (aE aH (-1)),aD (aE aI 0),aD (aE aT 0),aD (aE aI 5)]]) (sV uU) rfl) rfl oO oO (by show n<=l.length;omega) rfl rfl
 refine jI ?_;have uU:=zA u o;refine cR ?_;rfl
def bPH:TG Γ 5 22 5 [(0:Int),(-1:Int),aD (aE aI 0),aD (aE aT 0),aD (aE aI 5)]:= @λ A A' k id n cap l F hl hn hn2 hid hone hcap=>by
 have u:=F.f;simp only[go_sem]at u;have o:=dB hid;refine bR dD rfl 172 rfl bB ?_;have kp:=jK (λ i=>if i=id then 0 else i-k+1);have uU:=zA u o;refine wl ?_;refine kB ⟨?_⟩;(repeat intro ht);apply zN;refine cl [.raw (aA 169) ⟨.sl (k+3) 0 (n+1),k+4,[(k+3,aA ⟨5,aB,l++[[aD (aE aH 0),aD (aE aH (-1)),aD (aE aI 0),aD (aE aT 0),aD (aE aI 5)]]⟩)],[id,k+2]⟩] ?_;refine iA ?_ ?_;.exact jX (B:=⟨5,aB,l⟩) rfl y9 rfl (sV uU) rfl rfl rfl (jJ (l:=[[aD (aE aH 0),aD (aE aH (-1)),aD (aE aI 0),aD (aE aT 0),aD (aE aI 5)]]) (sV uU) rfl) rfl oO oO hl oO oO
 refine jI ?_;have uU:=zA u o;refine cR ?_;rfl
def b23(F:Row6 A aB):BT Γ k A 23 [] A []:=by obtain⟨u1,u2,u3,u4⟩:=F;refine bR dD rfl 172 rfl bB ?_;have kp:=jL k;have uU:=pJ u1 u2 u3 u4;refine wl ?_;refine kB ⟨?_⟩;(repeat intro ht);apply zN;have uU:=pJ u1 u2 u3 u4;refine cR ?_;rfl
end
end Go.Proofs.T
end
section
namespace Go.AM
open Go
def FL.yes {id s:Nat}{l:List (List AVal)}{v:AVal}{Q Q':AQ}(h:FL aB id s l v Q Q'){e:Exit}{kr D sz:Nat}{fr:Fr}{R:List AVal}(j:Nat)(hj:R[j]? =aA v)(hid:id<kr)(hne:D≠id)(hoff:KE id j R=aB)(hf:ID fr id fr)
 (h1:l=[]->v=aD (aP aC 0 0)->Q e kr fr [(D,⟨sz,aB,[R]⟩)]) (h2:l≠[]->Q e kr fr [(id,⟨s,aB,l⟩),(D,⟨sz,aF,[R.set j (.sl id 0 l.length)]⟩)]):Q' e kr fr [(D,⟨sz,aB,[R]⟩)]:=by
 obtain⟨_,⟨rfl,⟨e,_⟩|⟨_,e,e'⟩⟩|⟨hz,hl,u,rfl,rfl⟩⟩:=h;.cases e
 .exact h1 e e'
 refine⟨by simp only[AM.look];rw[iN hne],hid,fr,D,sz,aB,R,R.set j (.sl id 0 l.length),hf,hne,by simp only[AM.look,if_true],sS,λ c v v' q1 q2=>?_,h2 hl⟩;have hjl:=(aL.1 hj).1;by_cases hc:c=j;.subst hc;rw[cE hjl]at q2;rw[hj]at q1;cases q1;cases q2;exact .lit
 rw[iT (Ne.symm hc),q1]at q2;cases q2;exact .same (PW hoff hc q1)
end Go.AM
namespace Go.Proofs.T
open Go Go.AM Go.Proofs
variable{Γ:dW}
attribute [local irreducible] jM del
def bzI:Nat->Nat
 |0=>4
 |3=>10
 |4=>8
 |_=>11
def bzS:Nat->Nat
 |0=>2
 |3=>1
 |4=>8
 |_=>5
def SQ(D:Dl):Nat->List (List AVal)
 |0=>D.ck.map mI
 |3=>D.gn.map nR
 |4=>D.tk.map tR
 |_=>D.sp.map pR
def uZ{α:Type}{R:List α}{p:α->Bool}{x:α}{j:Nat}(h:R.all p=aB)(hx:p x=aB):(R.set j x).all p=aB:=by
 rw[aY]at h⊢
 intro y hy;rcases List.mem_or_eq_of_mem_set hy with h'|rfl;.exact h y h'
 exact hx
def aRM(a b:St)(hq:PreOk a)(hq':PreOk b)(hk:Kinds a)(hk':Kinds b)(he:yF a b=0)(j:Nat)(hj:j=0\/j=3\/j=4\/j=5)(k:Nat):
 AM.Tr aG Γ 21 k [.agg a.cells,.agg b.cells] [] (λ k1 r1 H1=>k1=k+12/\r1= .tup [.agg ((btw a b).cells.set j (dI (k+bzI j) (SQ (btw a b) j))),(0:Int)]/\H1=cM (k+bzI j) (bzS j) (SQ (btw a b) j) []):=by
 have key:∀(Q:Nat->AVal->aS->Prop),(∀k1 H1,IA H1 (cM (k+bzI j) (bzS j) (SQ (btw a b) j) [])->Q k1 (.tup [.agg ((btw a b).cells.set j (dI (k+bzI j) (SQ (btw a b) j))),(0:Int)]) H1)→
  W aG Γ 139 k (gV (gD a7K) []) (AG aG a7K Q) k (tU 0 [.agg a.cells,.agg b.cells]) []:=λ Q hQ=>by
  refine aEI a b hq hq' hk hk' (j==0) (j==3) (j==4) (j==5) k Q (λ h=>absurd he h) (λ _ v0 Q0 h0 v4 Q4 h4 v3 Q3 h3 v Q5 h5=>?_)
  rcases hj with rfl|rfl|rfl|rfl
  · replace hQ:∀k1 H1,IA H1 (cM (k+4) 2 ((btw a b).ck.map mI) [])->Q k1 (.tup [.agg [dI (k+4) ((btw a b).ck.map mI),rows 2 ((btw a b).cu.map mI),rows 2 ((btw a b).wg.map mI),rows 1 ((btw a b).gn.map nR),rows 8 ((btw a b).tk.map tR),rows 5 ((btw a b).sp.map pR)],(0:Int)]) H1:=hQ
    obtain⟨rfl,rfl⟩:=h4.no
    obtain⟨rfl,rfl⟩:=h3.no
    obtain⟨rfl,rfl⟩:=h5.no
    generalize(btw a b).ck.map mI=l at h0 hQ
    refine h0.yes 0 rfl oO oO sL sL (λ e e'=>?_) (λ hl=>?_)
    · subst e;rw[e']
      refine rR ?_<;>first|exact iV|apply zN
      exact⟨_,rfl,hQ _ _ trivial⟩
    · obtain⟨x,r,rfl⟩:=qE hl
      refine rR ?_<;>first|exact iV|apply zN
      exact⟨_,rfl,hQ _ _ sL⟩
  · replace hQ:∀k1 H1,IA H1 (cM (k+10) 1 ((btw a b).gn.map nR) [])->Q k1 (.tup [.agg [rows 2 ((btw a b).ck.map mI),rows 2 ((btw a b).cu.map mI),rows 2 ((btw a b).wg.map mI),dI (k+10) ((btw a b).gn.map nR),rows 8 ((btw a b).tk.map tR),rows 5 ((btw a b).sp.map pR)],(0:Int)]) H1:=hQ
    obtain⟨rfl,rfl⟩:=h0.no
    obtain⟨rfl,rfl⟩:=h4.no
    obtain⟨rfl,rfl⟩:=h5.no
    generalize(btw a b).gn.map nR=l at h3 hQ
    refine h3.yes 3 rfl oO oO sL sL (λ e e'=>?_) (λ hl=>?_)
    · subst e;rw[e']
      refine rR ?_<;>first|exact iV|apply zN
      exact⟨_,rfl,hQ _ _ trivial⟩
    · obtain⟨x,r,rfl⟩:=qE hl
      refine rR ?_<;>first|exact iV|apply zN
      exact⟨_,rfl,hQ _ _ sL⟩
  · replace hQ:∀k1 H1,IA H1 (cM (k+8) 8 ((btw a b).tk.map tR) [])->Q k1 (.tup [.agg [rows 2 ((btw a b).ck.map mI),rows 2 ((btw a b).cu.map mI),rows 2 ((btw a b).wg.map mI),rows 1 ((btw a b).gn.map nR),dI (k+8) ((btw a b).tk.map tR),rows 5 ((btw a b).sp.map pR)],(0:Int)]) H1:=hQ
    obtain⟨rfl,rfl⟩:=h0.no
    obtain⟨rfl,rfl⟩:=h3.no
    obtain⟨rfl,rfl⟩:=h5.no
    generalize(btw a b).tk.map tR=l at h4 hQ
    refine h4.yes 4 rfl oO oO sL sL (λ e e'=>?_) (λ hl=>?_)
    · subst e;rw[e']
      refine rR ?_<;>first|exact iV|apply zN
      exact⟨_,rfl,hQ _ _ trivial⟩
    · obtain⟨x,r,rfl⟩:=qE hl
      refine rR ?_<;>first|exact iV|apply zN
      exact⟨_,rfl,hQ _ _ sL⟩
  · replace hQ:∀k1 H1,IA H1 (cM (k+11) 5 ((btw a b).sp.map pR) [])->Q k1 (.tup [.agg [rows 2 ((btw a b).ck.map mI),rows 2 ((btw a b).cu.map mI),rows 2 ((btw a b).wg.map mI),rows 1 ((btw a b).gn.map nR),rows 8 ((btw a b).tk.map tR),dI (k+11) ((btw a b).sp.map pR)],(0:Int)]) H1:=hQ
    obtain⟨rfl,rfl⟩:=h0.no
    obtain⟨rfl,rfl⟩:=h4.no
    obtain⟨rfl,rfl⟩:=h3.no
    generalize(btw a b).sp.map pR=l at h5 hQ
    refine h5.yes 5 rfl oO oO sL sL (λ e e'=>?_) (λ hl=>?_)
    · subst e;rw[e']
      refine rR ?_<;>first|exact iV|apply zN
      exact⟨_,rfl,hQ _ _ trivial⟩
    · obtain⟨x,r,rfl⟩:=qE hl
      refine rR ?_<;>first|exact iV|apply zN
      exact⟨_,rfl,hQ _ _ sL⟩
 have hz:bzI j<12:=by rcases hj with rfl|rfl|rfl|rfl<;>decide
 refine mO oO ?_ ?_ ?_
 .show((((btw a b).cells.set j (dI (k+bzI j) (SQ (btw a b) j))).all (iL (kC (k+12))))&&aB)=aB;rw[iE];refine uZ rfl ?_
  cases SQ (btw a b) j with
  |nil=>rfl
  |cons x r=>exact decide_eq_true oO
 .cases SQ (btw a b) j with
  |nil=>rfl
  |cons x r=>show(decide (k+bzI j<k+12)&&aB&&aB)=aB;rw[decide_eq_true oO];rfl
 exact bR Tryz.func21 rfl 139 rfl bB (key _ (λ k1 H1 h=>⟨rfl,h⟩))
end Go.Proofs.T
end
section
namespace Go.Proofs.T
open Go Go.AM Go.Proofs
variable{v x y:AVal}{D X:DE}{M:List (List AVal)}{C R cells':List AVal}{j n s:Nat}{p:Nat->Bool}{a b:St}{Hc:aS}
variable{Γ:dW}
attribute [local irreducible] jM del
def DX(hR:R.all clean=aB)(hx:Bor Γ Hc x y)(hle:VLes (R.set j y) cells'):∀(i:Nat) v v',(R.set j x)[i]? =aA v->cells'[i]? =aA v'->Bor Γ Hc v v':=λ i v v' h1 h2=>by
 obtain⟨hl,hv⟩:=hle.spec;have hi:i<R.length:=by have:=(aL.1 h1).1;simpa using this
 by_cases hij:i=j;.subst hij;rw[cE hi]at h1;cases h1;exact Bor.le hx (hv i y v' (by rw[cE hi]) h2)
 rw[iT (Ne.symm hij)]at h1;exact Bor.le (zX (iR hR h1)) (hv i v v' (by rw[iT (Ne.symm hij)];exact h1) h2)
def KW(hR:R.all clean=aB)(hle:VLes R cells'):∀(i:Nat) v v',R[i]? =aA v->cells'[i]? =aA v'->Bor Γ Hc v v':=λ i v v' h1 h2=>
 Bor.le (zX (iR hR h1)) (hle.spec.2 i v v' h1 h2)
def DT(h:R.all clean=aB):R.all (iL p)=aB:=aY.2 λ v hv=>by
 have h1:=aY.1 h v hv
 cases v with
 |fn f cs=>cases cs with
  |nil=>rfl
  |cons=>cases h1
 |_=>first|rfl|cases h1
def lkQ{p:Prop}(h:p:=by simp only[AM.look];repeat(first|rfl|rw[iP rfl]|rw[iN oO])):p:=h
def aXC(tail:∀k0 k,W aG Γ 94 k0 (gV (gD lI) [1,1,1,1,1,1]) (AG aG lI λ _ r1 _=>VLe r1 (aD (bC aB))) k [(8,aF),(9,.rp a.cells),(10,.rp b.cells),(12,.rp D.cells),(14,.rp X.cells)] [])
 {k0 k p9 p10 p12 p14:Nat} {fr:Fr} {H:aS} {c c':Bool} {r r':List AVal} (h8:AM.look fr 8=aA (aD (bC aF))) (h9:AM.look fr 9=aA (.ptr p9 0 0)) (h10:AM.look fr 10=aA (.ptr p10 0 0)) (h12:AM.look fr 12=aA (.ptr p12 0 0)) (h14:AM.look fr 14=aA (.ptr p14 0 0))
 (g9:AM.look H p9=aA ⟨7,aB,[a.cells]⟩) (g10:AM.look H p10=aA ⟨7,aB,[b.cells]⟩) (g12:AM.look H p12=aA ⟨6,c,[r]⟩) (g14:AM.look H p14=aA ⟨6,c',[r']⟩) (l12:r.length=6) (l14:r'.length=6)
 (b12:∀Γ,∀(i:Nat) v v',r[i]? =aA v->D.cells[i]? =aA v'->Bor Γ H v v') (b14:∀Γ,∀(i:Nat) v v',r'[i]? =aA v->X.cells[i]? =aA v'->Bor Γ H v v'):
 W aG Γ 94 k0 (gV (gD lI) [1,1,1,1,1,1]) (AG aG lI λ _ r1 _=>VLe r1 (aD (bC aB))) k fr H:=by
 refine gW (bDM λ Γ t v' hl=>?_) (tail k0 k);simp only[AM.look]at hl;split at hl;.rename_i e;subst e;cases hl;exact⟨_,h8,Bor.lit⟩
 split at hl;.rename_i e;subst e;cases hl;exact⟨_,h9,Bor.ptr g9 rfl rfl (KW rfl (zV _))⟩
 split at hl;.rename_i e;subst e;cases hl;exact⟨_,h10,Bor.ptr g10 rfl rfl (KW rfl (zV _))⟩
 split at hl;.rename_i e;subst e;cases hl;exact⟨_,h12,Bor.ptr g12 rfl l12.symm (b12 Γ)⟩
 split at hl;.rename_i e;subst e;cases hl;exact⟨_,h14,Bor.ptr g14 rfl l14.symm (b14 Γ)⟩
 cases hl
section
variable{x:Nums}{f:Nat->Sm}{a b:St}{nl:Nat}{z w:Int}
def aMB(k:Nat):Kp [0,1,2,3,4,8,9,10,11,12,13,14,15,16,17,18,20,40,53] (λ i=>i-k):=oR
def bFI{C':List AVal}(hw:AM.Pure aG Γ 13 [] aB)(hmade:AM.Pure aG Γ 20 [.agg x.cells,.rd 8 nl (λ i=>smc (f i)),aD (aE bM z)] (.tup [.agg a.cells,.agg b.cells,aB]))
 {m:Int} (hm:(aH.wrap w).tmod 24=m) (hC:Row6 C aB) (hC':Row6 C' aB) (hB:AM.Pure aG Γ 21 [.agg a.cells,.agg b.cells] (.tup [.agg C,(0:Int)])) (hN:AM.Pure aG Γ 18 [.agg C,m] (.agg C'))
 (hCD:VLes C D.cells) (hCX:VLes C' X.cells)
 (tail:∀k0 k,W aG Γ 94 k0 (gV (gD lI) [1,1,1,1,1,1]) (AG aG lI λ _ r1 _=>VLe r1 (aD (bC aB))) k [(8,aF),(9,.rp a.cells),(10,.rp b.cells),(12,.rp D.cells),(14,.rp X.cells)] []):
 AM.Pure aG Γ 7 [.agg x.cells,.rd 8 nl (λ i=>smc (f i)),aD (aE bM z),aD (aE bM w)] aB:=by
 simp only[Nums.cells]at hmade;obtain⟨e1,e2,e3,e4⟩:=id hC;obtain⟨f1,f2,f3,f4⟩:=id hC';have h00:((0:Int)!=0)=aF:=rfl;have e5:C.all (iL λ _=>aF)=aB:=DT hC.cl;refine cA Tryz.func7 rfl 94 rfl bB rfl λ k=>?_;have kp:=aMB k;have uU:=fB @Nums.cells.eq_1 h00 hm e1 e2 e3 e4 e5 (pJ @f1 @f2 @f3 @f4);refine gO ?_;refine sK [.ret aB] ?_;all_goals(try exact hw)
 refine gJ λ ht=>?_;refine xJ [.ret (.tup [.agg a.cells,.agg b.cells,aB])] ?_;refine iA ?_ ?_;all_goals(try exact hmade)
 refine gO ?_;refine xJ [.ret (.tup [.agg C,(0:Int)])] ?_;refine iA ?_ ?_;all_goals(try exact hB)
 refine gJ λ ht=>?_;refine sK [.ret (.agg C')] ?_;all_goals(try exact hN)
 exact aXC tail rfl rfl rfl rfl rfl lkQ lkQ lkQ lkQ hC.len hC'.len (λ _=>KW hC.cl hCD) (λ _=>KW hC'.cl hCX)
def JC{id:Nat}{l m:List (List AVal)}(hB:AM.look Hc id=aA ⟨s,aB,l++m⟩)(hn:l.length=n)(hl:(l.all λ row=>row.length==s&&row.all clean)=aB):Bor Γ Hc (.sl id 0 n) (rows s l):=by
 subst hn;have h:∀row∈l,row.length=s/\row.all clean=aB:=λ row hr=>by have:=aY.1 hl row hr;simpa using this
 exact Bor.sl hB sS (λ i hi=>(h _ (by rw[aU,aN hi];exact zY hi)).1) (λ i row j v v' hi h1 h2 h3=>by simp only[eQ]at h1;rw[gN hi]at h1;rw[aU,h1]at h3;simp only[LB]at h3;rw[h2]at h3;cases h3;exact zX (aY.1 (h row (gL h1)).2 v (gL h2)))
def ZP{id cap:Nat}(h:Bor Γ Hc (.sl id 0 n) v):Bor Γ Hc (.slc id 0 n cap) v:=λ w G ρ H A cv hr hh hv=>h w G ρ H A cv hr hh (IV hv)
def CU{x:AVal}(hl:R.length=6)(ho:R.all AM.one=aB)(hj:j<6)(hx:AM.one x=aB)(hc:clean x=aF):Row6 (R.set j x) aF:=by
 have h6:(R.set j x).length=6:=by rw[jF];exact hl
 refine⟨h6,gU oO,uZ ho hx,?_⟩;rw[dY];intro h;have h1:=iR h (cE (l:=R) (a:=x) (i:=j) oO);rw[hc]at h1;cases h1
def bLM{q m p:Nat}{L:List (List AVal)}(hw:AM.Pure aG Γ 13 [] aB)(hmade:AM.Pure aG Γ 20 [.agg x.cells,.rd 8 nl (λ i=>smc (f i)),aD (aE bM z)] (.tup [.agg a.cells,.agg b.cells,aB]))
 {mm:Int} (hm:(aH.wrap w).tmod 24=mm) (hl:R.length=6) (ho:R.all AM.one=aB) (hc:R.all clean=aB) (hj:j<6) (hq:q<12) (hL:L.length=n) (hM:M.length=m) (hn:0<n) (hLr:(L.all λ row=>row.length==s&&row.all clean)=aB) (hMr:((L++M).all λ row=>row.length==s&&row.all clean)=aB)
 (hB:∀k,AM.Tr aG Γ 21 k [.agg a.cells,.agg b.cells] [] (λ k1 r1 H1=>k1=k+12/\r1= .tup [.agg (R.set j (.sl (k+q) 0 n)),(0:Int)]/\H1=[(k+q,⟨s,aB,L⟩)]))
 (hI:∀k id cap,id<k->n+m<=cap->BT Γ k (R.set j (.slc id 0 n cap)) mm [(id,⟨s,aB,L⟩)] (R.set j (.slc id 0 (n+m) cap)) [(id,⟨s,aB,L++M⟩)])
 (hG:∀k id cap,id<k->cap<n+m->BT Γ k (R.set j (.slc id 0 n cap)) mm [(id,⟨s,aB,L⟩)] (R.set j (.sl (k+p) 0 (n+m))) [(k+p,⟨s,aB,L++M⟩),(id,⟨s,aB,L⟩)])
 (hCD:VLes (R.set j (rows s L)) D.cells) (hCX:VLes (R.set j (rows s (L++M))) X.cells)
 (tail:∀k0 k,W aG Γ 94 k0 (gV (gD lI) [1,1,1,1,1,1]) (AG aG lI λ _ r1 _=>VLe r1 (aD (bC aB))) k [(8,aF),(9,.rp a.cells),(10,.rp b.cells),(12,.rp D.cells),(14,.rp X.cells)] []):
 AM.Pure aG Γ 7 [.agg x.cells,.rd 8 nl (λ i=>smc (f i)),aD (aE bM z),aD (aE bM w)] aB:=by
 simp only[Nums.cells]at hmade;have h00:((0:Int)!=0)=aF:=rfl;refine cA Tryz.func7 rfl 94 rfl bB rfl λ k=>?_;obtain⟨id,eid⟩:=xE (k+3+q);obtain⟨k2,ek2⟩:=xE (k+16+p);obtain⟨A1,eA1⟩:=xE (R.set j (.sl id 0 n));obtain⟨e1,e2,e3,e4⟩:Row6 A1 aF:=by rw[eA1];exact CU hl ho hj rfl rfl
 have hB:=hB (k+3);rw[<-eid,<-eA1]at hB;have kp:=aMB k;have uU:=yI @Nums.cells.eq_1 h00 hm e1 e2 e3 e4;refine gO ?_;refine sK [.ret aB] ?_;all_goals(try exact hw)
 refine gJ λ ht=>?_;refine xJ [.ret (.tup [.agg a.cells,.agg b.cells,aB])] ?_;refine iA ?_ ?_;all_goals(try exact hmade)
 refine gO ?_;refine xJ [.gen (.tup [.agg A1,(0:Int)]) (k+15) [] [(id,⟨s,aB,L⟩)]] ?_;refine iA ?_ ?_;all_goals(try exact hB)
 refine gJ λ ht=>?_;refine bDH (k+15) j (id:=id) (n:=n) (sz:=6) (row:=A1) lkQ (by rw[eA1,cE oO]) hn (B:=⟨s,aB,L⟩) lkQ (λ cap hc1 hc2=>?_);obtain⟨A2,eA2⟩:=xE (R.set j (.slc id 0 n cap));obtain⟨g1,g2,g3,g4⟩:Row6 A2 aF:=by rw[eA2];exact CU hl ho hj rfl rfl
 rw[show A1.set j (.slc id 0 n cap)=A2 by rw[eA1,eA2,List.set_set]];have v2:A2.all (iL (fN [(id,⟨s,aB,L⟩)]))=aB:=by rw[eA2];exact uZ (DT hc) (by simp[iL,fN,AM.look])
 have v1:A2.all (iL (kC (k+16)))=aB:=by rw[eA2];exact uZ (DT hc) (decide_eq_true oO)
 refine gW (nC (k1:=k+16) (fr1:=[(3,aD (aE bM w)),(8,aD (bC aF)),(9,.ptr (k+1) 0 0),(10,.ptr (k+2) 0 0),(12,.ptr (k+15) 0 0)]) (H1:=[(k+15,⟨6,aF,[A2]⟩),(k+1,⟨7,aB,[a.cells]⟩),(k+2,⟨7,aB,[b.cells]⟩),(id,⟨s,aB,L⟩)]) (wW (fB (@Nums.cells.eq_1) (@h00) (@hm) (@e1) (@e2) (@e3) (@e4) (@g1) (GX (@g2) (@g3) (@g4) (@v1) (@v2))))) ?_;by_cases hcap:n+m<=cap
 .have hI:=hI (k+16) id cap oO hcap;obtain⟨A3,eA3⟩:=xE (R.set j (.slc id 0 (n+m) cap));obtain⟨i1,i2,i3,i4⟩:Row6 A3 aF:=by rw[eA3];exact CU hl ho hj rfl rfl
  rw[<-eA2,<-eA3]at hI;have hI:=mO (kk:=k2) (V:= .agg A3) (RH:=[(id,⟨s,aB,L++M⟩)]) oO (show A3.all (iL (kC k2))=aB by rw[eA3];exact uZ (DT hc) (decide_eq_true oO)) (show(decide (id<k2)&&aB&&aB)=aB by rw[decide_eq_true oO];rfl) hI;have uU:=fB @Nums.cells.eq_1 h00 hm e1 e2 e3 e4 g1 (fB g2 g3 g4 v1 v2 i1 i2 i3 i4);refine sK [.gen (.agg A3) k2 [(id,⟨s,aB,L⟩)] [(id,⟨s,aB,L++M⟩)]] ?_;all_goals(try exact hI)
  exact aXC tail rfl rfl rfl rfl rfl lkQ lkQ lkQ lkQ g1 i1 (λ _=>by rw[eA2];exact DX hc (ZP (JC (m:=M) lkQ hL hLr)) hCD) (λ _=>by rw[eA3];exact DX hc (ZP (JC (m:=[]) (by rw[cX];exact lkQ) (by rw[bT,hL,hM]) hMr)) hCX)
 have hG:=hG (k+16) id cap oO oO;obtain⟨A3,eA3⟩:=xE (R.set j (.sl k2 0 (n+m)));obtain⟨i1,i2,i3,i4⟩:Row6 A3 aF:=by rw[eA3];exact CU hl ho hj rfl rfl
 rw[<-ek2,<-eA2,<-eA3]at hG;have hG:=mO (kk:=k2+1) (V:= .agg A3) (RH:=[(k2,⟨s,aB,L++M⟩),(id,⟨s,aB,L⟩)]) oO (show A3.all (iL (kC (k2+1)))=aB by rw[eA3];exact uZ (DT hc) (decide_eq_true oO)) (show(decide (k2<k2+1)&&aB&&(decide (id<k2+1)&&aB&&aB))=aB by rw[decide_eq_true oO,decide_eq_true oO];rfl) hG;have uU:=fB @Nums.cells.eq_1 h00 hm e1 e2 e3 e4 g1 (fB g2 g3 g4 v1 v2 i1 i2 i3 i4);refine sK [.gen (.agg A3) (k2+1) [(id,⟨s,aB,L⟩)] [(k2,⟨s,aB,L++M⟩),(id,⟨s,aB,L⟩)]] ?_;all_goals(try exact hG)
 exact aXC tail rfl rfl rfl rfl rfl lkQ lkQ lkQ lkQ g1 i1 (λ _=>by rw[eA2];exact DX hc (ZP (JC (m:=[]) (by rw[cX];exact lkQ) hL hLr)) hCD) (λ _=>by rw[eA3];exact DX hc (JC (m:=[]) (by rw[cX];exact lkQ) (by rw[bT,hL,hM]) hMr) hCX)
end
def aNU:∀ {us vs:List AVal},us.length=vs.length->(∀(j:Nat) u v,us[j]? =aA u->vs[j]? =aA v->VLe u v)->VLes us vs
 |[],[],_,_=> .nil
 |u::us,v::vs,h,hv=> .cons (hv 0 u v rfl rfl) (aNU (by simpa using h) λ j u v h1 h2=>hv (j+1) u v h1 h2)
 |[],_::_,h,_=>by simp at h
 |_::_,[],h,_=>by simp at h
def EX(x:Dl):VLes x.cells (qP x).cells:= .cons (pY _ _ _ _) (.cons (pY _ _ _ _) (.cons (pY _ _ _ _) (.cons (pY _ _ _ _) (.cons (pY _ _ _ _) (.cons (pY _ _ _ _) .nil)))))
def XZ{D D':Dl}(h:D'.cells=D.cells.set j y)(hv:VLe v y):VLes (D.cells.set j v) (qP D').cells:=aNU (by rw[jF];rfl) λ i u w h1 h2=>by
 have h3:=(EX D').spec.2 i;rw[h]at h3;have hi:i<D.cells.length:=by have:=(aL.1 h1).1;simpa using this
 by_cases hij:i=j;.subst hij;rw[cE hi]at h1;cases h1;exact λ a b c d e f=>h3 y w (cE hi) h2 a b c d e (hv a b c d e f)
 rw[iT (Ne.symm hij)]at h1;exact h3 u w (by rw[iT (Ne.symm hij)];exact h1) h2
def aSX(ma:Ms a)(mb:Ms b)(h2:Two a b)(wn:Nat)(k0 k:Nat):
 W aG Γ 94 k0 (gV (gD lI) [1,1,1,1,1,1]) (AG aG lI λ _ r1 _=>VLe r1 (aD (bC aB))) k [(8,aF),(9,.rp a.cells),(10,.rp b.cells),(12,.rp (qP (btw a b)).cells),(14,.rp (qP (OM (btw a b) wn)).cells)] []:=by
 have hsz:=aLF ma mb;have hbs:=aZQ (btw a b) wn;have sm:=bCM (bCY (w:=wn) (aNL (a:=a) mb.pre).1) (bCZ (w:=wn) (aNL (a:=a) mb.pre).2);obtain⟨X,eX⟩:=xE (OM (btw a b) wn);rw[<-eX]at hbs sm⊢
 have hnt:=ma.nt;obtain⟨law1,law2⟩:=a3A h2 X;have heq:eqD (qP X) (qP (btw a b))=aB↔X=btw a b:=by rw[YZ,aIJ]
 have hpre:SD a (qP X)=0->PreW (MY a (qP X)):=λ h=>by rw[(law2 h).1];exact aNR ma.pre sm oO
 refine a3B (S:=MY a (qP X)) (G:=qP X) (a6W a ma.nrm ma.pre (aKL ma.nrm ma.pre) (qP X) sm oO oO) (aMW (qP X) (qP (btw a b)) oO oO) (λ h=>?_) (λ h=>?_) (λ h=>?_) (λ h=>?_) (λ h=>?_) k0 k;.obtain⟨q1,q2,q3⟩:=law1 h;exact⟨q1,q2,by rw[dY];exact λ h'=>q3 (heq.1 h')⟩
 .have hp:=hpre h;obtain⟨q1,q2,q3,q4⟩:=law2 h;have:=WE (Γ:=Γ) a (MY a (qP X)) ma.pre.pre hp.pre ma.pre.k hp.k;rw[q1,q3,q2.btw.2]at this;rw[q1];exact this
 .have:=aMW (Γ:=Γ) (qP X) (qP X) oO oO;rw[aDP]at this;exact this
 .have hp:=hpre h;obtain⟨q1,q2,q3,q4⟩:=law2 h;rw[q1]at hp⊢
  have:=aKL (Γ:=Γ) q2.nb hp;rw[emp_iff.2 q2.rb]at this;exact this
 have hp:=hpre h;obtain⟨q1,q2,q3,q4⟩:=law2 h;rw[q1]at hp⊢
 have:=bAE (Γ:=Γ) (yG a (qP X)) b hp.sm mb.pre.sm;rw[show stE (yG a (qP X)) b=eqD (qP X) (qP (btw a b))by rw[eY,a2K q2.nb mb.nrm,heq];exact q4]at this;exact this
structure RefH (Γ:dW) (x:Nums) (f:Nat->Sm) (a b:St) (nl:Nat) (z w:Int) (wn:Nat):Prop where
 ma:Ms a
 mb:Ms b
 h2:Two a b
 hw:AM.Pure aG Γ 13 [] aB
 made:AM.Pure aG Γ 20 [.agg x.cells,.rd 8 nl (λ i=>smc (f i)),aD (aE bM z)] (.tup [.agg a.cells,.agg b.cells,aB])
 hm:(aH.wrap w).tmod 24=(wn:Int)
abbrev a7M(Γ:dW)(x:Nums)(f:Nat->Sm)(nl:Nat)(z w:Int):Prop:=AM.Pure aG Γ 7 [.agg x.cells,.rd 8 nl (λ i=>smc (f i)),aD (aE bM z),aD (aE bM w)] (aD (bC aB))
def XJ(hl:R.length=6)(ho:R.all AM.one=aB)(hc:R.all clean=aB)(hj:j<6)(hx:AM.one x=aB):Row6 (R.set j x) (clean x):=by
 cases h:clean x with
 |false=>exact CU hl ho hj hx h
 |true=>
  have h6:(R.set j x).length=6:=by rw[jF];exact hl
  exact⟨h6,gU oO,uZ ho hx,uZ hc h⟩
def a2W(x y:AVal)(hl:R.length=6)(ho:R.all AM.one=aB)(hc:R.all clean=aB)(hj:j<6)(hx:AM.one x=aB)(hy:AM.one y=aB):RowF (R.set j x) (R.set j y) (clean x) (clean y) j x y:=by
 refine⟨XJ hl ho hc hj hx,XJ hl ho hc hj hy,cE oO,?_⟩
 match R,hl,j,hj with
 |[_,_,_,_,_,_],_,0,_=>rfl
 |[_,_,_,_,_,_],_,1,_=>rfl
 |[_,_,_,_,_,_],_,2,_=>rfl
 |[_,_,_,_,_,_],_,3,_=>rfl
 |[_,_,_,_,_,_],_,4,_=>rfl
 |[_,_,_,_,_,_],_,5,_=>rfl
def aZP{u:Value}(h:C.all clean=aB):Bor Γ Hc (.tup [.agg C,.lit u]) (.tup [.agg C,.lit u]):=Bor.tup rfl λ i v v' h1 h2=>by
 match i with
 |0=>cases h1;cases h2;exact Bor.agg rfl (KW h (zV _))
 |1=>cases h1;cases h2;exact Bor.lit
 |i+2=>simp at h1
def aNS(i:Nat)(L:List (List AVal)):AM.one (dI i L)=aB:=by cases L<;>rfl
section
variable{x:Nums}{f:Nat->Sm}{a b:St}{nl wn:Nat}{z w:Int}
def a8H(h:RefH Γ x f a b nl z w wn){q:Nat}(hB:AM.Pure aG Γ 21 [.agg a.cells,.agg b.cells] (.tup [.agg C,(0:Int)]))(rC:Row6 C aB)(hj:j<6)(hCD:VLes C (qP (btw a b)).cells)
 (hN:∀k,BT Γ k C wn [] (C.set j (dI (k+q) M)) (cM (k+q) s M [])) (hM:(M.all λ row=>row.length==s&&row.all clean)=aB) (hCX:VLes (C.set j (rows s M)) (qP (OM (btw a b) wn)).cells):a7M Γ x f nl z w:=by
 refine bFI h.hw h.made h.hm rC (XJ (x:=rows s M) rC.len rC.on rC.cl hj rfl) hB (tX λ k=>(hN k).mono ?_) hCD hCX (aSX h.ma h.mb h.h2 wn);rintro k1 r1 H1 ⟨rfl,hH⟩;refine Bor.agg sS (DX rC.cl ?_ (zV _))
 cases M with
 |nil=>exact Bor.le Bor.lit (VLe.nil _ _)
 |cons y r=>exact JC (m:=[]) (by rw[cX];exact hH.1) rfl hM
def aKO(h:RefH Γ x f a b nl z w wn):AM.Pure aG Γ 21 [.agg a.cells,.agg b.cells] (.tup [.agg (btw a b).cells,(0:Int)]):=by have:=aNN (Γ:=Γ) a b h.ma.pre.pre h.mb.pre.pre h.ma.pre.k h.mb.pre.k;rw[h.h2.btw.2]at this;exact this
def CW(h:RefH Γ x f a b nl z w wn)(j:Nat){u:AVal}(M:List (List AVal))(hj:j<6)(hu:(btw a b).cells=(btw a b).cells.set j u)(hu1:AM.one u=aB)(hu2:clean u=aB)(hN:∀ {A A':List AVal} {k:Nat},RowF A A' aB (clean (dI (k+2) M)) j u (dI (k+2) M)->BT Γ k A wn [] A' (cM (k+2) s M []))
 (hM:(M.all λ row=>row.length==s&&row.all clean)=aB) (hX:(OM (btw a b) wn).cells=(btw a b).cells.set j (rows s M)):a7M Γ x f nl z w:=
 a8H h (q:=2) (aKO h) ⟨rfl,rfl,rfl,rfl⟩ hj (EX _) (λ k=>hN (by have:=a2W (R:=(btw a b).cells) u (dI (k+2) M) rfl rfl rfl hj hu1 (aNS _ _);rw[<-hu,hu2]at this;exact this)) hM (XZ hX (bL _))
def aZJ(D:Dl)(hj:j=0\/j=3\/j=4\/j=5):D.cells=D.cells.set j (rows (bzS j) (SQ D j)):=by rcases hj with rfl|rfl|rfl|rfl<;>rfl
def bIW(D:Dl)(hj:j=0\/j=3\/j=4\/j=5):((SQ D j).all λ row=>row.length==bzS j&&row.all clean)=aB/\((SQ D j).all λ row=>row.all AM.one)=aB:=by rcases hj with rfl|rfl|rfl|rfl<;>(unfold SQ;simp only[List.all_map,aY];exact⟨λ _ _=>rfl,λ _ _=>rfl⟩)
def bCU(D:Dl)(hj:j=0\/j=3\/j=4\/j=5):(SQ D j).length<=(qP D).size:=by rw[(DR D).1];rcases hj with rfl|rfl|rfl|rfl<;>(unfold SQ;simp only[dG];omega)
def uI(h:RefH Γ x f a b nl z w wn){p:Nat}(hj:j=0\/j=3\/j=4\/j=5)(M:List (List AVal)->List (List AVal))(hM:∀l,(l.all λ row=>row.length==bzS j&&row.all clean)=aB->((M l).all λ row=>row.length==bzS j&&row.all clean)=aB)
 (hX:(OM (btw a b) wn).cells=(btw a b).cells.set j (rows (bzS j) (SQ (btw a b) j++M (SQ (btw a b) j))))
 (hN:∀ {A A':List AVal} {k:Nat},RowF A A' aB (clean (dI (k+3) (M []))) j (aD (aP aC 0 0)) (dI (k+3) (M []))->BT Γ k A wn [] A' (cM (k+3) (bzS j) (M []) []))
 (hI:∀ {A A':List AVal} {k id n cap:Nat} {l:List (List AVal)},RowF A A' aF aF j (.slc id 0 n cap) (.slc id 0 (n+(M l).length) cap)->l.length=n->0<n->n<=100000->id<k->(l.all λ row=>row.all AM.one)=aB->n+(M l).length<=cap->BT Γ k A wn [(id,⟨bzS j,aB,l⟩)] A' [(id,⟨bzS j,aB,l++M l⟩)])
 (hG:∀ {A A':List AVal} {k id n cap:Nat} {l:List (List AVal)},RowF A A' aF aF j (.slc id 0 n cap) (.sl (k+p) 0 (n+(M l).length))->l.length=n->0<n->n<=100000->id<k->(l.all λ row=>row.all AM.one)=aB->cap<n+(M l).length->BT Γ k A wn [(id,⟨bzS j,aB,l⟩)] A' [(k+p,⟨bzS j,aB,l++M l⟩),(id,⟨bzS j,aB,l⟩)]):a7M Γ x f nl z w:=by
 have hz:=aRM (Γ:=Γ) a b h.ma.pre.pre h.mb.pre.pre h.ma.pre.k h.mb.pre.k h.h2.btw.2 j hj;have hcl:=aZJ (btw a b) hj;obtain⟨hwf,hon⟩:=bIW (btw a b) hj;have hlen:=bCU (btw a b) hj;have hsz:=aLF h.ma h.mb;have hq:bzI j<12/\j<6:=by rcases hj with rfl|rfl|rfl|rfl<;>decide
 by_cases he:SQ (btw a b) j=[]
 .rw[he]at hz hcl hX;refine a8H h (q:=3) (s:=bzS j) (M:=M []) (tX λ k=>(hz k).mono ?_) (XJ (x:=aD (aP aC 0 0)) rfl rfl rfl hq.2 rfl) hq.2 (XZ hcl (VLe.nil _ _)) (λ k=>hN ?_) (hM [] rfl) (by rw[List.set_set];exact XZ hX (bL _));.rintro k1 r1 H1 ⟨_,rfl,rfl⟩;exact aZP (uZ rfl rfl)
  have:=a2W (R:=(btw a b).cells) (aD (aP aC 0 0)) (dI (k+3) (M [])) rfl rfl rfl hq.2 rfl (aNS _ _);rw[List.set_set];exact this
 obtain⟨n,en⟩:∃n,(SQ (btw a b) j).length=n:=⟨_,rfl⟩;have hn:0<n:=by rw[<-en];exact List.length_pos_iff.2 he
 have hacc:∀i,dI i (SQ (btw a b) j)= .sl i 0 n/\cM i (bzS j) (SQ (btw a b) j) []=[(i,⟨bzS j,aB,SQ (btw a b) j⟩)]:=λ i=>by
  obtain⟨y,r,e⟩:=qE he;rw[e]at en⊢
  rw[<-en];exact⟨rfl,rfl⟩
 refine bLM (p:=p) (q:=bzI j) (s:=bzS j) (L:=SQ (btw a b) j) (M:=M (SQ (btw a b) j)) h.hw h.made h.hm rfl rfl rfl hq.2 hq.1 en rfl hn hwf (by rw[List.all_append,hwf,hM _ hwf];rfl) (λ k=>?_) (λ k id cap h1 h2=>hI (a2W _ _ rfl rfl rfl hq.2 rfl rfl) en hn oO h1 hon h2)
  (λ k id cap h1 h2=>hG (a2W _ _ rfl rfl rfl hq.2 rfl rfl) en hn oO h1 hon h2) (by rw[<-hcl];exact EX _) (by rw[<-hX];exact EX _) (aSX h.ma h.mb h.h2 wn)
 have:=hz k;rw[(hacc _).1,(hacc _).2]at this;exact this
end
def TJ(hw:AM.Pure aG Γ 13 [] aB)(x:Nums)(hx:NumsOk x)(f:Nat->Sm)(hf:∀i,SmOk (f i))(nl:Nat)(hnl:nl<=9223372036854775807)(z:Int)(hz0:0<=z)(hz1:z<=255)(y:Int)(hy0:0<=y)(hy1:y<=255):a7M Γ x f nl z y:=by
 obtain⟨n,ng,Ls,hM⟩:=aWA (Γ:=Γ) x hx f hf;obtain⟨q,hq⟩:=xE (min nl 40);obtain⟨c,hc⟩:∃c:Nat,z%((q:Int)+1)=(c:Int):=⟨(z%((q:Int)+1)).toNat,(gY (a7T _ oO)).symm⟩;have hcq:c<=q:=by have:=BL z (oO:(0:Int)<(q:Int)+1);omega
 obtain⟨wn,hwn⟩:∃wn:Nat,(aH.wrap y).tmod 24=(wn:Int):=⟨(y%24).toNat,by rw[wrap_i64 oO oO,dU hy0];omega⟩;have hlt:wn<24:=by rw[wrap_i64 oO oO,dU hy0]at hwn;omega
 have h:RefH Γ x f (Ls c).st (Ls q).st nl z y wn:=⟨hM.ms (i:=c) oO,hM.ms (i:=q) oO,hM.two (i:=c) (j:=q) oO oO,hw,hM.made nl z q c hq hnl hz0 hz1 hc,hwn⟩
 match wn,hlt,h with
 |0,_,h=>exact CW h 0 [] dC rfl rfl rfl b0 rfl rfl
 |1,_,h=>exact uI h (.inl rfl) (λ l=>l) (λ _ h=>h) (by simp only[OM,Dl.cells,aQ];rfl) b1n (λ F hl=>by subst hl;exact b1i F rfl) (λ F hl=>by subst hl;exact b1g F rfl)
 |2,_,h=>exact uI h (.inl rfl) (λ _=>[[.lit (.int .i64 1),.lit (.int .i64 0)]]) (λ _ h=>rfl) (by simp only[OM,Dl.cells,aQ];rfl) b2n b2i b2g
 |3,_,h=>exact uI h (.inl rfl) (λ _=>[[.lit (.int .i64 2),.lit (.int .i64 1)]]) (λ _ h=>rfl) (by simp only[OM,Dl.cells,aQ];rfl) b3n b3i b3g
 |4,_,h=>exact CW h 0 [[.lit (.int .i64 1),.lit (.int .i64 5)],[.lit (.int .i64 0),.lit (.int .i64 4)]] dC rfl rfl rfl b4 rfl rfl
 |5,_,h=>exact CW h 0 [[.lit (.int .i64 0),.lit (.int .i64 (-1))]] dC rfl rfl rfl b5 rfl rfl
 |6,_,h=>exact CW h 1 [] dC rfl rfl rfl b6 rfl rfl
 |7,_,h=>exact CW h 1 [[.lit (.int .i64 1),.lit (.int .i64 5)]] dC rfl rfl rfl b7 rfl rfl
 |8,_,h=>exact CW h 2 [[.lit (.int .i64 0),.lit (.int .i64 2)]] dC rfl rfl rfl b8 rfl rfl
 |9,_,h=>exact CW h 2 [[.lit (.int .i64 (-1)),.lit (.int .i64 2)]] dC rfl rfl rfl b9 rfl rfl
 |10,_,h=>exact uI h (.inr (.inl rfl)) (λ _=>[[.lit (.int .i64 5)]]) (λ _ h=>rfl) (by simp only[OM,Dl.cells,aQ];rfl) bQF bQG bQH
 |11,_,h=>exact CW h 3 [[.lit (.int .i64 7)]] dC rfl rfl rfl b11 rfl rfl
 |12,_,h=>exact CW h 3 [] dC rfl rfl rfl b12 rfl rfl
 |13,_,h=>exact uI h (.inr (.inr (.inl rfl))) (λ l=>l) (λ _ h=>h) (by simp only[OM,Dl.cells,aQ];rfl) bQB (λ F hl=>by subst hl;exact bQC F rfl) (λ F hl=>by subst hl;exact bQD F rfl)
 |14,_,h=>exact CW h 4 [] dC rfl rfl rfl b14 rfl rfl
 |15,_,h=>exact uI h (.inr (.inr (.inl rfl))) (λ _=>[[.lit (.int .i64 4),.lit (.int .i64 0),.lit (.int .i64 1),.lit (.int .i64 0),.lit (.int .u64 1),.lit (.bool aF),.lit (.int .u64 0),.lit (.int .u32 0)]]) (λ _ h=>rfl) (by simp only[OM,Dl.cells,aQ];rfl) bPX bPY bPZ
 |16,_,h=>exact uI h (.inr (.inr (.inl rfl))) (λ _=>[[.lit (.int .i64 9),.lit (.int .i64 0),.lit (.int .i64 1),.lit (.int .i64 0),.lit (.int .u64 1),.lit (.bool aF),.lit (.int .u64 0),.lit (.int .u32 1)]]) (λ _ h=>rfl) (by simp only[OM,Dl.cells,aQ];rfl) bPU bPV bPW
 |17,_,h=>exact CW h 5 [] dC rfl rfl rfl b17 rfl rfl
 |18,_,h=>exact uI h (.inr (.inr (.inr rfl))) (λ l=>l) (λ _ h=>h) (by simp only[OM,Dl.cells,aQ];rfl) bPR (λ F hl=>by subst hl;exact bPS F rfl) (λ F hl=>by subst hl;exact bPT F rfl)
 |19,_,h=>exact uI h (.inr (.inr (.inr rfl))) (λ _=>[[.lit (.int .i64 0),.lit (.int .i64 1),.lit (.int .u64 0),.lit (.int .u32 0),.lit (.int .u64 0)]]) (λ _ h=>rfl) (by simp only[OM,Dl.cells,aQ];rfl) bPO bPP bPQ
 |20,_,h=>exact uI h (.inr (.inr (.inr rfl))) (λ _=>[[.lit (.int .i64 0),.lit (.int .i64 1),.lit (.int .u64 0),.lit (.int .u32 0),.lit (.int .u64 5)]]) (λ _ h=>rfl) (by simp only[OM,Dl.cells,aQ];rfl) bPL bPM bPN
 |21,_,h=>exact uI h (.inr (.inr (.inr rfl))) (λ _=>[[.lit (.int .i64 1),.lit (.int .i64 1),.lit (.int .u64 0),.lit (.int .u32 0),.lit (.int .u64 5)]]) (λ _ h=>rfl) (by simp only[OM,Dl.cells,aQ];rfl) bPI bPJ bPK
 |22,_,h=>exact uI h (.inr (.inr (.inr rfl))) (λ _=>[[.lit (.int .i64 0),.lit (.int .i64 (-1)),.lit (.int .u64 0),.lit (.int .u32 0),.lit (.int .u64 5)]]) (λ _ h=>rfl) (by simp only[OM,Dl.cells,aQ];rfl) bPF bPG bPH
 |23,_,h=>exact bFI h.hw h.made h.hm ⟨rfl,rfl,rfl,rfl⟩ ⟨rfl,rfl,rfl,rfl⟩ (aKO h) (tX λ k=>(b23 ⟨rfl,rfl,rfl,rfl⟩).mono (by rintro k1 r1 H1 ⟨rfl,_⟩;exact Bor.agg rfl (KW rfl (zV _)))) (EX _) (EX _) (aSX h.ma h.mb h.h2 23)
 |wn+24,hlt,_=>omega
end Go.Proofs.T
end
section
namespace Go.Proofs.T
open Go Go.AM Go.Proofs Go.ChangeShapes Go.WideShapes Go.ChangeAt Go.WideMaps Go.WideElems Go.RowKit Go.Proofs.YteimiejbhhgljaaGreatDoor
variable{n:Int}{k:IntKind}{e:TypeId}
section
variable{H:Type}{enc:TypeId×Value->H}{P:Program}{w:World}{base:Nat}{sp:Nat->Bool}{held:Bool}{fuel:Nat}{t:TypeId}{cs:List Value}{x:DataW H×List MemPlace}{G:Nat->Prop}
def bFU{cs:List Value}(h:cs.length=13):∃a b c d0 d1 d2 d3 d4 e0 e1 e2 e3 e4,cs=[a,b,c,d0,d1,d2,d3,d4,e0,e1,e2,e3,e4]:=by
 match cs,h with
 |[a,b,c,d0,d1,d2,d3,d4,e0,e1,e2,e3,e4],_=>exact⟨a,b,c,d0,d1,d2,d3,d4,e0,e1,e2,e3,e4,rfl⟩
def vR(h:(Lit.int .u8 n).wf=aB):0<=n/\n<=255:=by simp[Lit.wf]at h;have e1:bM.min=0:=rfl;have e2:bM.max=255:=rfl;omega
def aKC(h:(Lit.int .u16 n).wf=aB):0<=n/\n<=65535:=by simp[Lit.wf]at h;have e1:IntKind.u16.min=0:=rfl;have e2:IntKind.u16.max=65535:=rfl;omega
def aAT(h:(Lit.int .u32 n).wf=aB):0<=n/\n<=4294967295:=by simp[Lit.wf]at h;have e1:aT.min=0:=rfl;have e2:aT.max=4294967295:=rfl;omega
def aDU{c0 c1 c2 c3 c4:Value}(ht:P.underlying t=aA (.array 5 e))(he:P.underlying e=aA (.int k))(hc:P.cellsOf e=1)(h:DataW.trod enc P w base sp held fuel t [c0,c1,c2,c3,c4]=aA x):
 ∃f:Nat->Int,(∀i,i<5->(Lit.int k (f i)).wf=aB)/\Dec w G [aD (aE k (f 0)),aD (aE k (f 1)),aD (aE k (f 2)),aD (aE k (f 3)),aD (aE k (f 4))] [c0,c1,c2,c3,c4]:=by
 obtain⟨xs,m,_,_,_,hl,hx⟩:=DataW.trod_array ht h;rw[hc]at hx;have each:∀i (hi:i<5) c,([c0,c1,c2,c3,c4].drop (i*1)).take 1=[c]->∃n,Dec w G [aD (aE k n)] [c]/\(Lit.int k n).wf=aB:=λ i hi c hcx=>by have h1:=hx i hi;rw[hcx,aN oO]at h1;exact qC he h1
 obtain⟨a0,d0,w0⟩:=each 0 oO c0 rfl;obtain⟨a1,d1,w1⟩:=each 1 oO c1 rfl;obtain⟨a2,d2,w2⟩:=each 2 oO c2 rfl;obtain⟨a3,d3,w3⟩:=each 3 oO c3 rfl;obtain⟨a4,d4,w4⟩:=each 4 oO c4 rfl;refine⟨λ i=>[a0,a1,a2,a3,a4].getD i 0,λ i hi=>?_,d0.app (d1.app (d2.app (d3.app d4)))⟩
 match i,hi with
 |0,_=>exact w0
 |1,_=>exact w1
 |2,_=>exact w2
 |3,_=>exact w3
 |4,_=>exact w4
def aYM(h:DataW.trod enc aG w base sp held fuel 55 cs=aA x):∃a:Nums,NumsOk a/\Dec w G a.cells cs:=by obtain⟨hl,m,hf⟩:=VY Tryz.underlying55 h;have hl13:cs.length=13:=hl.trans kRf;obtain⟨c0,c1,c2,p0,p1,p2,p3,p4,w0,w1,w2,w3,w4,rfl⟩:=bFU hl13;obtain⟨_,h0⟩:=hf 0 _ rfl;obtain⟨_,h1⟩:=hf 1 _ rfl;obtain⟨_,h2⟩:=hf 2 _ rfl;obtain⟨_,h3⟩:=hf 3 _ rfl;obtain⟨_,h4⟩:=hf 4 _ rfl;obtain⟨a0,d0,r0⟩:=qC (G:=G) gX h0;obtain⟨a1,d1,r1⟩:=qC (G:=G) gX h1;obtain⟨a2,d2,r2⟩:=qC (G:=G) bJD h2;obtain⟨f,r3,d3⟩:=aDU (G:=G) Tryz.underlying51 gX kRf h3;obtain⟨g,r4,d4⟩:=aDU (G:=G) Tryz.underlying53 Tryz.underlying52 kRf h4;have e0:=vR r0;have e1:=vR r1;have e2:=aAT r2;exact⟨⟨a0,a1,a2,f,g⟩,⟨e0.1,e0.2,e1.1,e1.2,e2.1,e2.2,λ i hi=>vR (r3 i hi),λ i hi=>aKC (r4 i hi)⟩,d0.app (d1.app (d2.app (d3.app d4)))⟩
def aRB{n:Nat}{y:DataW H×List MemPlace}(hl:cs.length=8)(h:DataW.trod enc aG w base sp held n 162 cs=aA y):∃a:Sm,SmOk a/\Dec w G (smc a) cs:=by obtain⟨_,m,hf⟩:=VY Tryz.underlying162 h;obtain⟨c0,c1,c2,c3,c4,c5,c6,c7,rfl⟩:=bMC hl;obtain⟨_,h0⟩:=hf 0 _ rfl;obtain⟨_,h1⟩:=hf 1 _ rfl;obtain⟨_,h2⟩:=hf 2 _ rfl;obtain⟨_,h3⟩:=hf 3 _ rfl;obtain⟨_,h4⟩:=hf 4 _ rfl;obtain⟨_,h5⟩:=hf 5 _ rfl;obtain⟨_,h6⟩:=hf 6 _ rfl;obtain⟨_,h7⟩:=hf 7 _ rfl;obtain⟨a0,d0,r0⟩:=qC (G:=G) gX h0;obtain⟨a1,d1,r1⟩:=qC (G:=G) gX h1;obtain⟨a2,d2,r2⟩:=qC (G:=G) gX h2;obtain⟨a3,d3,r3⟩:=qC (G:=G) gX h3;obtain⟨a4,d4,r4⟩:=qC (G:=G) gX h4;obtain⟨a5,d5,r5⟩:=qC (G:=G) Tryz.underlying52 h5;obtain⟨a6,d6,r6⟩:=qC (G:=G) bJD h6;obtain⟨a7,d7,r7⟩:=qC (G:=G) gX h7;exact⟨⟨a0,a1,a2,a3,a4,a5,a6,a7⟩,⟨vR r0,vR r1,vR r2,vR r3,vR r4,aKC r5,aAT r6,vR r7⟩,d0.app (d1.app (d2.app (d3.app (d4.app (d5.app (d6.app d7))))))⟩
def aIM(hG:∀b,b<w.heap.size->G b)(h:DataW.trod enc aG w base sp held fuel 56 cs=aA x):∃(n:Nat) (f:Nat->Sm),(∀i,SmOk (f i))/\Dec w G [.rd 8 n (λ i=>smc (f i))] cs:=
 aRC (G:=G) smc SmOk ⟨0,0,0,0,0,0,0,0⟩ ⟨sS,sS,sS,sS,sS,sS,sS,sS⟩ (sz:=8) oO Tryz.underlying56 kRf hG (λ n cs y hl hy=>aRB hl hy) h
end
section
variable{H:Type}{enc:TypeId×Value->H}{W:World}{d:DataW H}{p:List MemPlace}{r:Reach}{base:Nat}{v:Value}
def a3T(ho:Value.okWide aG W r base 55 v)(h:DataW.Trod enc aG W 0 (λ _=>aB) aB 55 v d p):
 ∃a:Nums,NumsOk a/\V W (λ b=>b<W.heap.size) bX cQ (.agg a.cells) v:=by unfold Value.okWide at ho;rw[Tryz.underlying55]at ho;obtain⟨cs,rfl,_⟩:=ho;obtain⟨fuel,h⟩:=h;obtain⟨a,ha,hd⟩:=aYM (G:=λ b=>b<W.heap.size) h;exact⟨a,ha,a7J hd⟩
def aOT(ho:Value.okWide aG W r base 56 v)(h:DataW.Trod enc aG W 0 (λ _=>aB) aB 56 v d p):
 ∃(n:Nat) (f:Nat->Sm),n<=9223372036854775807/\(∀i,SmOk (f i))/\V W (λ b=>b<W.heap.size) bX cQ (.rd 8 n (λ i=>smc (f i))) v:=by
 obtain⟨a,len,cap,rfl⟩:=okWide_slice Tryz.underlying56 ho;obtain⟨fuel,h⟩:=h;obtain⟨n,f,hf,hd⟩:=aIM (G:=λ b=>b<W.heap.size) (λ b hb=>hb) h;obtain⟨c,hc,hv⟩:=hd.2 0 _ rfl;have e:c= .slice a len cap:=by simp[Value.cells]at hc;exact hc.symm
 subst e;refine⟨n,f,?_,hf,hv⟩
 cases hv with
 |rd0=>omega
 |rd _ _ _ h=>exact h
end
end Go.Proofs.T
end
