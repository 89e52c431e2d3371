import Derived.Test.YteimiejbhhgljaaGreatDoorZAI
import Derived.Maps.Keyed
import Derived.Carry
import Derived.Maps.RangeRun
import Derived.Shelf.SortG.Plain
import Derived.Shelf.SortG.SortNone
import Derived.Ground.SlgnProg
import Derived.Test.YteimiejbhhgljaaGreatDoorProg
set_option linter.unusedVariables false
set_option linter.defProp false
set_option linter.unusedSimpArgs false
set_option maxHeartbeats 0
set_option maxRecDepth 100000
open Go.AM.AVal renaming lit->aD
open Array renaming ext->aJX,ext'->bJL,getD_eq_getD_getElem?->aM,getElem?_eq_getElem->aW,getElem?_eq_none->iS,getElem?_eq_some_iff->dK,getElem?_modify->TV,getElem?_setIfInBounds_ne->mA,getElem?_toList->bH,length_toList->qR
open Bool renaming and_eq_false_iff->BQ,and_eq_true->aO,and_false->MN,and_true->iE,eq_false_iff->dY,eq_iff_iff->eY,false->aF,false_eq_true->bP,not_eq_false'->jZ,not_eq_true->bVK,not_eq_true'->dV,or_eq_true->gQ,true->aB,true_and->lZ
open Int renaming natCast_nonneg->tC,tmod_eq_emod_of_nonneg->dU,toNat_natCast->bW,toNat_of_nonneg->gY
open Go.IntKind renaming i64->aH,u32->aT,u64->aI,u8->bM
open List renaming Pairwise->vH,Perm->iF,all_cons->gI,all_eq_true->aY,all_nil->BK,append_assoc->dA,append_nil->cX,cons_append->bA,eq_nil_of_length_eq_zero->jE,ext_getElem?->fF,filter_append->OT,filter_congr->bJJ,filter_cons->bVJ,filter_eq_self->xK,find?_eq_none->a7S,getD->oZ,getD_eq_getElem?_getD->aU,getElem?_append_left->gN,getElem?_append_right->iY,getElem?_cons_succ->fY,getElem?_cons_zero->lY,getElem?_eq_getElem->aN,getElem?_eq_none->bE,getElem?_eq_some_iff->aL,getElem?_map->aV,getElem?_set->dS,getElem?_set_ne->iT,getElem?_set_self->cE,getElem?_toArray->cH,getElem_mem->zY,isEmpty_cons->aAE,isEmpty_nil->bVI,length_append->bT,length_cons->iI,length_map->dG,length_replicate->gP,length_set->jF,map->tB,map_append->aQ,map_congr_left->fR,map_cons->bN,map_map->kT,map_nil->bV,mem_append->dJ,mem_cons->fO,mem_cons_of_mem->dZ,mem_filter->lK,mem_iff_getElem->uP,mem_map->dM,mem_of_getElem?->gL,mem_range->dX,mem_singleton->tA,nil_append->aZ,pairwise_append->bWF,pairwise_iff_getElem->CI,pairwise_lt_range->bEF,pairwise_map->FK,range->aR,replicate->bI,size_toArray->fE
open Nat renaming add_assoc->gM,add_comm->bQQ,add_mul->cW,add_sub_cancel->a7O,add_sub_cancel_left->kJ,add_zero->kG,div_add_mod->FJ,div_lt_of_lt_mul->aEZ,eq_zero_or_pos->a7N,le_refl->aJ,le_succ->mG,lt_irrefl->oX,lt_of_lt_of_le->oW,lt_succ_self->cY,lt_trichotomy->kR,mod_eq_of_lt->LC,mul_comm->jN,mul_one->JK,not_lt_zero->bU,sub_self->TT,sub_zero->vN,zero_add->eQ,zero_le->bF,zero_mul->rT
open Option renaming bind_eq_some_iff->cJ,isSome_iff_exists->fU,isSome_none->sZ,map_eq_none_iff->dL,map_eq_some_iff->aK,map_none->lJ,map_some->bO,none->aC,some->aA
open Or renaming inl->dE,inr->dP
open Go.Result renaming andThen->ML,andThen_ok->bJ
open Go.Sem renaming run_bind->bS,run_pure->dO
open Go.Proofs.Tryz renaming prog->aG,underlying3->aNW,underlying5->gX,underlying50->bJD,underlying9->aNV
open Go.Value renaming bool->bC,int->aE,slice->aP,string->dN
section
namespace Go.Proofs.T
open Go Go.AM Go.Proofs
variable{Γ:dW}
structure OpnOk (o:Opn):Prop where
 k1:1<=o.kind
 k2:o.kind<=10
 m0:0<=o.mask
 m1:o.mask<18446744073709551616
def opF(kd:Int):FuncId:=if kd=1 then 88 else if kd=2 then 89 else if kd=3 then 90 else if kd=4 then 90 else if kd=5 then 91 else if kd=6 then 92 else if kd=7 then 93 else if kd=8 then 94 else if kd=9 then 95 else 96
def bAS(L:LSt)(n:Nat)(hS:Rt0 L n)(o:Opn)(hl:L.tl.length<1000)(ho:OpnOk o)(m tk k:Nat)(hm:m+6+L.sl.length<=tk)(hk:tk<k):OpOk Γ (opF o.kind) L n o m tk k:=by
 unfold opF;repeat' split
 .exact bFD L n hS o hl ⟨ho.m0,ho.m1⟩ m tk k hm hk
 .exact bFG L n hS o m tk k hm hk
 .exact a8R L n hS o m tk k hm hk
 .exact a8R L n hS o m tk k hm hk
 .exact bKU L n hS o m tk k hm hk
 .exact pick L n hS o m tk k hm hk
 .exact aUJ L n hS o m tk k hm hk
 .exact a2Z L n hS o m tk k hm hk
 .exact a4B L n hS o m tk k hm hk
 exact a6T L n hS o m tk k hm hk
def a8C(m:Nat):List (List AVal):=[[.bfn 88 m 0 0],[.bfn 89 m 0 0],[.bfn 90 m 0 0],[.bfn 90 m 0 0],[.bfn 91 m 0 0],[.bfn 92 m 0 0],[.bfn 93 m 0 0],[.bfn 94 m 0 0],[.bfn 95 m 0 0],[.bfn 96 m 0 0]]
def aOO{m:Nat}{kd:Int}(h1:1<=kd)(h2:kd<=10):(a8C m)[(kd-1).toNat]? =aA [.bfn (opF kd) m 0 0]:=by
 obtain⟨q,rfl⟩:∃q:Nat,kd=(q:Int)+1:=⟨(kd-1).toNat,oO⟩;have hq:q<10:=oO;have e:((q:Int)+1-1).toNat=q:=oO;rw[e]
 match q,hq with
 |0,_=>rfl
 |1,_=>rfl
 |2,_=>rfl
 |3,_=>rfl
 |4,_=>rfl
 |5,_=>rfl
 |6,_=>rfl
 |7,_=>rfl
 |8,_=>rfl
 |9,_=>rfl
 |q+10,h=>omega
def aUY{kd:Int}:aX aG (opF kd)=aB:=by
 unfold opF;repeat' split
 all_goals(first|exact y16|exact tf_callable_89|exact tf_callable_90|exact tf_callable_91|exact tf_callable_92|exact tf_callable_93|exact tf_callable_94|exact tf_callable_95|exact tf_callable_96)
def mdo(L:LSt)(n:Nat)(hS:Rt L n)(o:Opn)(hl:L.tl.length<1000)(ho:OpnOk o)(m tk k:Nat)(hm:m+6+L.sl.length<=tk)(hk:tk<k):
 ∃ L' a e tk' k',Rt L' n/\Later L L'/\L'.tl.length<=L.tl.length+1/\m+6+L.sl.length<=tk'/\tk'<k'/\(tk'=tk\/k<=tk')/\k<=k'∧
   Tr aG Γ 33 k [.ptr m 0 0,.agg (gS o)] (MH m tk L) (λ k1 r1 H1=>k1=k'/\r1=kM a e/\H1=MH m tk' L'):=by
 obtain⟨M,a,e,tk',k',hM,⟨hF,hU⟩,h1,⟨h2,h2'⟩,h3,hT⟩:=bAS L n hS.r0 o hl ho m tk (k+2) hm oO (Γ:=Γ);have hMl:=hF.ns;have hkd:bM.wrap (o.kind-1)=o.kind-1:=oS (by have:=ho.k1;omega) (by have:=ho.k2;omega);have hko:=ho.k1;have hk2:=ho.k2;have hget:=aOO (m:=m) hko hk2;obtain⟨SR,eSR⟩:=xE (a8C m);rw[<-eSR]at hget;have hSRl:SR.length=10:=by rw[eSR];rfl
 have hcal:aX aG (opF o.kind)=aB:=aUY;simp only[gS,kM]at hT;by_cases he:e=0
 .obtain⟨hR,hRf,hRF,hRt⟩:=aUI hM;have hrise:=bLL M n hM m tk' k' oO h2 (Γ:=Γ);have hRl:=hRF.ns;have hLat:=hF.later.trans hRF.later;refine⟨yP M n,a,0,tk',k',⟨hR,hRf,aRI hS.r0 hR hLat hS.cfg⟩,hLat,by rw[hRt];exact hF.nt,h1,h2,oO,oO,?_⟩;subst he;obtain⟨RH,eRH⟩:=xE (MH m tk' (yP M n):aS);obtain⟨RV,eRV⟩:=xE (kM a 0:AVal);refine uG (kk:=k') eRV eRH rfl (fX oO oO) (bR Tryz.func33 rfl 67 rfl bB ?_);simp only[MH,LH];have kp:Kp [0,1,3,4,5,6,7,8,17,49,62] (λ i=>if k<=i then i-k+1 else 0):=oR;have uU:=hkd;refine uV ?_;refine kB (qS λ ht ht hg=>?_);rw[show([[.bfn 88 m 0 0],[.bfn 89 m 0 0],[.bfn 90 m 0 0],[.bfn 90 m 0 0],[.bfn 91 m 0 0],[.bfn 92 m 0 0],[.bfn 93 m 0 0],[.bfn 94 m 0 0],[.bfn 95 m 0 0],[.bfn 96 m 0 0]]:List (List AVal))=SR by rw[eSR];rfl];refine aNY rfl [0,1,3,4,5,6,7,8,17,49,62] [.far (.tup [a,(0:Int)]) k' [(k+1,⟨1,aF,SR⟩),(k,⟨8,aB,[gS o]⟩)] (MH m tk L) (MH m tk' M)] kRf rfl (λ K hK=>?_);simp-dsimp-implicitDefEqProofs (disch:=omega)only[go_sem,iO,hkd,hget,hSRl,hcal,↓reduceIte];(repeat'(first|(refine And.intro ?_ ?_)|(refine lR (λ hb=>?_) (λ hb=>?_)<;>(have hg:=hb;(try simp only[nfb]at hg);simp-dsimp-implicitDefEqProofs (disch:=omega)only[go_sem,iO,hkd,hget,hSRl,hcal,hb,hg,↓reduceIte];clear hb;(try simp only[nfe]at hg)))));(all_goals(try omega));.intro q;simp only[MH,LH,fS,gS,bA,aZ]
  .exact mQ (λ i hi=>by simp only[AM.look];repeat(rw[iN oO])) hMl
  refine hK _ _ _ _ (aYF (by simp only[bN,bV,shC,aAE,bVI,List.isEmpty_map,a1E,DK,MN];rfl) (by decide+kernel) (by simp only[gI,BK,iE,lZ];exact GL (fX oO oO) (fX oO oO))) (λ hx=>?_)
  clear hx hK;simp only[MH,LH];have uU:=pJ hkd hget hSRl hcal;refine fM ?_;refine fC λ ht=>?_;refine mS [.far (.tup []) k' [(k+1,⟨1,aF,SR⟩),(k,⟨8,aB,[gS o]⟩)] (MH m tk' M) (MH m tk' (yP M n))] ?_;refine kS (zs ?_) (zs ?_) (zs ?_);.intro q;simp only[MH,LH,fS,gS,bA,aZ]
  .exact mQ (λ i hi=>by simp only[AM.look];repeat(rw[iN oO])) hRl
  simp only[MH,LH];refine fM ?_;refine fW ?_;have uU:=pJ hkd hget hSRl hcal;refine kX ?_;refine⟨?_,?_⟩;.rw[eRV];rfl
  rw[eRH];simp only[MH,LH];exact mX iV
 obtain rfl:M=L:=hU.resolve_left he;refine⟨M,0,e,tk',k',hS,LF M,mG _,h1,h2,oO,oO,?_⟩;obtain⟨RH,eRH⟩:=xE (MH m tk' M:aS);obtain⟨RV,eRV⟩:=xE (kM 0 e:AVal);refine uG (kk:=k') eRV eRH rfl (fX oO oO) (bR Tryz.func33 rfl 67 rfl bB ?_);simp only[MH,LH];have kp:Kp [0,1,3,4,5,6,7,8,17,49,62] (λ i=>if k<=i then i-k+1 else 0):=oR;have uU:=hkd;refine uV ?_;refine kB (qS λ ht ht hg=>?_);rw[show([[.bfn 88 m 0 0],[.bfn 89 m 0 0],[.bfn 90 m 0 0],[.bfn 90 m 0 0],[.bfn 91 m 0 0],[.bfn 92 m 0 0],[.bfn 93 m 0 0],[.bfn 94 m 0 0],[.bfn 95 m 0 0],[.bfn 96 m 0 0]]:List (List AVal))=SR by rw[eSR];rfl];refine aNY rfl [0,1,3,4,5,6,7,8,17,49,62] [.far (.tup [a,e]) k' [(k+1,⟨1,aF,SR⟩),(k,⟨8,aB,[gS o]⟩)] (MH m tk M) (MH m tk' M)] kRf rfl (λ K hK=>?_);simp-dsimp-implicitDefEqProofs (disch:=omega)only[go_sem,iO,hkd,hget,hSRl,hcal,↓reduceIte];(repeat'(first|(refine And.intro ?_ ?_)|(refine lR (λ hb=>?_) (λ hb=>?_)<;>(have hg:=hb;(try simp only[nfb]at hg);simp-dsimp-implicitDefEqProofs (disch:=omega)only[go_sem,iO,hkd,hget,hSRl,hcal,hb,hg,↓reduceIte];clear hb;(try simp only[nfe]at hg)))));(all_goals(try omega));.intro q;simp only[MH,LH,fS,gS,bA,aZ]
 .exact mQ (λ i hi=>by simp only[AM.look];repeat(rw[iN oO])) hMl
 refine hK _ _ _ _ (aYF (by simp only[bN,bV,shC,aAE,bVI,List.isEmpty_map,a1E,DK,MN];rfl) (by decide+kernel) (by simp only[gI,BK,iE,lZ];exact GL (fX oO oO) (fX oO oO))) (λ hx=>?_)
 clear hx hK;simp only[MH,LH];have uU:=pJ hkd hget hSRl hcal;refine fM ?_;refine fC λ ht=>?_;have uU:=pJ hkd hget hSRl hcal;refine kX ?_;refine⟨?_,?_⟩;.rw[eRV];rfl
 rw[eRH];simp only[MH,LH];exact mX iV
structure Sm where
 kind:Int
 cpu:Int
 task:Int
 group:Int
 to:Int
 weight:Int
 ticks:Int
 mask:Int
def smc(x:Sm):List AVal:=[aD (aE bM x.kind),aD (aE bM x.cpu),aD (aE bM x.task),aD (aE bM x.group),aD (aE bM x.to),aD (aE .u16 x.weight),aD (aE aT x.ticks),aD (aE bM x.mask)]
structure SmOk (x:Sm):Prop where
 k0:0<=x.kind/\x.kind<=255
 c0:0<=x.cpu/\x.cpu<=255
 t0:0<=x.task/\x.task<=255
 g0:0<=x.group/\x.group<=255
 o0:0<=x.to/\x.to<=255
 w0:0<=x.weight/\x.weight<=65535
 i0:0<=x.ticks/\x.ticks<=4294967295
 m0:0<=x.mask/\x.mask<=255
def kindL:List Int:=[1,1,1,2,2,3,3,4,5,5,5,5,6,6,6,6,7,8,9,10]
def aCA(to cpu:Int):Int:=aI.wrap ((BitVec.ofInt aI.bits (aI.wrap (aI.wrap (1*2^min (1+to).toNat 64)-1))|||BitVec.ofInt aI.bits (aI.wrap (1*2^min cpu.toNat 64))).toNat:Int)
def UO(x:Sm):Opn:=⟨kindL.getD (x.kind%20).toNat 0,x.cpu%4,1+x.task%12,x.group%6,1+x.weight,x.to%4,1+x.ticks%16777216,if x.mask%4>0 then aCA (x.to%4) (x.cpu%4)else x.mask⟩
def opL(f:Nat->Sm)(i:Nat):List (List AVal):=(aR i).map λ j=>gS (UO (f j))
def aUX(f:Nat->Sm):opL f 0=[]:=rfl
def aBW(f:Nat->Sm)(i:Nat):opL f (i+1)=opL f i++[gS (UO (f i))]:=PN
def aKZ(f:Nat->Sm)(i:Nat):(opL f i).length=i:=by simp[opL]
attribute [go_sem] aKZ smc
def aWR{q:Nat}(h:q<20):(kindL.map λ k=>aD (.int .u8 k))[q]? =aA (aD (aE bM (kindL.getD q 0))):=by have:q<kindL.length:=h;simp[oZ,this]
def a4G(f:Nat->Sm)(hf:∀i,SmOk (f i))(nl most q:Nat)(hq:q=min nl most)(hn:q<=1000)(hm2:most<=1000)(hnl:nl<=9223372036854775807):AM.Pure aG Γ 32 [.rd 8 nl (λ i=>smc (f i)),most] (.rd 8 q (λ i=>gS (UO (f i)))):=by
 refine cA Tryz.func32 rfl 79 rfl bB rfl λ k=>?_;have e0:(if(nl:Int)<(most:Int)then(nl:Int)else(most:Int))=(q:Int):=by split<;>omega
 have e1:(if(most:Int)<(nl:Int)then(most:Int)else(nl:Int))=(q:Int):=by split<;>omega
 have kp:=kN k [0,1,4,5,7,8,14,15,16,17,53];have uU:=zA e0 e1;refine jI ?_;refine cD (X:=Nat) rfl [0,1,4,5,7,8,14,15,16,17,53] (k+1) (λ i=>[(16,i),(5,dI k (opL f i))]) (λ i=>cM k 8 (opL f i) []) (λ i=>i<=q) (λ i=>q-i) 0 ?_ (bF _) ?_;.rw[aUX];refine gG ?_;exact nC (wV (And.intro (@e0) (@e1)))
 intro i hi;obtain⟨hk0,hc0,ht0,hg0,ho0,hw0,hi0,hm0⟩:=hf i;obtain⟨y,ey⟩:=xE (f i);rw[<-ey]at hk0 hc0 ht0 hg0 ho0 hw0 hi0 hm0;have hqi:(((q-0:Nat):Int))=(q:Int):=oO;have uU:=zA hqi @vN;refine gG ?_;by_cases hi2:i<q
 .have a1:aH.wrap y.cpu=y.cpu:=wrap_i64 oO oO;have a2:aH.wrap y.task=y.task:=wrap_i64 oO oO;have a3:aH.wrap y.group=y.group:=wrap_i64 oO oO;have a4:aH.wrap y.to=y.to:=wrap_i64 oO oO;have a5:aH.wrap y.weight=y.weight:=wrap_i64 oO oO;have a6:aI.wrap y.mask=y.mask:=wrap_u64 oO oO;have b1:y.cpu.tmod 4=y.cpu%4:=dU oO;have b2:y.task.tmod 12=y.task%12:=dU oO;have b3:y.group.tmod 6=y.group%6:=dU oO;have b4:y.to.tmod 4=y.to%4:=dU oO;have b5:y.ticks.tmod 16777216=y.ticks%16777216:=dU oO;have b6:y.mask.tmod 4=y.mask%4:=dU oO;have b7:y.kind.tmod 20=y.kind%20:=dU oO;have c1:aH.wrap (y.cpu%4)=y.cpu%4:=wrap_i64 oO oO;have c2:aH.wrap (y.task%12)=y.task%12:=wrap_i64 oO oO;have c3:aH.wrap (y.group%6)=y.group%6:=wrap_i64 oO oO;have c4:aH.wrap (y.to%4)=y.to%4:=wrap_i64 oO oO;have c5:aT.wrap (y.ticks%16777216)=y.ticks%16777216:=wrap_u32 oO oO;have c6:bM.wrap (y.mask%4)=y.mask%4:=oS oO oO;have c7:bM.wrap (y.kind%20)=y.kind%20:=oS oO oO;have d1:aH.wrap (1+y.task%12)=1+y.task%12:=wrap_i64 oO oO;have d2:aH.wrap (1+y.weight)=1+y.weight:=wrap_i64 oO oO;have d3:aH.wrap (y.ticks%16777216)=y.ticks%16777216:=wrap_i64 oO oO;have d4:aH.wrap (1+y.ticks%16777216)=1+y.ticks%16777216:=wrap_i64 oO oO;have d5:aH.wrap (1+y.to%4)=1+y.to%4:=wrap_i64 oO oO;obtain⟨q1,hq1⟩:∃q1:Nat,y.kind%20=(q1:Int):=⟨(y.kind%20).toNat,oO⟩;have g1:=aWR (q:=q1) oO;simp only[kindL,bN,bV]at g1;rw[<-JK q1]at g1;have hq20:(0<=(q1:Int)/\(q1:Int)<20)=True:=eq_true oO;have s1:(1+y.to%4<0)=False:=eq_false oO;have s2:(y.cpu%4<0)=False:=eq_false oO;have ey2:=ey.symm;have uU:=fB hqi @vN ey2 a1 a2 a3 a4 a5 (fB a6 b1 b2 b3 @b4 @b5 @b6 @b7 (fB c1 c2 c3 c4 c5 c6 c7 d1 (fB d2 d3 d4 d5 hq1 g1 hq20 s1 s2)));refine wl ?_;refine WS (gB λ ht ht=>?_) (gB λ ht ht=>?_)
  .refine⟨i+1,oO,oO,?_⟩;have ho:gS (UO (f i))=[aD (aE bM ([1,1,1,2,2,3,3,4,5,5,5,5,6,6,6,6,7,8,9,10].getD (q1*1) 0)),aD (aE aH (y.cpu%4)),aD (aE aH (1+y.task%12)),aD (aE aH (y.group%6)),aD (aE aH (1+y.weight)),aD (aE aH (y.to%4)),aD (aE aH (1+y.ticks%16777216)),aD (aE aI (aCA (y.to%4) (y.cpu%4)))]:=by rw[<-ey];simp only[gS,UO,hq1,bW,JK,kindL];rw[iP oO];first|rfl|skip
   rw[aCA]at ho;rw[aBW,ho];refine gG ?_;exact FI (k+4) k (wV (fB (@hqi) (@vN) (@ey2) (@a1) (@a2) (@a3) (@a4) (@a5) (fB (@a6) (@b1) (@b2) (@b3) (@b4) (@b5) (@b6) (@b7) (fB (@c1) (@c2) (@c3) (@c4) (@c5) (@c6) (@c7) (@d1) (fB (@d2) (@d3) (@d4) (@d5) (@hq1) (@g1) (@hq20) (@s1) (@s2))))))
  refine⟨i+1,oO,oO,?_⟩;have ho:gS (UO (f i))=[aD (aE bM ([1,1,1,2,2,3,3,4,5,5,5,5,6,6,6,6,7,8,9,10].getD (q1*1) 0)),aD (aE aH (y.cpu%4)),aD (aE aH (1+y.task%12)),aD (aE aH (y.group%6)),aD (aE aH (1+y.weight)),aD (aE aH (y.to%4)),aD (aE aH (1+y.ticks%16777216)),aD (aE aI y.mask)]:=by rw[<-ey];simp only[gS,UO,hq1,bW,JK,kindL];rw[iN oO];first|rfl|skip
  rw[aBW,ho];refine gG ?_;exact FI (k+4) k (wV (fB (@hqi) (@vN) (@ey2) (@a1) (@a2) (@a3) (@a4) (@a5) (fB (@a6) (@b1) (@b2) (@b3) (@b4) (@b5) (@b6) (@b7) (fB (@c1) (@c2) (@c3) (@c4) (@c5) (@c6) (@c7) (@d1) (fB (@d2) (@d3) (@d4) (@d5) (@hq1) (@g1) (@hq20) (@s1) (@s2))))))
 have hi':i=q:=oO;subst hi';refine sP λ ht=>?_;refine aJW rfl (id:=k) (s:=8) (l:=opL f i) 4 (sV uU) (sV uU) ⟨_,rfl,?_⟩;rw[rows,aKZ];exact xF _ _ _
def a3X(a b:Int):0<=aCA a b/\aCA a b<18446744073709551616:=by unfold aCA;rw[IntKind.wrap_u64];omega
def bAR{x:Sm}(hx:SmOk x):OpnOk (UO x):=by
 have hk:=hx.k0;have hm:=hx.m0;obtain⟨q,hq⟩:∃q:Nat,x.kind%20=(q:Int):=⟨(x.kind%20).toNat,oO⟩;have hq2:q<20:=oO;have hkd:(UO x).kind=kindL.getD q 0:=by simp only[UO,hq,bW]
 have hall:∀q,q<20->1<=kindL.getD q 0/\kindL.getD q 0<=10:=by decide
 have:=hall q hq2
 have hmask:0<=(UO x).mask/\(UO x).mask<18446744073709551616:=by
  show 0<=(if x.mask%4>0 then aCA (x.to%4) (x.cpu%4)else x.mask)/\(if x.mask%4>0 then aCA (x.to%4) (x.cpu%4)else x.mask)<18446744073709551616;split;.exact a3X _ _
  omega
 exact⟨oO,oO,hmask.1,hmask.2⟩
end Go.Proofs.T
end
section
namespace Go.AM
open Go
section
variable{P:Program}{Γ:dW}
def a0V{f:FuncId}{args:List AVal}{r:AVal}(ha:args.all (bd λ _=>aF)=aB)(hr:bd (λ _=>aF) r=aB)(hT:Tr P Γ f 0 args [] (λ _ r1 _=>VLe r1 r)):Pure P Γ f args r:=λ k=>by
 intro A hA w G ρ cargs hr0 hvs;have hρ:ρ=bX:=funext λ id=>hr0.dom id rfl;subst hρ
 have hno:∀w1 G1 ρ1 A1 A2 u cu,V w1 G1 ρ1 A1 u cu->bd (λ _=>aF) u=aB->V w1 G1 ρ1 A2 u cu:=λ w1 G1 ρ1 A1 A2 u cu h hb=>
  (aEX h hb).mono (λ _ h=>h) (λ _ _=>rfl) (λ _ _=>rfl) (λ i hi=>by simp at hi) (λ _ _=>dP rfl)
 refine(hT cQ (λ i hi=>hi.elim) w G bX cargs ⟨λ _ _=>rfl,λ id B A' hid=>by simp[bK,look]at hid,hr0.inj,hr0.ro,hr0.glob⟩ ⟨hvs.1,λ j u hj=>hno _ _ _ _ _ _ _ (hvs.2 j u hj) (iR ha hj)⟩).mono ?_;rintro e w' ⟨cv,G',ρ',k1,r1,H1,rfl,hle,hk1,hrel1,hv1,hst⟩;refine⟨cv,λ b=>G' b\/mK ρ' b,bX,k,r,[],rfl,⟨rfl,rfl,rfl⟩,aJ _,hrel1.fz,?_,⟨hst.size,hst.keep,hst.shape,λ b hb=> .inl (hst.g b hb),λ b hb=>hb.elim (hst.g' b) (λ h=> .inr (hst.own b h)),λ b ⟨_,_,h⟩=>(by cases h),λ id _=> .inl rfl,hst.os,hst.tape,hst.output⟩⟩;exact(aEX (hle _ _ _ _ _ hv1) hr).mono (λ _ h=>dE h) (λ _ _=>rfl) (λ _ _=>rfl) (λ i hi=>by simp at hi) (λ i hi=>by simp at hi)
end
end Go.AM
namespace Go.Proofs.T
open Go Go.AM Go.Proofs
variable{L0:LSt}{n:Nat}{Ls:Nat->LSt}{o:Nat->Opn}
variable{Γ:dW}
structure Did (Γ:dW) (n ns m T k i:Nat) (o:Opn) (L:LSt) (z:LSt×(Int×Int)×(Nat×Nat)):Prop where
 rt:Rt z.1 n
 nt:z.1.tl.length<=i+1
 nsl:z.1.sl.length=ns
 lat:Later L z.1
 tk:m+6+ns<=z.2.2.1
 tk2:z.2.2.1<z.2.2.2
 tk3:z.2.2.1=T\/k<=z.2.2.1
 kk:k<=z.2.2.2
 tr:Tr aG Γ 33 k [.ptr m 0 0,.agg (gS o)] (MH m T L) (λ k1 r1 H1=>k1=z.2.2.2/\r1=kM z.2.1.1 z.2.1.2/\H1=MH m z.2.2.1 z.1)
structure Runs (Γ:dW) (n ns m T k:Nat) (o:Nat->Opn) (L0:LSt) (Ls:Nat->LSt) (zs:Nat->LSt×(Int×Int)×(Nat×Nat)):Prop where
 z:Ls 0=L0
 s:∀i,Ls (i+1)=(zs i).1
 rt:∀i,i<=900->Rt (Ls i) n/\(Ls i).tl.length<=i/\(Ls i).sl.length=ns
 did:∀i,i<900->Did Γ n ns m T k i (o i) (Ls i) (zs i)
def a2U(Γ:dW)(h:Rt L0 n)(h0:L0.tl=[])(o:Nat->Opn)(ho:∀i,OpnOk (o i))(m T k:Nat)(hm:m+6+L0.sl.length<=T)(hk:T<k):∃Ls zs,Runs Γ n L0.sl.length m T k o L0 Ls zs:=by
 obtain⟨ns,ens⟩:=xE L0.sl.length;rw[<-ens]at hm⊢
 have step:∀x:Nat×LSt,∃z,(x.1<900->Rt x.2 n->x.2.tl.length<=x.1->x.2.sl.length=ns->Did Γ n ns m T k x.1 (o x.1) x.2 z):=by
  rintro⟨i,L⟩;by_cases hc:i<900/\Rt L n/\L.tl.length<=i/\L.sl.length=ns;.obtain⟨h1,h2,h3,h4⟩:=hc;obtain⟨L',a,e,tk',k',r1,r2,r3,r4,r5,r6,r7,r8⟩:=mdo L n h2 (o i) oO (ho i) m T k oO hk (Γ:=Γ);exact⟨(L',(a,e),(tk',k')),λ _ _ _ _=>⟨r1,by show L'.tl.length<=i+1;omega,by show L'.sl.length=ns;rw[r2.ns,h4],r2,by show m+6+ns<=tk';omega,r5,r6,r7,r8⟩⟩
  exact⟨(L,(0,0),(0,0)),λ h1 h2 h3 h4=>absurd ⟨h1,h2,h3,h4⟩ hc⟩
 obtain⟨F,hF⟩:=Classical.axiomOfChoice step;let Ls:Nat->LSt:=λ i=>Nat.rec L0 (λ i L=>(F (i,L)).1) i;have hs:∀i,Ls (i+1)=(F (i,Ls i)).1:=λ i=>rfl
 have hrt:∀i,i<=900->Rt (Ls i) n/\(Ls i).tl.length<=i/\(Ls i).sl.length=ns:=λ i=>by
  induction i with
  |zero=>exact λ _=>⟨h,by show L0.tl.length<=0;rw[h0];exact aJ _,ens.symm⟩
  |succ i ih=>intro hi;obtain⟨a1,a2,a3⟩:=ih oO;have:=hF (i,Ls i) (by show i<900;omega) a1 a2 a3;rw[hs];exact⟨this.rt,this.nt,this.nsl⟩
 exact⟨Ls,λ i=>F (i,Ls i),⟨rfl,hs,hrt,λ i hi=>by obtain⟨a1,a2,a3⟩:=hrt i oO;exact hF (i,Ls i) hi a1 a2 a3⟩⟩
def Runs.later{ns m T k:Nat}{zs:Nat->LSt×(Int×Int)×(Nat×Nat)}(h:Runs Γ n ns m T k o L0 Ls zs):∀ {i j:Nat},i<=j->j<=900->Later (Ls i) (Ls j):=λ {i j} hij=>by
 induction j with
 |zero=>intro _;obtain rfl:i=0:=oO;exact LF _
 |succ j ih=>
  intro hj;by_cases e:i=j+1;.subst e;exact LF _
  have:=(h.did j oO).lat;rw[<-h.s j]at this;exact(ih oO oO).trans this
end Go.Proofs.T
end
section
namespace Go.Proofs.T
open Go Go.AM Go.Proofs
variable{Γ:dW}
def zst7:List AVal:=[aD (aE aH 0),aD (aE aI 0),aD (aP aC 0 0),aD (aP aC 0 0),aD (aP aC 0 0),aD (aP aC 0 0),aD (aP aC 0 0)]
end Go.Proofs.T
end
section
namespace Go.AM
open Go
def VLe.rds {s n:Nat}{f g:Nat->List AVal}(h:∀i,i<n->VLes (f i) (g i)):VLe (.rd s n f) (.rd s n g):=λ w G ρ A cv hv=>by
 cases hv with
 |rd0=>exact .rd0
 |rd gg a1 a2 a3 a4 a5 a6=>
  have key:∀i j v,i<n->(g i)[j]? =aA v->∃u,(f i)[j]? =aA u/\VLe u v:=λ i j v hi hj=>by
   obtain⟨h1,h2⟩:=(h i hi).spec;have hlt:j<(f i).length:=by have:=(aL.1 hj).1;omega
   exact⟨_,aN hlt,h2 j _ v (aN hlt) hj⟩
  refine .rd gg a1 a2 a3 (λ i hi=>by rw[←((h i hi).spec).1];exact a4 i hi) (λ i j v hi hj=>?_) (λ i j v hi hj=>?_);.obtain⟨u,hu,_⟩:=key i j v hi hj;exact a5 i j u hi hu
  obtain⟨u,hu,hle⟩:=key i j v hi hj;exact hle _ _ _ _ _ (a6 i j u hi hu)
def bDK{P:Program}{Γ:dW}{f:FuncId}{k:Nat}{args args':List AVal}{Hc:aS}{Q:Nat->AVal->aS->Prop}(h:Tr P Γ f k args' Hc Q)(hle:VLes args args'):Tr P Γ f k args Hc Q:=by
 intro A hA w G ρ cargs hrel hvs;have hle:=hle.spec
 exact h A hA w G ρ cargs hrel ⟨by rw[<-hle.1];exact hvs.1,λ j v hj=>by
  have hlt:j<args.length:=by have:=(aL.1 hj).1;have:=hle.1;omega
  exact hle.2 j _ _ (aN hlt) hj _ _ _ _ _ (hvs.2 j _ (aN hlt))⟩
end Go.AM
end
section
namespace Go.Proofs.T
open Go Go.AM Go.Proofs
variable{s:St}
def uH(s:St):LSt:=⟨s.cpus,s.credit,(aR s.ng).map λ g=>(s.par g,s.wt g),(aR s.nk).map s.clk,(aR s.nu).map s.cur,(aR s.nt).map s.tsk,(aR s.ns).map λ g=>(aR (s.nsp g)).map (s.sp g)⟩
def lU{α:Type}{n i:Nat}{f:Nat->α}{d:α}(h:i<n):((aR n).map f).getD i d=f i:=by simp[aU,h]
def a9P(s:St):VLe (.agg s.cells) (.agg (uH s).st.cells):=by
 have e1:(uH s).st.ng=s.ng:=by simp[uH,LSt.st]
 have e2:(uH s).st.nk=s.nk:=by simp[uH,LSt.st]
 have e3:(uH s).st.nu=s.nu:=by simp[uH,LSt.st]
 have e4:(uH s).st.nt=s.nt:=by simp[uH,LSt.st]
 have e5:(uH s).st.ns=s.ns:=by simp[uH,LSt.st]
 refine BH (.cons (bL _) (.cons (bL _) (.cons ?_ (.cons ?_ (.cons ?_ (.cons ?_ (.cons ?_ .nil)))))));.rw[e1];refine VLe.rd λ i hi=>?_;simp only[gf,uH,LSt.st];rw[lU hi]
 .rw[e2];refine VLe.rd λ i hi=>?_;simp only[kf,uH,LSt.st];rw[lU hi]
 .rw[e3];refine VLe.rd λ i hi=>?_;simp only[uf,uH,LSt.st];rw[lU hi]
 .rw[e4];refine VLe.rd λ i hi=>?_;simp only[tf,uH,LSt.st];rw[lU hi]
 rw[e5];refine VLe.rds λ i hi=> .cons ?_ .nil;have e6:(uH s).st.nsp i=s.nsp i:=by show(((uH s).sl.getD i []).length)=_;simp only[uH];rw[lU hi];simp
 rw[e6];refine VLe.rd λ c hc=>?_;have e7:(uH s).st.sp i c=s.sp i c:=by show((uH s).sl.getD i []).getD c default=_;simp only[uH];rw[lU hi,lU hc]
 simp only[sf,e7]
def TkR(t:Tk):Prop:=0<=t.mask/\t.mask<18446744073709551616/\0<=t.v/\t.v<=18446744073709551615/\0<=t.r
def SpR(x:Sp):Prop:=0<=x.v/\x.v<=18446744073709551615/\0<=x.r/\0<=x.floor/\x.floor<=18446744073709551615
structure PreW (s:St):Prop where
 sm:s.Small
 nt:s.nt<=200
 ns:s.ns<=12
 p1:∀g,g<s.ns->s.nsp g<=12
 c0:0<=s.credit
 k:Kinds s
 tv:∀i,0<=(s.tsk i).v
 f0:∀g c,0<=(s.sp g c).floor
 f1:∀g c,(s.sp g c).floor<=18446744073709551615
def PreW.pre(h:PreW s):PreOk s:=⟨h.sm,h.ns,h.p1⟩
def PreW.tkr(h:PreW s)(i:Nat):TkR (s.tsk i):=⟨h.k.wf.mask0 i,h.k.wf.mask1 i,h.tv i,h.k.wf.tv i,h.k.wf.tr i⟩
def PreW.spr(h:PreW s)(g c:Nat):SpR (s.sp g c):=⟨h.k.v0 g c,h.k.wf.sv g c,h.k.wf.sr g c,h.f0 g c,h.f1 g c⟩
def a0Y {s':St}(sm:s'.Small)(e4:s'.nt<=200)(e5:s'.ns<=12)(e6:∀g,g<s'.ns->s'.nsp g<=12)(e7:0<=s'.credit)(ht:∀i,TkR (s'.tsk i))(hs:∀g c,SpR (s'.sp g c)):PreW s':=
 ⟨sm,e4,e5,e6,e7,⟨⟨λ i=>(ht i).1,λ i=>(ht i).2.1,λ i=>(ht i).2.2.2.1,λ i=>(ht i).2.2.2.2,λ g c=>(hs g c).2.1,λ g c=>(hs g c).2.2.1⟩,λ g c=>(hs g c).1⟩,λ i=>(ht i).2.2.1,λ g c=>(hs g c).2.2.2.1,λ g c=>(hs g c).2.2.2.2⟩
end Go.Proofs.T
end
section
namespace Go.Proofs.T
open Go Go.AM Go.Proofs
variable{Γ:dW}
def aFR(a b:St)(hq:PreOk a):(vU a b).length<=100000:=by
 have:=aGO (b:=b) hq;unfold vU;split;.simp
 split;.simp
 omega
end Go.Proofs.T
end
section
namespace Go.AM
open Go
variable{es:Array MapEntry}{ops:Array Oper}{n:Int}{q:IntKind}{e:Int×Value×Nat}{seen:List Nat}{r:List Oper}{b c0 clock et id j kt mid since t:Nat}{G:Nat->Prop}{m x:Operand}{outs:Out->Prop}{z:Value}{w:World}{A:cF}{ρ:dH}
abbrev mR:=List (Int×Value×Nat)
variable{l:mR}
def vD(q:IntKind)(e:Int×Value×Nat):MapEntry:={key:= .int q e.1,val:=e.2.1,born:=e.2.2}
def aQX(q:IntKind)(e:Int×Value×Nat):List AVal:=[.lit (.int q e.1),.lit e.2.1,.lit (.int .i64 e.2.2)]
def nO(q:IntKind)(l:mR)(clock:Nat):Blk:=⟨3,aB,[.lit (.int .i64 clock),.lit (.int .i64 l.length),.lit (.int .i64 1)]::l.map (aQX q)⟩
def aXM{α:Type}{f:α->List Value}(hf:∀x,(f x).length=3):∀(l:List α) (r c:Nat),c<3->(l.flatMap f)[r*3+c]? =(l[r]?).bind λ x=>(f x)[c]?
 |[],r,c,_=>sS
 |x::l,0,c,h=>by rw[List.flatMap_cons,rT,eQ,gN (by rw[hf];exact h)];rfl
 |x::l,r+1,c,h=>by rw[List.flatMap_cons,iY (by rw[hf];omega),hf];have e:(r+1)*3+c-3=r*3+c:=oO;rw[e,aXM hf l r c h];rfl
def aLN(es:List MapEntry)(clock r c:Nat)(h:c<3):(aCG es clock)[(r+1)*3+c]? =(es[r]?).bind λ e=>[e.key,e.val,aE .i64 e.born][c]? :=by have e:(r+1)*3+c=r*3+c+1+1+1:=oO;rw[e];simp only[aCG,fY];exact aXM (λ _=>rfl) es r c h
def KH(h:BRel w G ρ A (nO q l clock) b)(hs:shp w b=aA aC):
 ∃es:Array MapEntry,w.heap[b]? =aA (.map es clock)/\es.toList=l.map (vD q):=by
 obtain⟨⟨C,o,⟨hC,hO⟩,hrows⟩,hlen⟩:=h;have lit:∀r row c v,(nO q l clock).rows[r]? =aA row->row[c]? =aA (.lit v)->C[r*3+c]? =aA v:=λ r row c v h1 h2=>by obtain⟨cv,h3,h4⟩:=hrows r row c _ h1 h2;cases h4;exact h3
 have e0:=lit 0 _ 0 _ rfl rfl;have e1:=lit 0 _ 1 _ rfl rfl;have e2:=lit 0 _ 2 _ rfl rfl
 cases hO with
 |cells=>simp[shp,hC]at hs
 |iter=>simp[IE]at e2
 | @map es clock'=>
  simp[aCG]at e0 e1;have hclk:clock'=clock:=oO;have hln:es.size=l.length:=oO;subst hclk;refine⟨es,hC,fF λ r=>?_⟩;by_cases hr:r<l.length
  .have hrow:(nO q l clock').rows[r+1]? =aA (aQX q l[r]):=by simp[nO,aN hr]
   have a0:=lit (r+1) _ 0 _ hrow rfl;have a1:=lit (r+1) _ 1 _ hrow rfl;have a2:=lit (r+1) _ 2 _ hrow rfl;rw[cH,aLN _ _ _ _ oO]at a0 a1 a2;have hx:es.toList[r]? =aA (es[r]'oO):=by rw[bH,aW]
   rw[hx]at a0 a1 a2⊢
   rw[aV,aN hr];simp at a0 a1 a2;simp only[bO,vD];congr 1;rw[<-a0,<-a1];have:(es[r]'oO).born=l[r].2.2:=oO;rw[<-this]
  rw[bE sO,bE sO]
def aLL(he:es.toList=l.map (vD q)):
 (∀(r:Nat) row,(nO q l clock).rows[r]? =aA row->row.length=(nO q l clock).sz)∧
 ∀r row c v,(nO q l clock).rows[r]? =aA row->row[c]? =aA v->∃cv,(aCG es.toList clock).toArray[r*(nO q l clock).sz+c]? =aA cv/\V w G (if(nO q l clock).pure then bX else ρ) (if(nO q l clock).pure then cQ else A) v cv:=by
 constructor
 .intro r row h
  cases r with
  |zero=>cases h;rfl
  |succ r=>simp only[nO,fY,aV,aK]at h;obtain⟨e,_,rfl⟩:=h;rfl
 intro r row c v h1 h2;show ∃cv,(aCG es.toList clock).toArray[r*3+c]? =aA cv/\V w G bX cQ v cv;rw[cH]
 cases r with
 |zero=>
  cases h1;have hl:es.toList.length=l.length:=by rw[he];simp
  match c,h2 with
  |0,h2=>cases h2;exact⟨_,rfl,.lit⟩
  |1,h2=>cases h2;exact⟨_,by simp only[aCG,hl];rfl,.lit⟩
  |2,h2=>cases h2;exact⟨_,rfl,.lit⟩
  |c+3,h2=>simp at h2
 |succ r=>
  simp only[nO,fY,aV,aK]at h1;obtain⟨e,h1,rfl⟩:=h1;have hc:c<3:=by have:=(aL.1 h2).1;simpa [aQX]using this
  rw[aLN _ _ _ _ hc,he,aV,h1]
  match c,h2 with
  |0,h2=>cases h2;exact⟨_,rfl,.lit⟩
  |1,h2=>cases h2;exact⟨_,rfl,.lit⟩
  |2,h2=>cases h2;exact⟨_,rfl,.lit⟩
  |c+3,h2=>omega
section
variable{P:Program}{Γ:dW}{o:Oper}{ev:Operand->Option AVal}{get:Nat->Option Blk}{k:Nat}
def UT{w':World}{H:mP}{A':cF}{l':mR}{clock':Nat}{es':Array MapEntry}
 (hr:HRel Γ w G ρ H) (hH:H id=aA (nO q l clock,A')) (hAA:∀i,A' i->A i) (hb:ρ id=aA (b,3)) (hm:w.heap[b]? =aA (.map es clock)) (he:es'.toList=l'.map (vD q))
 (hw:w'.heap=w.heap.setIfInBounds b (.map es' clock')) (h1:w'.os=w.os) (h2:w'.tape=w.tape) (h3:w'.output=w.output):
 HRel Γ w' G ρ (jT H (λ i=>A i\/(k<=i/\i<k)) [(id,aA (nO q l' clock'))])/\Step (λ i=>¬(k<=i/\i<k)) w G ρ w' G ρ:=by
 have hbl:b<w.heap.size:=(dK.1 hm).1;have hnew:w'.heap[b]? =aA (.map es' clock'):=by rw[hw];simp[hbl]
 have hoth:∀j,j≠b->w'.heap[j]? =w.heap[j]? :=λ j hj=>by rw[hw,mA (Ne.symm hj)]
 have hA:=(hr.blk id _ A' hH).1;have hrel:=aLL (w:=w) (G:=G) (ρ:=ρ) (A:=A) (clock:=clock') he
 obtain⟨g1,g2⟩:=hr.rewriteO (B:=nO q l clock) hb id (.inl rfl) (nO q l' clock') rfl _ (.map es' clock') .map A (λ i=>A i\/(k<=i/\i<k)) (.inl rfl) (λ _ h=> .inl h) (.inl (hAA _ hA))
  w' hnew hoth (by rw[hw];simp) (by simp[shp,hnew,hm]) h1 h2 h3 hrel.1 hrel.2
 have hnm:fQ (fQ ρ id aC) id (aA (b,3))=ρ:=funext λ i=>by
  simp only[fQ];split;.rename_i he;rw[he,hb]
  rfl
 rw[show(nO q l clock).sz=3 from rfl,hnm]at g1 g2;have hup:jT H (λ i=>A i\/(k<=i/\i<k)) [(id,aA (nO q l' clock')),(id,aC)]=jT H (λ i=>A i\/(k<=i/\i<k)) [(id,aA (nO q l' clock'))]:=funext λ i=>by simp only[jT];split<;>simp_all
 rw[hup]at g1;exact⟨g1,⟨g2.size,g2.keep,g2.shape,g2.g,g2.g',g2.own,λ i _=>g2.ids i (dP rfl),g2.os,g2.tape,g2.output⟩⟩
def bFS:AVal->Option Value
 | .lit v=>aA v
 |_=>aC
def WM:AVal->Option Value
 | .lit v=>aA v
 | .agg cs=>(cs.mapM bFS).map λ(l:List Value)=>Value.agg l.toArray
 |_=>aC
def a7E{v:AVal}{cv x:Value}(h:V w G ρ A v cv)(hl:WM v=aA x):cv=x:=by
 cases h with
 |lit=>simpa [WM]using hl
 | @agg _ _ cells cs h1 h2=>
  simp only[WM,aK]at hl;obtain⟨l,hl,rfl⟩:=hl;have hlen:=Lib.mapM_length hl;congr 1;refine aJX sO λ i hi hi'=>?_;have hic:i<cells.length:=oO;obtain⟨u,h3,h4⟩:=Lib.mapM_at hl i cells[i] (aN hic);have h5:=h2 i _ (aN hic);generalize cells[i]=c at h4 h5
  cases c with
  |lit y=>
   have hy:u=y:=by simpa [bFS]using h4.symm
   subst hy;have h6:cs.getD i undef=u:=by cases h5;rfl
   rw[aM,aW hi]at h6;have h7:l[i]? =aA u:=h3;rw[aN (by simpa using hi')]at h7;simp at h6 h7;simp[h6,h7]
  |_=>cases h4
 |_=>simp[WM]at hl
def BV(l:mR)(n:Int):Option Value:=(l.find? λ e=>e.1==n).map (·.2.1)
def RJ(l:mR)(n:Int):mR:=l.filter λ e=> !(e.1==n)
def JI(l:mR):Prop:=(l.map (·.1)).Nodup
def QX(h:∀e∈l,e.1≠n):BV l n=aC:=by unfold BV;rw[a7S.2 (λ e he=>by simpa using h e he)];rfl
def QW(hu:JI l)(hj:l[j]? =aA e)(he:e.1=n):BV l n=aA e.2.1:=by
 induction l generalizing j with
 |nil=>simp at hj
 |cons a l ih=>
  simp only[JI,bN,List.nodup_cons]at hu
  cases j with
  |zero=>cases hj;simp[BV,he]
  |succ j=>have h1:l[j]? =aA e:=hj;have h2:a.1≠n:=λ h=>hu.1 (h▸he▸dM.2 ⟨e,gL h1,rfl⟩);have:=ih hu.2 h1;simpa [BV,h2]using this
def VX(h:∀e∈l,e.1≠n):RJ l n=l:=xK.2 λ e he=>by simpa using h e he
def aRA(hu:JI l)(hj:l[j]? =aA e)(he:e.1=n):RJ l n=l.eraseIdx j:=by
 induction l generalizing j with
 |nil=>simp at hj
 |cons a l ih=>
  simp only[JI,bN,List.nodup_cons]at hu
  cases j with
  |zero=>cases hj;have:RJ l n=l:=VX λ x hx h=>hu.1 (he▸h▸dM.2 ⟨x,hx,rfl⟩);simpa [RJ,he]using this
  |succ j=>
   have h1:l[j]? =aA e:=hj;have h2:a.1≠n:=λ h=>hu.1 (h▸he▸dM.2 ⟨e,gL h1,rfl⟩);have:=ih hu.2 h1;simp only[RJ]at this⊢
   rw[List.filter_cons_of_pos (by simpa using h2),this];rfl
def aMV{α β:Type}(f:α->β):∀(l:List α) (j:Nat),(l.eraseIdx j).map f=(l.map f).eraseIdx j
 |[],j=>sS
 |a::l,0=>rfl
 |a::l,j+1=>by simp[aMV f l j]
structure MapT (P:Program) (t kt et:TypeId) (q:IntKind) (z:Value):Prop where
 t:P.underlying t=aA (.map kt et)
 k:P.underlying kt=aA (.int q)
 z:(P.info? et).bind (·.zero)=aA z
def MapT.zero{t kt et:TypeId}(h:MapT P t kt et q z)(w:World):(zeroValue et).run P w= .ok z w:=by have:=h.z;simp only[cJ]at this;obtain⟨i,h1,h2⟩:=this;simp[zeroValue,typeInfo,h1,h2]
def wfK(q:IntKind)(n:Int):Bool:=(Lit.int q n).wf
def KQ{kt:TypeId}(hk:P.underlying kt=aA (.int q))(hl:∀e∈l,wfK q e.1=aB)(hn:wfK q n=aB)(w:World):
 ((Instr.findKey kt (.int q n) (l.map (vD q))).run P w= .ok aC w/\∀e∈l,e.1≠n)∨
 ∃j e,(Instr.findKey kt (.int q n) (l.map (vD q))).run P w= .ok (aA (j,e.2.1)) w/\l[j]? =aA e/\e.1=n:=by
 rcases(Maps.int_keyed hk).find w (Maps.keyOf_int_mk hk hn) (l.map (vD q)) (λ x hx=>by obtain⟨e,he,rfl⟩:=dM.1 hx;exact⟨_,Maps.keyOf_int_mk hk (hl e he)⟩)with⟨h1,h2⟩|⟨j,x,h1,h2,h3⟩
 .refine .inl ⟨h1,λ e he hc=>h2 _ (dM.2 ⟨e,he,rfl⟩) (by simp[vD,hc])⟩
 rw[aV,aK]at h2;obtain⟨e,h4,rfl⟩:=h2;exact .inr ⟨j,e,h1,h4,by simpa [vD]using h3⟩
def UY(ho:o.op= .lookup t m x aB)(ht:MapT P t kt et q z)(hm:ev m=aA (.mp id))(hx:ev x=aA (.lit (.int q n)))
 (hB:get id=aA (nO q l clock)) (hl:∀e∈l,wfK q e.1=aB) (hn:wfK q n=aB) (hu:JI l):Good P Γ o ev get k ⟨.tup [.lit ((BV l n).getD z),.lit (.bool (BV l n).isSome)],k,[],[id]⟩:=by
 refine⟨cL λ w G ρ H A a hr hrd hop=>?_,λ i hi=>by simp at hi;rw[hi,hB];rfl,aJ _⟩;have hvm:=hop m pS _ hm;have hvx:=V_lit (hop x pS _ hx);obtain⟨B',A',h2,hH,_⟩:=hrd id sS;rw[hB]at h2;cases h2;obtain⟨_,b,hb,_,hBR⟩:=hr.blk id _ A' hH;generalize hev:a.eval m=cv at hvm
 cases hvm with
 |dangm _ hn'=>rw[hb]at hn';cases hn'
 |mp ha hρ hsh=>
  rw[hb]at hρ;cases hρ;obtain⟨es,hes,hel⟩:=KH hBR hsh;refine⟨.tuple #[(BV l n).getD z,.bool (BV l n).isSome],?_,.tup rfl λ j v hj=>?_⟩
  .rcases KQ ht.k hl hn w with⟨h3,h4⟩|⟨j,e,h3,h4,h5⟩;.rw[QX h4];rw[<-hel]at h3;simp[execOp,ho,hev,hvx,Instr.lookup,run_underlying ht.t,MapKept.run_getObj_map hes,(Maps.int_keyed ht.k).check w _ (Maps.keyOf_int_mk ht.k hn),h3,ht.zero,ML]
   rw[QW hu h4 h5];rw[<-hel]at h3;simp[execOp,ho,hev,hvx,Instr.lookup,run_underlying ht.t,MapKept.run_getObj_map hes,(Maps.int_keyed ht.k).check w _ (Maps.keyOf_int_mk ht.k hn),h3,ML]
  match j,hj with
  |0,hj=>cases hj;exact .lit
  |1,hj=>cases hj;exact .lit
  |j+2,hj=>simp at hj
def aBK{y:Operand}{av:AVal}{v:Value}(ho:o.op= .mapUpdate t m x y)(ht:MapT P t kt et q z)(hm:ev m=aA (.mp id))
 (hx:ev x=aA (.lit (.int q n))) (hy:ev y=aA av) (hv:WM av=aA v) (hB:get id=aA (nO q l clock)) (hl:∀e∈l,wfK q e.1=aB) (hn:wfK q n=aB) (hf:∀e∈l,e.1≠n):
 Good P Γ o ev get k ⟨.junk,k,[(id,aA (nO q (l++[(n,v,clock)]) (clock+1)))],[id]⟩:=by
 refine⟨λ w G ρ H A a hr hA hfr hrd hop next Q hN=>?_,λ i hi=>by simp at hi;rw[hi,hB];rfl,aJ _⟩;have hvm:=hop m pS _ hm;have hvx:=V_lit (hop x pS _ hx);have hvy:=a7E (hop y pS _ hy) hv;obtain⟨B',A',h2,hH,hAA⟩:=hrd id sS;rw[hB]at h2;cases h2;obtain⟨_,b,hb,_,hBR⟩:=hr.blk id _ A' hH;generalize hev:a.eval m=cv at hvm
 cases hvm with
 |dangm _ hn'=>rw[hb]at hn';cases hn'
 |mp ha hρ hsh=>
  rw[hb]at hρ;cases hρ;obtain⟨es,hes,hel⟩:=KH hBR hsh;rcases KQ ht.k hl hn w with⟨h3,h4⟩|⟨j,e,h3,h4,h5⟩
  .rw[<-hel]at h3;have hrun:(execOp a.eval o).run P w= .ok .skip {w with heap:=w.heap.setIfInBounds b (.map (es.push ⟨.int q n,v,clock⟩) (clock+1))}:=by simp[execOp,ho,hev,hvx,hvy,Instr.mapUpdate,run_underlying ht.t,MapKept.run_getObj_map hes,(Maps.int_keyed ht.k).check w _ (Maps.keyOf_int_mk ht.k hn),h3,MapKept.run_setObj_map _ hes,ML]
   obtain⟨g1,g2⟩:=UT (k:=k) (l':=l++[(n,v,clock)]) (clock':=clock+1) (es':=es.push ⟨.int q n,v,clock⟩) (w':={w with heap:=w.heap.setIfInBounds b (.map (es.push ⟨.int q n,v,clock⟩) (clock+1))}) hr hH hAA hb hes (by simp[hel,vD]) rfl rfl rfl rfl;unfold Oper.wp;rw[hrun];exact hN _ G ρ undef g1 .junk g2
  exact absurd h5 (hf e (gL h4))
def aDT(ho:o.op= .call {callee:= .builtin .delete,args:= #[m,x],argTypes:= #[t,kt]})(ht:MapT P t kt et q z)(hm:ev m=aA (.mp id))
 (hx:ev x=aA (.lit (.int q n))) (hB:get id=aA (nO q l clock)) (hl:∀e∈l,wfK q e.1=aB) (hn:wfK q n=aB) (hu:JI l):
 Good P Γ o ev get k ⟨.lit (.tuple #[]),k,[(id,aA (nO q (RJ l n) clock))],[id]⟩:=by
 refine⟨λ w G ρ H A a hr hA hfr hrd hop next Q hN=>?_,λ i hi=>by simp at hi;rw[hi,hB];rfl,aJ _⟩;have hvm:=hop m pC _ hm;have hvx:=V_lit (hop x pC _ hx);obtain⟨B',A',h2,hH,hAA⟩:=hrd id sS;rw[hB]at h2;cases h2;obtain⟨_,b,hb,_,hBR⟩:=hr.blk id _ A' hH;generalize hev:a.eval m=cv at hvm
 cases hvm with
 |dangm _ hn'=>rw[hb]at hn';cases hn'
 |mp ha hρ hsh=>
  rw[hb]at hρ;cases hρ;obtain⟨es,hes,hel⟩:=KH hBR hsh
  have key:∃es':Array MapEntry,es'.toList=(RJ l n).map (vD q)/\(execOp a.eval o).run P w= .ok (.value (.tuple #[])) {w with heap:=w.heap.setIfInBounds b (.map es' clock)}:=by
   rcases KQ ht.k hl hn w with⟨h3,h4⟩|⟨j,e,h3,h4,h5⟩;.rw[<-hel]at h3;refine⟨es,by rw[VX h4,hel],?_⟩;simp[execOp,ho,resolve,invoke,builtin,hev,hvx,Builtin.delete_,run_underlying ht.t,MapKept.run_getObj_map hes,(Maps.int_keyed ht.k).check w _ (Maps.keyOf_int_mk ht.k hn),h3,MapKept.run_setObj_map _ hes,ML]
   rw[<-hel]at h3
   have hjl:j<es.size:=by
    have h6:=(aL.1 h4).1;have h7:es.toList.length=l.length:=by rw[hel];simp
    simp at h7;omega
   refine⟨es.eraseIdxIfInBounds j,?_,?_⟩;.unfold Array.eraseIdxIfInBounds;rw[dif_pos hjl,aRA hu h4 h5];simp only[hel,Array.toList_eraseIdx];exact(aMV _ _ _).symm
   simp[execOp,ho,resolve,invoke,builtin,hev,hvx,Builtin.delete_,run_underlying ht.t,MapKept.run_getObj_map hes,(Maps.int_keyed ht.k).check w _ (Maps.keyOf_int_mk ht.k hn),h3,MapKept.run_setObj_map _ hes,ML]
  obtain⟨es',he',hrun⟩:=key;obtain⟨g1,g2⟩:=UT (k:=k) (l':=RJ l n) (clock':=clock) (es':=es') (w':={w with heap:=w.heap.setIfInBounds b (.map es' clock)}) hr hH hAA hb hes he' rfl rfl rfl rfl;unfold Oper.wp;rw[hrun];exact hN _ G ρ _ g1 .lit g2
def QD(q:IntKind)(ho:o.op= .makeMap t aC):Good P Γ o ev get k ⟨.mp k,k+1,[(k,aA (nO q [] 0))],[]⟩:=by
 refine⟨λ w G ρ H A a hr hA hfr hrd hop next Q hN=>?_,λ i hi=>by simp at hi,mG _⟩;obtain⟨hρ,hf⟩:=hfr k (aJ _) (cY _);have hkA:¬A k:=λ hk=>oX _ (hA k hk);have hrun:(execOp a.eval o).run P w= .ok (.value (.map (aA w.heap.size))) (w.alloc (.map #[] 0)):=by have hmm:(Instr.makeMap t aC).run P w= .ok (.map (aA w.heap.size)) (w.alloc (.map #[] 0)):=rfl;simp[execOp,ho,hmm]
 have hrows:=aLL (w:=w) (G:=G) (ρ:=ρ) (A:=A) (q:=q) (l:=[]) (clock:=0) (es:= #[]) rfl;have hrel:=hr.allocO k hρ hf (nO q [] 0) _ (.map #[] 0) .map A (λ i=>A i\/(k<=i/\i<k+1)) hkA (λ _ h=> .inl h) (.inr ⟨aJ _,cY _⟩) hrows.1 hrows.2 w rfl rfl rfl rfl;have hst:=mB (w:=w) (G:=G) (ρ:=ρ) k 3 (.map #[] 0) w rfl rfl rfl rfl;unfold Oper.wp;rw[hrun];refine hN _ G _ _ hrel (.mp (b:=w.heap.size) (s:=3) (.inr ⟨aJ _,cY _⟩) (by simp[fQ];rfl) ?_) ⟨hst.size,hst.keep,hst.shape,hst.g,hst.g',hst.own,λ i hi=>hst.ids i (λ he=>hi (oO:k<=i/\i<k+1)),hst.os,hst.tape,hst.output⟩;show shp (w.alloc (.map #[] 0)) w.heap.size=aA aC;have h9:=jD w (.map #[] 0);unfold shp;rw[h9];rfl
end
def lB(mid since:Nat)(seen:List Nat)(c0:Nat):Blk:=
 ⟨3,aF,[.lit (.int .i64 c0),.lit (.int .i64 seen.length),.lit (.int .i64 2)]::[.mp mid,.lit (.int .i64 since),.lit (.int .i64 0)]::seen.map λ(x:Nat)=>[.lit (.int .i64 (x:Int)),.lit (.int .i64 0),.lit (.int .i64 0)]⟩
def aCU(m:Option Nat)(since:Nat)(seen:Array Nat)(c0 r c:Nat)(h:c<3):(IE m since seen c0)[(r+2)*3+c]? =(seen.toList[r]?).bind λ(x:Nat)=>[aE .i64 (x:Int),.int .i64 0,.int .i64 0][c]? :=by have e:(r+2)*3+c=r*3+c+1+1+1+1+1+1:=oO;rw[e];simp only[IE,fY];exact aXM (λ _=>rfl) _ r c h
def aMH{bm s:Nat}(h:BRel w G ρ A (lB mid since seen c0) b)(hs:shp w b=aA aC)(hm:ρ mid=aA (bm,s)):
 w.heap[b]? =aA (.mapIter (aA bm) since seen.toArray c0)/\shp w bm=aA aC:=by
 obtain⟨⟨C,o,⟨hC,hO⟩,hrows⟩,hlen⟩:=h;have lit:∀r row c v,(lB mid since seen c0).rows[r]? =aA row->row[c]? =aA (.lit v)->C[r*3+c]? =aA v:=λ r row c v h1 h2=>by obtain⟨cv,h3,h4⟩:=hrows r row c _ h1 h2;cases h4;exact h3
 have e0:=lit 0 _ 0 _ rfl rfl;have e1:=lit 0 _ 1 _ rfl rfl;have e2:=lit 0 _ 2 _ rfl rfl;have e4:=lit 1 _ 1 _ rfl rfl;obtain⟨cm,hcm,hvm⟩:=hrows 1 _ 0 _ rfl rfl
 cases hO with
 |cells=>simp[shp,hC]at hs
 |map=>simp[aCG]at e2
 | @iter m since' seen' c0'=>
  have hcm2:(IE m since' seen' c0').toArray[3]? =aA cm:=hcm;simp[IE]at e0 e1 e4 hcm2;have hvm':V w G ρ A (.mp mid) cm:=by simpa [lB]using hvm
  subst hcm2;have hc0:c0'=c0:=oO;have hsi:since'=since:=oO;have hln:seen'.size=seen.length:=oO;subst hc0;subst hsi
  have hseen:seen'=seen.toArray:=by
   refine bJL (fF λ r=>?_);by_cases hr:r<seen.length
   .have hrow:(lB mid since' seen c0').rows[r+2]? =aA [.lit (.int .i64 ((seen[r]:Nat):Int)),.lit (.int .i64 0),.lit (.int .i64 0)]:=by simp[lB,aN hr]
    have a0:=lit (r+2) _ 0 _ hrow rfl;rw[cH,aCU _ _ _ _ _ _ oO]at a0;have hx:seen'.toList[r]? =aA (seen'[r]'oO):=by rw[bH,aW]
    rw[hx]at a0⊢
    simp at a0;have:seen'[r]'oO=seen[r]:=oO;rw[this,aN hr]
   rw[bE sO,bE sO]
  subst hseen
  cases hvm' with
  |dangm _ hn=>rw[hm]at hn;cases hn
  |mp _ hρ hsm=>rw[hm]at hρ;cases hρ;exact⟨hC,hsm⟩
def aCT{bm:Nat}(hm:V w G ρ A (.mp mid) (.map (aA bm))):
 (∀(r:Nat) row,(lB mid since seen c0).rows[r]? =aA row->row.length=(lB mid since seen c0).sz)∧
 ∀ r row c v,(lB mid since seen c0).rows[r]? =aA row->row[c]? =aA v->∃cv,(IE (aA bm) since seen.toArray c0).toArray[r*(lB mid since seen c0).sz+c]? =aA cv∧
   V w G (if(lB mid since seen c0).pure then bX else ρ) (if(lB mid since seen c0).pure then cQ else A) v cv:=by
 constructor
 .intro r row h
  match r,h with
  |0,h=>cases h;rfl
  |1,h=>cases h;rfl
  | r+2,h=>
    simp only[lB,fY,aV,aK]at h
    obtain⟨e,_,rfl⟩:=h
    rfl
 intro r row c v h1 h2;show ∃cv,(IE (aA bm) since seen.toArray c0).toArray[r*3+c]? =aA cv/\V w G ρ A v cv;rw[cH]
 match r,h1 with
 | 0,h1=>
   cases h1
   match c,h2 with
   |0,h2=>cases h2;exact⟨_,rfl,.lit⟩
   |1,h2=>cases h2;exact⟨_,by simp only[IE,fE];rfl,.lit⟩
   |2,h2=>cases h2;exact⟨_,rfl,.lit⟩
   |c+3,h2=>simp at h2
 | 1,h1=>
   cases h1
   match c,h2 with
   |0,h2=>cases h2;exact⟨_,rfl,hm⟩
   |1,h2=>cases h2;exact⟨_,rfl,.lit⟩
   |2,h2=>cases h2;exact⟨_,rfl,.lit⟩
   |c+3,h2=>simp at h2
 | r+2,h1=>
   have h4:(seen.map λ(x:Nat)=>[aD (.int .i64 (x:Int)),.lit (.int .i64 0),.lit (.int .i64 0)])[r]? =aA row:=h1
   rw[aV,aK]at h4
   obtain⟨e,h5,rfl⟩:=h4
   have hc:c<3:=by have:=(aL.1 h2).1;simpa using this
   rw[aCU _ _ _ _ _ _ hc]
   have h3:seen.toArray.toList[r]? =aA e:=h5
   rw[h3]
   match c,h2 with
   |0,h2=>cases h2;exact⟨_,rfl,.lit⟩
   |1,h2=>cases h2;exact⟨_,rfl,.lit⟩
   |2,h2=>cases h2;exact⟨_,rfl,.lit⟩
   |c+3,h2=>omega
section
variable{P:Program}{Γ:dW}{o:Oper}{ev:Operand->Option AVal}{get:Nat->Option Blk}{k nt kb:Nat}
def PO(ho:o.op= .range t m)(ht:MapT P t kt et q z)(hm:ev m=aA (.mp mid))(hB:get mid=aA (nO q l clock)):
 Good P Γ o ev get k ⟨.it k,k+1,[(k,aA (lB mid clock [] clock))],[mid]⟩:=by
 refine⟨λ w G ρ H A a hr hA hfr hrd hop next Q hN=>?_,λ i hi=>by simp at hi;rw[hi,hB];rfl,mG _⟩;obtain⟨hρk,hf⟩:=hfr k (aJ _) (cY _);have hkA:¬A k:=λ hk=>oX _ (hA k hk);have hvm:=hop m pS _ hm;obtain⟨B',A',h2,hH,hAA⟩:=hrd mid sS;rw[hB]at h2;cases h2;obtain⟨_,b,hb,_,hBR⟩:=hr.blk mid _ A' hH;generalize hev:a.eval m=cv at hvm;have hvm0:=hvm
 cases hvm with
 |dangm _ hn'=>rw[hb]at hn';cases hn'
 |mp ha hρ hsh=>
  rw[hb]at hρ;cases hρ;obtain⟨es,hes,hel⟩:=KH hBR hsh;have hrun:(execOp a.eval o).run P w= .ok (.value (.pointer (aA ⟨w.heap.size,0,aC⟩))) (w.alloc (.mapIter (aA b) clock #[] clock)):=by have:=run_range_map w t kt et b es clock ht.t hes;simp[execOp,ho,hev,this]
  have hrows:=aCT (since:=clock) (c0:=clock) (seen:=[]) hvm0;have hrel:=hr.allocO k hρk hf (lB mid clock [] clock) _ (.mapIter (aA b) clock #[] clock) .iter A (λ i=>A i\/(k<=i/\i<k+1)) hkA (λ _ h=> .inl h) (.inr ⟨aJ _,cY _⟩) hrows.1 hrows.2 w rfl rfl rfl rfl;have hst:=mB (w:=w) (G:=G) (ρ:=ρ) k 3 (.mapIter (aA b) clock #[] clock) w rfl rfl rfl rfl;unfold Oper.wp;rw[hrun];refine hN _ G _ _ hrel (.it (b:=w.heap.size) (s:=3) (.inr ⟨aJ _,cY _⟩) (by simp[fQ];rfl) ?_) ⟨hst.size,hst.keep,hst.shape,hst.g,hst.g',hst.own,λ i hi=>hst.ids i (λ he=>hi (oO:k<=i/\i<k+1)),hst.os,hst.tape,hst.output⟩;show shp (w.alloc (.mapIter (aA b) clock #[] clock)) w.heap.size=aA aC;have h9:=jD w (.mapIter (aA b) clock #[] clock);unfold shp;rw[h9];rfl
structure GoodN (P:Program) (Γ:dW) (o:Oper) (ev:Operand->Option AVal) (get:Nat->Option Blk) (k:Nat) (rds:List Nat) (outs:Out->Prop):Prop where
 ok:∀w G ρ H (A:cF) (a:Act),HRel Γ w G ρ H->(∀i,A i->i<k)->(∀id,id∈rds->∃B A',get id=aA B/\H id=aA (B,A')/\∀i,A' i->A i)→
  (∀x,x∈o.op.operands->∀v,ev x=aA v->V w G ρ A v (a.eval x))->∀(next:Act->World->Prop) (Q:Exit->Act->World->Prop),
    (∀out,outs out->∀w' G' ρ' cv,HRel Γ w' G' ρ' (jT H (λ i=>A i\/(k<=i/\i<k)) out.upd)->V w' G' ρ' (λ i=>A i\/(k<=i/\i<k)) out.v cv→
      Step (λ i=>¬(k<=i/\i<k)) w G ρ w' G' ρ'->next (a.put o.dst cv) w')->o.wp P a w next Q
 rds:∀id,id∈rds->(get id).isSome=aB
 k:∀out,outs out->out.k=k
def WN{fr:Fr}{H:aS}{Q:AQ}(hops:ops.toList=o::r)(hd:nL nt ops=aB)(hgd:o.guard=aC){rds:List Nat}
 (hN:GoodN P Γ o (lN Γ fr) (look H) k rds outs) (h:∀out,outs out->Run P Γ ops r k (jM fr o.dst out.v) (mE H out.upd) (λ _ k' fr' H'=>kb<=k'->Q .normal k' fr' H')):W P Γ nt kb (.region id ops aF) Q k fr H:=λ A0 hA0 hk w G ρ a hi=>by
 refine wp_region ?_
 have hlen:ops.size=r.length+1:=by rw[<-qR,hops];rfl
 have ho:ops[0]? =aA o:=by rw[<-bH,hops];rfl
 have hdst:=AY hd ho
 have hlt:=aJG (A0:=A0) hA0 hk
 rw[List.range_eq_range',hlen,List.range'_succ,wpOps_cons]
 unfold wpOp
 rw[ho]
 have hw:Region.wanted o (yielded ops a.tmps)=aB:=by unfold Region.wanted;rw[hgd]
 simp only[hw,if_true]
 left
 have hHof:∀id B A',bK H (kI A0 kb k) id=aA (B,A')->A'=kI A0 kb k:=λ id B A' hH=>by simp only[bK,aK]at hH;obtain⟨B',_,he⟩:=hH;cases he;rfl
 refine hN.ok w G ρ (bK H (kI A0 kb k)) (kI A0 kb k) a hi.rel hlt (λ id hid=>?_) (λ x _ v hv=>ZU hi hv) _ (Post Γ nt A0 kb w G ρ Q) (λ out hout w' G' ρ' cv hrel hv hst=>?_)
 · obtain⟨B,hB⟩:=fU.1 (hN.rds id hid)
   exact⟨B,kI A0 kb k,hB,by simp only[bK,hB,bO],λ _ h=>h⟩
 · have hst':Step (lX kb) w G ρ w' G' ρ':=⟨hst.size,hst.keep,hst.shape,hst.g,hst.g',hst.own,λ j hj=>hst.ids j (λ hc=>by simp only[lX]at hj;omega),hst.os,hst.tape,hst.output⟩
   rw[a0H A0 kb k k hk (aJ _)]at hrel hv
   refine UF (kb:=kb) (Q':=Post Γ nt A0 kb w G ρ Q) hd hA0 r 1 (λ j=>by rw[<-bH,hops,bQQ];rfl) k _ _ _ hk (h out hout) w' G' ρ' (a.put o.dst cv)
    ⟨?_,by rw[CX];exact hi.size,by rw[vY];exact hi.defers,λ t v hv'=>?_⟩ hst' (λ tr k' fr' H' G' ρ' a' w' hK hk' hi' hs'=>⟨G',ρ',k',fr',H',hK hk',hk',hi',hs'⟩)
   · refine hrel.allow _ (λ id hid=>?_) (λ id B A' hid=>?_)
     · simp only[bK,dL]at hid
       rw[nF]at hid
       rw[nP]
       split at hid
       · rename_i x hx;rw[hid];rfl
       · rename_i hx;simp only[bK,hid,lJ]
     · simp only[bK,aK]at hid
       obtain⟨B',hB',he⟩:=hid
       cases he
       rw[nF]at hB'
       rw[nP]
       split at hB'
       · rename_i x hx;rw[hB'];exact⟨kI A0 kb k,rfl,λ _ h=>h⟩
       · rename_i hx;exact⟨kI A0 kb k,by simp only[bK,hB',bO],λ _ h=>h⟩
   · rw[vM]at hv'
     rw[CY a o.dst cv t (λ x hx=>by rw[hi.size];exact hdst x hx)]
     split at hv'
     · rename_i he;cases hv';rw[iP he];exact hv
     · rename_i hne;rw[iN hne]
       exact(hi.frm t v hv').step hi.rel hst (λ j hj hc=>by have:=hlt j hj;omega) (λ _ h=>h)
def mJ(l:mR)(seen:List Nat):mR:=l.filter λ e=> !seen.contains e.2.2
def UQ{it:Nat}(ho:o.op= .next x aF)(hx:ev x=aA (.it it))(hI:get it=aA (lB mid since seen c0))(hB:get mid=aA (nO q l clock))
 (hold:∀e∈l,e.2.2<since) (hsc:since<=c0):
 GoodN P Γ o ev get k [it,mid] (λ out=>(mJ l seen=[]/\out=⟨.tup [.lit (.bool aF)],k,[],[it,mid]⟩)∨
   ∃e,e∈mJ l seen/\out=⟨.tup [.lit (.bool aB),.lit (.int q e.1),.lit e.2.1],k,[(it,aA (lB mid since (seen++[e.2.2]) clock))],[it,mid]⟩):=by
 refine⟨λ w G ρ H A a hr hA hrd hop next Q hN=>?_,λ i hi=>by
  simp at hi;rcases hi with rfl|rfl;.rw[hI];rfl
  rw[hB];rfl,λ out h=>by rcases h with⟨_,rfl⟩|⟨_,_,rfl⟩<;>rfl⟩
 have hvx:=hop x pS _ hx;obtain⟨B1,A1,h2,hH1,hAA1⟩:=hrd it sS;rw[hI]at h2;cases h2;obtain⟨B2,A2,h2,hH2,hAA2⟩:=hrd mid sS;rw[hB]at h2;cases h2;obtain⟨hA1,b,hb,_,hBR1⟩:=hr.blk it _ A1 hH1;obtain⟨hA2,bm,hbm,_,hBR2⟩:=hr.blk mid _ A2 hH2;generalize hev:a.eval x=cv at hvx
 cases hvx with
 |dangi _ hn'=>rw[hb]at hn';cases hn'
 |it ha hρ hsh=>
  rw[hb]at hρ;cases hρ;obtain⟨hit,hshm⟩:=aMH hBR1 hsh hbm;obtain⟨es,hes,hel⟩:=KH hBR2 hshm;have hne:b≠bm:=λ h=>by rw[h,hes]at hit;cases hit
  have hmem:∀y,y∈es.toList↔∃e∈l,vD q e=y:=λ y=>by rw[hel];simp
  have hfil:(leftOf es seen.toArray).toList=(mJ l seen).map (vD q):=by unfold leftOf mJ;rw[Array.toList_filter,hel,List.filter_map];congr 1;apply bJJ;intro e _;simp[vD,Function.comp]
  have hupd0:jT H (λ i=>A i\/(k<=i/\i<k)) []=H:=rfl;have hAk:∀i,A i->(A i\/(k<=i/\i<k)):=λ _ h=> .inl h;rcases run_next_at (P:=P) w o.type b bm since c0 seen.toArray es clock hit hes (λ y hy=>by obtain⟨e,he,rfl⟩:=(hmem y).1 hy;exact hold e he) hsc with⟨h0,hrun⟩|⟨e',he',w1,hal,hrun⟩
  .have hnil:mJ l seen=[]:=by
    have h3:(leftOf es seen.toArray).toList.length=0:=by simpa using h0
    rw[hfil,dG]at h3;exact List.length_eq_zero_iff.1 h3
   unfold Oper.wp;have hrun':(execOp a.eval o).run P w= .ok (.value (.tuple #[.bool aF])) w:=by simp[execOp,ho,hev,hrun]
   rw[hrun'];refine hN _ (.inl ⟨hnil,rfl⟩) w G ρ _ ?_ (.tup rfl λ j v hj=>?_) (lF _ _ _ _);.exact hr
   match j,hj with
   |0,hj=>cases hj;exact .lit
   |j+1,hj=>simp at hj
  rw[hfil]at he';obtain⟨e,he,rfl⟩:=dM.1 he';have hw1:w1.heap=w.heap/\w1.os=w.os/\w1.tape=w.tape/\w1.output=w.output:=by rcases hal with rfl|rfl<;>exact⟨rfl,rfl,rfl,rfl⟩
  unfold Oper.wp;have hrun':(execOp a.eval o).run P w= .ok (.value (.tuple #[.bool aB,(vD q e).key,(vD q e).val])) (ChangeMaps.setBlock w1 b (.mapIter (aA bm) since (seen.toArray.push (vD q e).born) clock)):=by simp[execOp,ho,hev,hrun]
  rw[hrun'];have hbl:b<w.heap.size:=(dK.1 hit).1;have hheap:(ChangeMaps.setBlock w1 b (.mapIter (aA bm) since (seen.toArray.push (vD q e).born) clock)).heap=w.heap.setIfInBounds b (.mapIter (aA bm) since (seen.toArray.push (vD q e).born) clock):=by simp[ChangeMaps.setBlock,hw1.1]
  generalize hw':ChangeMaps.setBlock w1 b (.mapIter (aA bm) since (seen.toArray.push (vD q e).born) clock)=w' at hheap;have hos:w'.os=w.os/\w'.tape=w.tape/\w'.output=w.output:=by rw[<-hw'];exact hw1.2
  have hnew:w'.heap[b]? =aA (.mapIter (aA bm) since (seen++[e.2.2]).toArray clock):=by rw[hheap];simp[hbl,vD]
  have hoth:∀j,j≠b->w'.heap[j]? =w.heap[j]? :=λ j hj=>by rw[hheap,mA (Ne.symm hj)]
  have hvm:V w G ρ A (.mp mid) (.map (aA bm)):= .mp (hAA2 _ hA2) hbm hshm;have hrows:=aCT (since:=since) (c0:=clock) (seen:=seen++[e.2.2]) hvm
  obtain⟨g1,g2⟩:=hr.rewriteO (B:=lB mid since seen c0) hb it (.inl rfl) (lB mid since (seen++[e.2.2]) clock) rfl _ (.mapIter (aA bm) since (seen++[e.2.2]).toArray clock) .iter A (λ i=>A i\/(k<=i/\i<k)) (.inl rfl) hAk (.inl (hAA1 _ hA1))
   w' hnew hoth (by rw[hheap];simp) (by simp[shp,hnew,hit]) hos.1 hos.2.1 hos.2.2 hrows.1 hrows.2
  have hnm:fQ (fQ ρ it aC) it (aA (b,3))=ρ:=funext λ i=>by
   simp only[fQ];split;.rename_i h9;rw[h9,hb];rfl
   rfl
  rw[show(lB mid since seen c0).sz=3 from rfl,hnm]at g1 g2;have hup:jT H (λ i=>A i\/(k<=i/\i<k)) [(it,aA (lB mid since (seen++[e.2.2]) clock)),(it,aC)]=jT H (λ i=>A i\/(k<=i/\i<k)) [(it,aA (lB mid since (seen++[e.2.2]) clock))]:=funext λ i=>by simp only[jT];split<;>simp_all
  rw[hup]at g1;refine hN _ (.inr ⟨e,he,rfl⟩) w' G ρ _ g1 (.tup rfl λ j v hj=>?_) ⟨g2.size,g2.keep,g2.shape,g2.g,g2.g',g2.own,λ i _=>g2.ids i (dP rfl),g2.os,g2.tape,g2.output⟩
  match j,hj with
  |0,hj=>cases hj;exact .lit
  |1,hj=>cases hj;exact .lit
  |2,hj=>cases hj;exact .lit
  |j+3,hj=>simp at hj
def RB{it:Nat}(ho:o.op= .entry x)(hx:ev x=aA (.it it))(hI:get it=aA (lB mid since (seen++[e.2.2]) clock))
 (hB:get mid=aA (nO q l clock)) (he:e∈l) (hn:(l.map (·.2.2)).Nodup):Good P Γ o ev get k ⟨.tup [.lit (.int q e.1),.lit e.2.1],k,[],[it,mid]⟩:=by
 refine⟨cL λ w G ρ H A a hr hrd hop=>?_,λ i hi=>by
  simp at hi;rcases hi with rfl|rfl;.rw[hI];rfl
  rw[hB];rfl,aJ _⟩
 have hvx:=hop x pS _ hx;obtain⟨B1,A1,h2,hH1,_⟩:=hrd it sS;rw[hI]at h2;cases h2;obtain⟨B2,A2,h2,hH2,_⟩:=hrd mid sS;rw[hB]at h2;cases h2;obtain⟨_,b,hb,_,hBR1⟩:=hr.blk it _ A1 hH1;obtain⟨_,bm,hbm,_,hBR2⟩:=hr.blk mid _ A2 hH2;generalize hev:a.eval x=cv at hvx
 cases hvx with
 |dangi _ hn'=>rw[hb]at hn';cases hn'
 |it ha hρ hsh=>
  rw[hb]at hρ;cases hρ;obtain⟨hit,hshm⟩:=aMH hBR1 hsh hbm;obtain⟨es,hes,hel⟩:=KH hBR2 hshm;have hrun:=run_entry_at (P:=P) w b bm since seen.toArray es clock (vD q e) (by rw[hit];simp[vD]) hes (by rw[hel];exact dM.2 ⟨e,he,rfl⟩) (by rw[hel,kT];exact hn);refine⟨.tuple #[.int q e.1,e.2.1],by simp[execOp,ho,hev,hrun,vD],.tup rfl λ j v hj=>?_⟩
  match j,hj with
  |0,hj=>cases hj;exact .lit
  |1,hj=>cases hj;exact .lit
  |j+2,hj=>simp at hj
end
end Go.AM
end
section
namespace Go.Proofs.T
open Go Go.AM Go.Proofs
variable{α:Type}
variable{Γ:dW}
structure DelR where
 (n0 n1 n2 n3 n4 n5:Nat)
 (f0 f1 f2 f3 f4 f5:Nat->List AVal)
def DelR.cells (d:DelR):List AVal:=[.rd 2 d.n0 d.f0,.rd 2 d.n1 d.f1,.rd 2 d.n2 d.f2,.rd 1 d.n3 d.f3,.rd 8 d.n4 d.f4,.rd 5 d.n5 d.f5]
def DelR.size (d:DelR):Nat:=d.n0+d.n1+d.n2+d.n3+d.n4+d.n5
attribute [go_sem] DelR.cells
def bIN(k D id:Nat)(hD:D<k)(hid:id<k)(hne:D≠id)(l:List (List AVal))(hl:l.length<=100000)(c1 c2 c3 c4 c5:AVal)(i x:Int)
 (e1:iL (kC (k+2)) c1=aB) (e2:iL (kC (k+2)) c2=aB) (e3:iL (kC (k+2)) c3=aB) (e4:iL (kC (k+2)) c4=aB) (e5:iL (kC (k+2)) c5=aB):
 Tr aG Γ 54 k [i,x,.ptr D 0 0] (cM id 2 l [(D,⟨6,aF,[[dI id l,c1,c2,c3,c4,c5]]⟩)]) (λ k1 r1 H1=>k1=k+2/\r1= .tup []/\H1=[(k+1,⟨2,aB,l++[[aD (aE aH i),aD (aE aH x)]]⟩),(D,⟨6,aF,[[.sl (k+1) 0 (l.length+1),c1,c2,c3,c4,c5]]⟩)]):=by obtain⟨a1,a2,a3,a4,a5,a6⟩:=dB hD;obtain⟨b1,b2,b3,b4,b5,b6⟩:=dB hid;obtain⟨d1,d2⟩:=jG hne;refine bR Tryz.func54 rfl 13 rfl bB (pW ?_);have kp:Kp [0,1,2] (λ i=>if i=D then 0 else if i=id then 1 else i-k+2):=oR;have uU:=fB a1 a2 a3 a4 a5 a6 b1 b2 (fB b3 @b4 @b5 @b6 d1 d2 e1 e2 (uT e3 e4 e5));refine jI ?_;refine⟨k+2,[],_,?_,_,rfl,rfl,rfl,rfl⟩;(have uU:=fB a1 a2 a3 a4 a5 a6 b1 b2 (fB b3 @b4 @b5 @b6 d1 d2 e1 e2 (uT e3 e4 e5));exact pK)
def bIM(k D id:Nat)(hD:D<k)(hid:id<k)(hne:D≠id)(l:List (List AVal))(hl:l.length<=100000)(c1 c2 c3 c4 c5:AVal)(i x:Int)
 (e1:iL (kC (k+2)) c1=aB) (e2:iL (kC (k+2)) c2=aB) (e3:iL (kC (k+2)) c3=aB) (e4:iL (kC (k+2)) c4=aB) (e5:iL (kC (k+2)) c5=aB):
 Tr aG Γ 55 k [i,x,.ptr D 0 0] (cM id 2 l [(D,⟨6,aF,[[c1,dI id l,c2,c3,c4,c5]]⟩)]) (λ k1 r1 H1=>k1=k+2/\r1= .tup []/\H1=[(k+1,⟨2,aB,l++[[aD (aE aH i),aD (aE aH x)]]⟩),(D,⟨6,aF,[[c1,.sl (k+1) 0 (l.length+1),c2,c3,c4,c5]]⟩)]):=by obtain⟨a1,a2,a3,a4,a5,a6⟩:=dB hD;obtain⟨b1,b2,b3,b4,b5,b6⟩:=dB hid;obtain⟨d1,d2⟩:=jG hne;refine bR Tryz.func55 rfl 13 rfl bB (pW ?_);have kp:Kp [0,1,2] (λ i=>if i=D then 0 else if i=id then 1 else i-k+2):=oR;have uU:=fB a1 a2 a3 a4 a5 a6 b1 b2 (fB b3 @b4 @b5 @b6 d1 d2 e1 e2 (uT e3 e4 e5));refine jI ?_;refine⟨k+2,[],_,?_,_,rfl,rfl,rfl,rfl⟩;(have uU:=fB a1 a2 a3 a4 a5 a6 b1 b2 (fB b3 @b4 @b5 @b6 d1 d2 e1 e2 (uT e3 e4 e5));exact pK)
def bIL(k D id:Nat)(hD:D<k)(hid:id<k)(hne:D≠id)(l:List (List AVal))(hl:l.length<=100000)(c1 c2 c3 c4 c5:AVal)(i p x:Int)
 (e1:iL (kC (k+3)) c1=aB) (e2:iL (kC (k+3)) c2=aB) (e3:iL (kC (k+3)) c3=aB) (e4:iL (kC (k+3)) c4=aB) (e5:iL (kC (k+3)) c5=aB):
 Tr aG Γ 57 k [i,.agg [p,x],.ptr D 0 0] (cM id 2 l [(D,⟨6,aF,[[c1,c2,dI id l,c3,c4,c5]]⟩)]) (λ k1 r1 H1=>k1=k+3/\r1= .tup []/\H1=[(k+2,⟨2,aB,l++[[aD (aE aH i),aD (aE aH x)]]⟩),(D,⟨6,aF,[[c1,c2,.sl (k+2) 0 (l.length+1),c3,c4,c5]]⟩)]):=by obtain⟨a1,a2,a3,a4,a5,a6⟩:=dB hD;obtain⟨b1,b2,b3,b4,b5,b6⟩:=dB hid;obtain⟨d1,d2⟩:=jG hne;refine bR Tryz.func57 rfl 14 rfl bB (pW ?_);have kp:Kp [0,1,2,4] (λ i=>if i=D then 0 else if i=id then 1 else i-k+2):=oR;have uU:=fB a1 a2 a3 a4 a5 a6 b1 b2 (fB b3 @b4 @b5 @b6 d1 d2 e1 e2 (uT e3 e4 e5));refine jI ?_;refine⟨k+3,[],_,?_,_,rfl,rfl,rfl,rfl⟩;(have uU:=fB a1 a2 a3 a4 a5 a6 b1 b2 (fB b3 @b4 @b5 @b6 d1 d2 e1 e2 (uT e3 e4 e5));exact pK)
def bIK(k D E id:Nat)(hD:D<k)(hid:id<k)(hne:D≠id)(hE:E<k)(hDE:D≠E)(hEi:E≠id)(l:List (List AVal))(hl:l.length<=100000)(c1 c2 c3 c4 c5:AVal)(g i v r f:Int)
 (e1:iL (kC (k+3)) c1=aB) (e2:iL (kC (k+3)) c2=aB) (e3:iL (kC (k+3)) c3=aB) (e4:iL (kC (k+3)) c4=aB) (e5:iL (kC (k+3)) c5=aB):
 Tr aG Γ 60 k [i,.agg [aD (aE aI v),aD (aE aT r),aD (aE aI f)],.ptr D 0 0,.ptr E 0 0] (cM id 5 l [(D,⟨6,aF,[[c1,c2,c3,c4,c5,dI id l]]⟩),(E,⟨1,aB,[[g]]⟩)]) (λ k1 r1 H1=>k1=k+3/\r1= .tup []/\H1=[(k+2,⟨5,aB,l++[[aD (aE aH g),aD (aE aH i),aD (aE aI v),aD (aE aT r),aD (aE aI f)]]⟩),(D,⟨6,aF,[[c1,c2,c3,c4,c5,.sl (k+2) 0 (l.length+1)]]⟩),(E,⟨1,aB,[[aD (aE aH g)]]⟩)]):=by obtain⟨a1,a2,a3,a4,a5,a6⟩:=dB hD;obtain⟨b1,b2,b3,b4,b5,b6⟩:=dB hid;obtain⟨d1,d2⟩:=jG hne;obtain⟨g1,g2,g3,g4,g5,g6⟩:=dB hE;obtain⟨d3,d4⟩:=jG hDE;obtain⟨d5,d6⟩:=jG hEi;refine bR Tryz.func60 rfl 15 rfl bB (pW ?_);have kp:Kp [0,1,2,3,5] (λ i=>if i=D then 0 else if i=id then 1 else if i=E then 2 else i-k+3):=oR;have uU:=fB a1 a2 a3 a4 a5 a6 b1 b2 (fB b3 @b4 @b5 @b6 d1 d2 g1 g2 (fB g3 g4 g5 g6 d3 d4 d5 d6 (GX e1 e2 e3 e4 e5)));refine jI ?_;refine⟨k+3,[],_,?_,_,rfl,rfl,rfl,rfl⟩;(have uU:=fB a1 a2 a3 a4 a5 a6 b1 b2 (fB b3 @b4 @b5 @b6 d1 d2 g1 g2 (fB g3 g4 g5 g6 d3 d4 d5 d6 (GX e1 e2 e3 e4 e5)));exact pK)
def iH{α:Type}(f:Nat->List α):Nat->List α
 |0=>[]
 |n+1=>iH f n++f n
def zC{f:Nat->List α}:iH f 0=[]:=rfl
def wJ{f:Nat->List α}{n:Nat}:iH f (n+1)=iH f n++f n:=rfl
def lH{α:Type}{f:Nat->List α}{m:Nat}(h:∀i,(f i).length<=m):∀n,(iH f n).length<=n*m
 |0=>by simp[iH]
 |n+1=>by have:=lH h n;have:=h n;simp only[iH,bT,cW,Nat.one_mul];omega
def nG{α:Type}{f g:Nat->List α}:∀ {n:Nat},(∀i,i<n->f i=g i)->iH f n=iH g n
 |0,_=>rfl
 |n+1,h=>by rw[iH,iH,nG (λ i hi=>h i oO),h n oO]
def LX{α:Type}(b:Bool)(x:α):List α:=if b=aB then [x]else []
def IG(b:Bool)(x:α):(LX b x).length<=1:=by unfold LX;split<;>simp
structure Dl where
 ck:List (Int×Int)
 cu:List (Int×Int)
 wg:List (Int×Int)
 gn:List Int
 tk:List Tk
 sp:List (Int×Int×Sp)
def mI(x:Int×Int):List AVal:=[aD (aE aH x.1),aD (aE aH x.2)]
def nR(n:Int):List AVal:=[aD (aE aH n)]
def tR(t:Tk):List AVal:=[aD (aE aH t.id),aD (aE aH t.group),aD (aE aH t.weight),aD (aE aH t.cpu),aD (aE aI t.mask),aD (bC t.ready),aD (aE aI t.v),aD (aE aT t.r)]
def pR(x:Int×Int×Sp):List AVal:=[aD (aE aH x.1),aD (aE aH x.2.1),aD (aE aI x.2.2.v),aD (aE aT x.2.2.r),aD (aE aI x.2.2.floor)]
def Dl.cells (d:Dl):List AVal:=[rows 2 (d.ck.map mI),rows 2 (d.cu.map mI),rows 2 (d.wg.map mI),rows 1 (d.gn.map nR),rows 8 (d.tk.map tR),rows 5 (d.sp.map pR)]
def mC(a b:Nat->Int)(i:Nat):List (Int×Int):=LX (b i !=a i) ((i:Int),b i)
def wK(a b:St)(i:Nat):List (Int×Int):=LX (decide (¬(a.par i=b.par i/\a.wt i=b.wt i))) ((i:Int),b.wt i)
def FF(x y:Sp):Bool:=decide (¬(x.v=y.v/\x.r=y.r/\x.floor=y.floor))
def qJ(a b:St)(g i:Nat):List (Int×Int×Sp):=LX (FF (a.sp g i) (b.sp g i)) ((g:Int),(i:Int),b.sp g i)
end Go.Proofs.T
end
section
namespace Go.Proofs.T
open Go Go.AM Go.Proofs
variable{e:Int×Value×Nat}{acc:List Int}{seen:List Nat}{i n:Nat}{a b:St}{l:mR}
def EC(s:St):Prop:=∀i j,i<j->j<s.nt->(s.tsk i).id<(s.tsk j).id
structure IdOk (s:St):Prop where
 st:EC s
 lo:∀i,i<s.nt->1<=(s.tsk i).id
 hi:∀i,i<s.nt->(s.tsk i).id<=65535
def QU{f:Nat->List Flt}(h:(cI f n).length=0):∀i,i<n->(f i).length=0:=λ i hi=>by
 cases hf:f i with
 |nil=>rfl
 |cons x l=>have hm:x∈cI f n:=mem_flats.2 ⟨i,hi,by rw[hf];simp⟩;rw[jE h]at hm;cases hm
def aQJ{b:Bool}{f:Flt}(h:(jC b f).length=0):b=aF:=by
 cases b;.rfl
 simp[jC]at h
def AL{s:St}(h:(dR s).length=0):IdOk s:=by
 have hp:(pH s).length=0:=by
  unfold dR at h;split at h;.simp at h
  split at h;.omega
  split at h<;>omega
 have hb:(cI (ZO s) 7).length=0:=by unfold pH at hp;simp only[bT]at hp;omega
 have hr:∀r:Nat,r<7->∀i,i<s.nt->brk s i ((r:Int)+4)=aF:=λ r hr i hi=>by have h1:=QU hb r hr;have h2:=QU (f:=MF s r) (n:=s.nt) h1 i hi;exact aQJ h2
 have h4:∀i,i<s.nt->t4 s i=aF:=λ i hi=>by have:=hr 0 oO i hi;rwa [bOR oO]at this
 have h5:∀i,i<s.nt->t5 s i=aF:=λ i hi=>by have:=hr 1 oO i hi;rwa [bOQ oO]at this
 have hadj:∀i,i+1<s.nt->(s.tsk i).id<(s.tsk (i+1)).id:=λ i hi=>by have h9:=h4 (i+1) hi;simp only[t4,BQ,dFn,a7O]at h9;omega
 refine⟨λ i j hij=>?_,λ i hi=>?_,λ i hi=>?_⟩
 .induction j with
  |zero=>omega
  |succ j ih=>
   intro hj;have h1:=hadj j hj;by_cases he:i=j;.subst he;exact h1
   have:=ih oO oO;omega
 .have:=h5 i hi;simp only[t5,dFn]at this;omega
 have:=h5 i hi;simp only[t5,dFn]at this;omega
def idB(s:St)(n:Nat)(x:Int):Bool:=nI (λ j=>(s.tsk j).id==x) n
def CF(s:St)(x:Int):Option Nat:=f0 (λ j=>(s.tsk j).id==x) s.nt
def aFK(x y:Tk):Bool:=decide (¬(x.id=y.id/\x.group=y.group/\x.weight=y.weight/\x.cpu=y.cpu/\x.mask=y.mask/\x.ready=y.ready/\x.v=y.v/\x.r=y.r))
def VM(a b:St)(i:Nat):List Int:=LX (!(idB b b.nt (a.tsk i).id)) (a.tsk i).id
def aVH(a b:St)(i:Nat):Bool:=match CF a (b.tsk i).id with
 |none=>aB
 |some j=>aFK (a.tsk j) (b.tsk i)
def mY(a b:St)(i:Nat):List Tk:=LX (aVH a b i) (b.tsk i)
def tkV(t:Tk):Value:= .agg #[.int .i64 t.id,.int .i64 t.group,.int .i64 t.weight,.int .i64 t.cpu,.int .u64 t.mask,.bool t.ready,.int .u64 t.v,.int .u32 t.r]
def pD(a:St)(n:Nat):mR:=(aR n).map λ j=>((a.tsk j).id,tkV (a.tsk j),j)
def OZ:pD a (n+1)=pD a n++[((a.tsk n).id,tkV (a.tsk n),n)]:=by unfold pD;rw[List.range_succ,aQ];rfl
def mem_tEnts:e∈pD a n↔∃j,j<n/\e=((a.tsk j).id,tkV (a.tsk j),j):=by unfold pD;rw[dM];exact⟨λ⟨j,h1,h2⟩=>⟨j,dX.1 h1,h2.symm⟩,λ⟨j,h1,h2⟩=>⟨j,dX.2 h1,h2.symm⟩⟩
def aOM(h:EC a)(hn:n<a.nt):∀e∈pD a n,e.1≠(a.tsk n).id:=λ e he=>by obtain⟨j,hj,rfl⟩:=mem_tEnts.1 he;have:=h j n hj hn;simp only;omega
def WU{x:Int}(h1:1<=x)(h2:x<=65535):wfK .i64 x=aB:=by
 have e1:aH.min= -9223372036854775808:=by decide
 have e2:aH.max=9223372036854775807:=by decide
 simp[wfK,Lit.wf,e1,e2];omega
def aAW(h:IdOk a)(hn:n<=a.nt):∀e∈pD a n,wfK .i64 e.1=aB:=λ e he=>by obtain⟨j,hj,rfl⟩:=mem_tEnts.1 he;exact WU (h.lo j oO) (h.hi j oO)
def KK(a b:St)(i:Nat):mR:=(pD a a.nt).filter λ e=> !(idB b i e.1)
def aWF:KK a b 0=pD a a.nt:=xK.2 λ e he=>rfl
def aWH:KK a b (i+1)=RJ (KK a b i) (b.tsk i).id:=by unfold KK RJ;rw[List.filter_filter];apply bJJ;intro e _;rw[idB,nI,Bool.not_or,Bool.and_comm];congr 1;rw[show((b.tsk i).id==e.1)=(e.1==(b.tsk i).id)from eY.2 (by simp only[beq_iff_eq];exact⟨Eq.symm,Eq.symm⟩)]
def aLT(he:e∈KK a b i):∃j,j<a.nt/\e=((a.tsk j).id,tkV (a.tsk j),j):=mem_tEnts.1 (lK.1 he).1
def aWG(h:IdOk a):∀e∈KK a b i,wfK .i64 e.1=aB:=λ e he=>aAW h (aJ _) e (lK.1 he).1
def aFM(h:EC a):JI (pD a a.nt):=by unfold JI pD;rw[kT];unfold List.Nodup;rw[FK];refine vH.imp_of_mem (λ {x y} hx hy hxy=>?_) bEF;have:=h x y hxy (dX.1 hy);simp only[Function.comp];omega
def QE(h:EC a):JI (KK a b i):=
 List.Nodup.sublist (List.Sublist.map _ List.filter_sublist) (aFM h)
def aGY:((KK a b i).map (·.2.2)).Nodup:=by refine List.Nodup.sublist (List.Sublist.map _ List.filter_sublist) ?_;unfold pD;rw[kT];have:((λ x:Int×Value×Nat=>x.2.2)∘λ j=>((a.tsk j).id,tkV (a.tsk j),j))=id:=rfl;rw[this,List.map_id];exact List.nodup_range
def a4I:∀e∈KK a b i,e.2.2<a.nt:=λ e he=>by obtain⟨j,hj,rfl⟩:=aLT he;exact hj
def OE{f:Nat->Bool}:∀ {n:Nat} {i:Nat},f0 f n=aA i->i<n/\f i=aB
 |0,i,h=>by simp[f0]at h
 |n+1,i,h=>by
  rw[f0]at h;split at h;.rename_i j hj;cases h;have:=OE hj;exact⟨oO,this.2⟩
  split at h;.cases h;exact⟨oO,by assumption⟩
  cases h
def KS{f:Nat->Bool}:∀ {n:Nat},f0 f n=aC->∀i,i<n->f i=aF
 |0,_,i,hi=>absurd hi oO
 |n+1,h,i,hi=>by
  rw[f0]at h;split at h;.cases h
  split at h;.cases h
  rename_i h1 h2;by_cases he:i=n;.subst he;simpa using h2
  exact KS h1 i oO
def aWI(ha:EC a)(hb:EC b)(hi:i<b.nt):BV (KK a b i) (b.tsk i).id=(CF a (b.tsk i).id).map λ j=>tkV (a.tsk j):=by
 cases hf:CF a (b.tsk i).id with
 |none=>have h:=KS hf;rw[QX λ e he=>?_];rfl;obtain⟨j,hj,rfl⟩:=aLT he;have:=h j hj;simpa using this
 |some j=>
  obtain⟨hj,he⟩:=OE hf;simp only[beq_iff_eq]at he;have hm:((a.tsk j).id,tkV (a.tsk j),j)∈KK a b i:=lK.2 ⟨mem_tEnts.2 ⟨j,hj,rfl⟩,by rw[dV];exact BG λ q hq=>by have:=hb q i hq hi;simp only[beq_eq_false_iff_ne];omega⟩
  obtain⟨q,hq⟩:=List.mem_iff_getElem?.1 hm;rw[QW (QE ha) hq he];rfl
def CE(a b:St):List Int:=iH (VM a b) a.nt
def aCN:(KK a b b.nt).map (·.1)=CE a b:=by
 have h:∀n,((pD a n).filter λ e=> !(idB b b.nt e.1)).map (·.1)=iH (VM a b) n:=λ n=>by
  induction n with
  |zero=>rfl
  |succ n ih=>
   rw[OZ,OT,aQ,ih,wJ,VM,LX];cases h: !(idB b b.nt (a.tsk n).id);all_goals(simp only[bVJ,h])
   all_goals(first|rfl|simp)
 exact h a.nt
def aCY(h:EC a):(CE a b).Pairwise (λ x y=>x<=y):=by
 rw[<-aCN];rw[FK];have h1:(pD a a.nt).Pairwise (λ x y=>x.1<=y.1):=by unfold pD;rw[FK];refine vH.imp_of_mem (λ {x y} hx hy hxy=>?_) bEF;have:=h x y hxy (dX.1 hy);simp only;omega
 exact h1.filter _
def aYX:mJ l []=l:=xK.2 λ e _=>rfl
def aSW(hn:(l.map (·.2.2)).Nodup)(he:e∈l):l.Perm (e::l.filter λ x=> !(x.2.2==e.2.2)):=by
 induction l with
 |nil=>cases he
 |cons a l ih=>
  simp only[bN,List.nodup_cons]at hn;rcases fO.1 he with rfl|h1;.rw[List.filter_cons_of_neg sS,xK.2 λ x hx=>by have:x.2.2≠e.2.2:=λ h=>hn.1 (h▸dM.2 ⟨x,hx,rfl⟩);simpa using this]
  have hne:a.2.2≠e.2.2:=λ h=>hn.1 (h▸dM.2 ⟨e,h1,rfl⟩);rw[List.filter_cons_of_pos (by simpa using hne)];exact((ih hn.2 h1).cons a).trans (iF.swap _ _ _)
def VZ(hn:(l.map (·.2.2)).Nodup)(he:e∈mJ l seen):(mJ l seen).Perm (e::mJ l (seen++[e.2.2])):=by
 have h1:mJ l (seen++[e.2.2])=(mJ l seen).filter λ x=> !(x.2.2==e.2.2):=by unfold mJ;rw[List.filter_filter];apply bJJ;intro x _;rw[eY];simp only[List.contains_eq_mem,dJ,tA,aO,dV,dFn,beq_eq_false_iff_ne,ne_eq,not_or];exact And.comm
 rw[h1];exact aSW (List.Nodup.sublist (List.Sublist.map _ List.filter_sublist) hn) he
def JO(l:mR)(x:List Nat×List Int):Prop:=(x.2++(mJ l x.1).map (·.1)).Perm (l.map (·.1))
def aHL:JO l ([],[]):=by unfold JO;rw[aYX];exact iF.refl _
def aHM(hn:(l.map (·.2.2)).Nodup)(h:JO l (seen,acc))(he:e∈mJ l seen):JO l (seen++[e.2.2],acc++[e.1]):=by
 unfold JO at*
 simp only at*
 have h1:=(VZ hn he).map (·.1);rw[dA];exact(iF.append_left acc h1.symm).trans h
def aQO(h:JO l (seen,acc)):acc.length<=l.length:=by have:=iF.length_eq h;simp only[bT,dG]at this;omega
def aQP(h:JO l (seen,acc))(h0:mJ l seen=[]):(l.map (·.1)).Perm acc:=by unfold JO at h;simp only[h0,bV,cX]at h;exact h.symm
def aYY(hn:(l.map (·.2.2)).Nodup)(he:e∈mJ l seen):(mJ l (seen++[e.2.2])).length<(mJ l seen).length:=by have:=(VZ hn he).length_eq;simp only[iI]at this;omega
def GM(a b:St):Dl:=⟨iH (mC a.clk b.clk) a.nk,iH (mC a.cur b.cur) a.nk,iH (wK a b) a.ng,CE a b,iH (mY a b) b.nt,iH (λ g=>iH (qJ a b g) a.nk) a.ns⟩
def noDl:Dl:=⟨[],[],[],[],[],[]⟩
def btw(a b:St):Dl:=if uO a b then noDl else if SS a b a.ng=aF then noDl else GM a b
def yF(a b:St):Int:=if uO a b then 350 else if SS a b a.ng=aF then 351 else 0
end Go.Proofs.T
end
section
namespace Go.Proofs.T
open Go Go.AM
variable{α β:Type}{z:α}{d:Dl}{l:List (Int×Int)}{gn:List Int}{la lb m r tk:List Tk}{K N S b c g i j q:Nat}{now:Nat->Nat->Sp}{a s:St}{x:Tk}
section
variable{β:Type}(ne:β->β->Bool)
def dif(now to:Nat->β)(i:Nat):List (Nat×β):=LX (ne (to i) (now i)) (i,to i)
def upd(now:Nat->β)(l:List (Nat×β))(i:Nat):β:=match l.find? (λ x=>x.1==i)with
 |some x=>x.2
 |none=>now i
structure ChOk (N:Nat) (now:Nat->β) (l:List (Nat×β)):Prop where
 inc:l.Pairwise (λ x y=>x.1<y.1)
 lt:∀x∈l,x.1<N
 ne:∀x∈l,ne x.2 (now x.1)=aB
variable{ne}
def mem_flx{α:Type}{f:Nat->List α}{x:α}:∀ {n:Nat},x∈iH f n↔∃i,i<n/\x∈f i
 |0=>by simp[iH]
 |n+1=>by
  rw[iH,dJ,mem_flx];constructor
  .rintro(⟨i,h1,h2⟩|h);.exact⟨i,oO,h2⟩
   exact⟨n,oO,h⟩
  rintro⟨i,h1,h2⟩;by_cases he:i=n;.subst he;exact dP h2
  exact dE ⟨i,oO,h2⟩
def mem_if1{b:Bool}{x y:α}:x∈LX b y↔b=aB/\x=y:=by unfold LX;split<;>simp_all
def aDG{α:Type}{r:α->α->Prop}{f:Nat->List α}(h1:∀i,(f i).Pairwise r)(h2:∀i j,i<j->∀x∈f i,∀y∈f j,r x y):∀n,(iH f n).Pairwise r
 |0=> .nil
 |n+1=>by rw[iH,bWF];refine⟨aDG h1 h2 n,h1 n,λ x hx y hy=>?_⟩;obtain⟨i,hi,hx⟩:=mem_flx.1 hx;exact h2 i n hi x hx y hy
def aXB{r:α->α->Prop}(b:Bool)(x:α):(LX b x).Pairwise r:=by unfold LX;split<;>simp
def RF(now to:Nat->β)(N:Nat):ChOk ne N now (iH (dif ne now to) N) where
 inc:=aDG (λ i=>aXB _ _) (λ i j hij x hx y hy=>by rw[(mem_if1.1 hx).2,(mem_if1.1 hy).2];exact hij) N
 lt x hx:=by obtain⟨i,hi,hx⟩:=mem_flx.1 hx;rw[(mem_if1.1 hx).2];exact hi
 ne x hx:=by obtain⟨i,hi,hx⟩:=mem_flx.1 hx;obtain⟨h1,rfl⟩:=mem_if1.1 hx;exact h1
def aAR{now:Nat->β}{l:List (Nat×β)}(h:∀x∈l,x.1≠i):upd now l i=now i:=by unfold upd;rw[a7S.2 (λ x hx=>by simpa using h x hx)]
def aAQ{N:Nat}{now:Nat->β}{l:List (Nat×β)}(h:l.Pairwise (λ x y=>x.1<y.1)){x:Nat×β}(hx:x∈l):upd now l x.1=x.2:=by
 unfold upd
 cases hf:l.find? (λ y=>y.1==x.1)with
 |none=>have:=a7S.1 hf x hx;simp at this
 |some y=>
  have h1:y.1=x.1:=by have:=List.find?_some hf;simpa using this
  have h2:=List.mem_of_find?_eq_some hf
  have:y=x:=by
   obtain⟨i,hi,ei⟩:=uP.1 h2;obtain⟨j,hj,ej⟩:=uP.1 hx;have hp:=CI.1 h;rcases kR i j with hij|hij|hij;.have:=hp i j hi hj hij;rw[ei,ej]at this;omega
   .subst hij;rw[<-ei,<-ej]
   have:=hp j i hj hi hij;rw[ei,ej]at this;omega
  rw[this]
def aKA(hne:∀x y,ne x y=aF->x=y)(now to:Nat->β)(hi:i<N):upd now (iH (dif ne now to) N) i=to i:=by
 cases hb:ne (to i) (now i)with
 |true=>have hm:(i,to i)∈iH (dif ne now to) N:=mem_flx.2 ⟨i,hi,mem_if1.2 ⟨hb,rfl⟩⟩;exact aAQ (N:=N) (RF now to N).inc hm
 |false=>rw[aAR,hne _ _ hb];rintro x hx rfl;obtain⟨j,hj,hx⟩:=mem_flx.1 hx;obtain⟨h1,rfl⟩:=mem_if1.1 hx;rw[hb]at h1;cases h1
def vW{key:α->Int}{l m:List α}(h1:l.Pairwise (λ x y=>key x<key y))(h2:m.Pairwise (λ x y=>key x<key y))(h:∀x,x∈l↔x∈m):l=m:=by
 have hn:∀ {q:List α},q.Pairwise (λ x y=>key x<key y)->q.Nodup:=λ hq=>hq.imp λ hxy he=>by subst he;omega
 have hp:l.Perm m:=(List.perm_ext_iff_of_nodup (hn h1) (hn h2)).2 h;refine iF.eq_of_pairwise (le:=λ x y=>key x<key y) (λ a b ha hb h3 h4=>oO) h1 h2 hp
def aNB(hnn:∀x,ne x x=aF){now:Nat->β}{l:List (Nat×β)}(h:ChOk ne N now l):iH (dif ne now (upd now l)) N=l:=by
 refine vW (key:=λ x=>(x.1:Int)) ((RF now _ N).inc.imp λ hxy=>oO) (h.inc.imp λ hxy=>oO) λ x=>?_;constructor
 .intro hx;obtain⟨i,hi,hx⟩:=mem_flx.1 hx;obtain⟨h1,rfl⟩:=mem_if1.1 hx
  cases hf:l.find? (λ y=>y.1==i)with
  |none=>
   have e:upd now l i=now i:=by unfold upd;rw[hf]
   rw[e,hnn]at h1;cases h1
  |some y=>
   have e:upd now l i=y.2:=by unfold upd;rw[hf]
   have e2:y.1=i:=by have:=List.find?_some hf;simpa using this
   have h2:=List.mem_of_find?_eq_some hf;rw[e,<-e2];exact h2
 intro hx;have e:=aAQ (N:=N) (now:=now) h.inc hx;refine mem_flx.2 ⟨x.1,h.lt x hx,mem_if1.2 ⟨by rw[e];exact h.ne x hx,by rw[e]⟩⟩
end
def IdL(l:List Tk):Prop:=l.Pairwise (λ x y=>x.id<y.id)
def IdL.uniq{l:List Tk}(h:IdL l){y:Tk}(hx:x∈l)(hy:y∈l)(he:x.id=y.id):x=y:=by
 obtain⟨i,hi,ei⟩:=uP.1 hx;obtain⟨j,hj,ej⟩:=uP.1 hy;have hp:=CI.1 h;rcases kR i j with hij|hij|hij;.have:=hp i j hi hj hij;rw[ei,ej]at this;omega
 .subst hij;rw[<-ei,<-ej]
 have:=hp j i hj hi hij;rw[ei,ej]at this;omega
def CD(l:List Tk)(x:Int):Prop:=∃t∈l,t.id=x
instance (l:List Tk)(x:Int):Decidable (CD l x):=by unfold CD;infer_instance
def gnL(la lb:List Tk):List Int:=(la.filter λ t=> !decide (CD lb t.id)).map (·.id)
def nwL [DecidableEq Tk](la lb:List Tk):List Tk:=lb.filter λ t=> !decide (t∈la)
def FP(la:List Tk)(gn:List Int)(tk:List Tk):List Tk:=la.filter λ t=> !(gn.contains t.id)&& !decide (CD tk t.id)
def rQ(la:List Tk)(gn:List Int)(tk m:List Tk):Prop:=IdL m/\∀x,x∈m↔x∈tk\/x∈FP la gn tk
structure TkFit (la:List Tk) (gn:List Int) (tk:List Tk):Prop where
 gi:gn.Pairwise (λ x y=>x<y)
 ga:∀x∈gn,CD la x
 gt:∀x∈gn,¬CD tk x
 ti:IdL tk
 ta:∀t∈tk,t∉la
def mem_stay:x∈FP la gn tk↔x∈la/\x.id∉gn/\¬CD tk x.id:=by unfold FP;simp[lK]
def mem_gnL{x:Int}:x∈gnL la lb↔CD la x/\¬CD lb x:=by
 unfold gnL;simp only[dM,lK,dV,dFn];constructor;.rintro⟨t,⟨h1,h2⟩,rfl⟩;exact⟨⟨t,h1,rfl⟩,h2⟩
 rintro⟨⟨t,h1,rfl⟩,h2⟩;exact⟨t,⟨h1,h2⟩,rfl⟩
def aML(h:IdL la):(gnL la lb).Pairwise (λ x y=>x<y):=by unfold gnL;rw[FK];exact vH.filter _ h
def aCB{n:List Tk}(h1:rQ la gn tk m)(h2:rQ la gn tk n):m=n:=
 vW (key:=λ t:Tk=>t.id) h1.1 h2.1 λ x=>(h1.2 x).trans (h2.2 x).symm
section
variable [DecidableEq Tk]
def mem_nwL:x∈nwL la lb↔x∈lb/\x∉la:=by unfold nwL;simp[lK]
def aLA(h:IdL lb):IdL (nwL la lb):=vH.filter _ h
def aYK(ha:IdL la)(hb:IdL lb):TkFit la (gnL la lb) (nwL la lb) where
 gi:=aML ha
 ga x hx:=(mem_gnL.1 hx).1
 gt x hx:=λ⟨t,ht,he⟩=>(mem_gnL.1 hx).2 ⟨t,(mem_nwL.1 ht).1,he⟩
 ti:=aLA hb
 ta t ht:=(mem_nwL.1 ht).2
def aIK(ha:IdL la)(hb:IdL lb):rQ la (gnL la lb) (nwL la lb) lb:=by
 refine⟨hb,λ x=>?_⟩;rw[mem_nwL,mem_stay,mem_gnL];constructor
 .intro hx;by_cases hxa:x∈la;.refine dP ⟨hxa,λ h=>h.2 ⟨x,hx,rfl⟩,λ⟨t,ht,he⟩=>?_⟩;have:=hb.uniq (mem_nwL.1 ht).1 hx he;subst this;exact(mem_nwL.1 ht).2 hxa
  exact dE ⟨hx,hxa⟩
 rintro(h|⟨h1,h2,h3⟩);.exact h.1
 by_cases hi:CD lb x.id
 .obtain⟨t,ht,he⟩:=hi;by_cases hta:t∈la;.have:=ha.uniq hta h1 he;subst this;exact ht
  exact absurd ⟨t,mem_nwL.2 ⟨ht,hta⟩,he⟩ h3
 exact absurd ⟨⟨x,h1,rfl⟩,hi⟩ h2
def aXN(ha:IdL la)(hf:TkFit la gn tk)(hm:rQ la gn tk m):gnL la m=gn/\nwL la m=tk:=by
 have hI:∀x,CD m x↔CD tk x\/(CD la x/\x∉gn):=λ x=>by
  constructor
  .rintro⟨t,ht,rfl⟩;rcases(hm.2 t).1 ht with h|h;.exact dE ⟨t,h,rfl⟩
   obtain⟨h1,h2,h3⟩:=mem_stay.1 h;exact .inr ⟨⟨t,h1,rfl⟩,h2⟩
  rintro(⟨t,ht,rfl⟩|⟨⟨t,ht,rfl⟩,h2⟩);.exact⟨t,(hm.2 t).2 (dE ht),rfl⟩
  by_cases hk:CD tk t.id;.obtain⟨u,hu,he⟩:=hk;exact⟨u,(hm.2 u).2 (.inl hu),he⟩
  exact⟨t,(hm.2 t).2 (dP (mem_stay.2 ⟨ht,h2,hk⟩)),rfl⟩
 constructor
 .refine vW (key:=λ x:Int=>x) (aML ha) hf.gi λ x=>?_;rw[mem_gnL,hI];constructor;.rintro⟨h1,h2⟩;exact Classical.byContradiction λ h3=>h2 (dP ⟨h1,h3⟩)
  intro h;exact⟨hf.ga x h,λ h2=>h2.elim (hf.gt x h) λ h3=>h3.2 h⟩
 refine vW (key:=λ t:Tk=>t.id) (aLA hm.1) hf.ti λ x=>?_;rw[mem_nwL,hm.2];constructor
 .rintro⟨h1|h1,h2⟩;.exact h1
  exact absurd (mem_stay.1 h1).1 h2
 intro h;exact⟨dE h,hf.ta x h⟩
end
deriving instance DecidableEq for Tk
deriving instance DecidableEq for Sp
def YR{α β:Type}(g:α->β){f:Nat->List α}:∀n,(iH f n).map g=iH (λ i=>(f i).map g) n
 |0=>rfl
 |n+1=>by rw[iH,iH,aQ,YR g n]
def aMJ(g:α->β)(b:Bool)(x:α):(LX b x).map g=LX b (g x):=by unfold LX;split<;>rfl
def aMP{α:Type}{f:Nat->List α}(m:Nat):∀n,iH f (m+n)=iH f m++iH (λ i=>f (m+i)) n
 |0=>by simp[iH]
 |n+1=>by rw[<-gM,iH,iH,aMP m n,dA]
def YS{α:Type}(h:Nat->Nat->List α)(K:Nat):∀n,iH (λ g=>iH (h g) K) n=iH (λ i=>h (i/K) (i%K)) (n*K)
 |0=>by simp[iH]
 |n+1=>by
  rw[iH,cW,Nat.one_mul,aMP,YS h K n];congr 1;refine nG λ i hi=>?_;have h1:(n*K+i)/K=n:=by rw[jN,Nat.mul_add_div oO,Nat.div_eq_of_lt hi,kG]
  have h2:(n*K+i)%K=i:=by rw[jN,Nat.mul_add_mod,LC hi]
  rw[h1,h2]
def neI(x y:Int):Bool:=x !=y
def toN(l:List (Int×Int)):List (Nat×Int):=l.map λ x=>(x.1.toNat,x.2)
def ofN(l:List (Nat×Int)):List (Int×Int):=l.map λ x=>((x.1:Int),x.2)
structure ValOk (N:Nat) (now:Nat->Int) (l:List (Int×Int)):Prop where
 lo:∀x∈l,0<=x.1
 ok:ChOk neI N now (toN l)
def aKD(l:List (Nat×Int)):toN (ofN l)=l:=by unfold toN ofN;rw[kT];exact(fR λ x _=>sS).trans (List.map_id _)
def a3Q(h:∀x∈l,0<=x.1):ofN (toN l)=l:=by unfold toN ofN;rw[kT];refine(fR λ x hx=>?_).trans (List.map_id _);have:=h x hx;simp only[Function.comp,id];rw[gY this]
def OI(now to:Nat->Int)(N:Nat):iH (mC now to) N=ofN (iH (dif neI now to) N):=by unfold ofN;rw[YR];exact nG λ i _=>by rw[dif,aMJ];rfl
def OG(now to:Nat->Int)(N:Nat):ValOk N now (iH (mC now to) N) where
 lo x hx:=by rw[OI]at hx;obtain⟨y,_,rfl⟩:=dM.1 hx;exact tC _
 ok:=by rw[OI,aKD];exact RF _ _ _
def WV{now:Nat->Int}(h:ValOk N now l):iH (mC now (upd now (toN l))) N=l:=by rw[OI,aNB (by simp[neI]) h.ok,a3Q h.lo]
def OV(now to:Nat->Int)(hi:i<N):upd now (toN (iH (mC now to) N)) i=to i:=by rw[OI,aKD,aKA (by simp[neI]) now to hi]
def neS(x y:Sp):Bool:=FF y x
def aOR(x:Sp):FF x x=aF:=by simp[FF]
def a2M{x y:Sp}(h:FF x y=aF):x=y:=by obtain⟨a,b,c⟩:=x;obtain⟨d,e,f⟩:=y;simp[FF]at h;simp[h]
def BX(K:Nat)(l:List (Int×Int×Sp)):List (Nat×Sp):=l.map λ x=>(x.1.toNat*K+x.2.1.toNat,x.2.2)
def unS(K:Nat)(l:List (Nat×Sp)):List (Int×Int×Sp):=l.map λ x=>(((x.1/K:Nat):Int),((x.1%K:Nat):Int),x.2)
def JZ(K:Nat)(now:Nat->Nat->Sp)(i:Nat):Sp:=now (i/K) (i%K)
structure SpotOk (S K:Nat) (now:Nat->Nat->Sp) (l:List (Int×Int×Sp)):Prop where
 rng:∀x∈l,0<=x.1/\x.1<S/\0<=x.2.1/\x.2.1<K
 ok:ChOk neS (S*K) (JZ K now) (BX K l)
def aNG(l:List (Nat×Sp))(hK:0<K):BX K (unS K l)=l:=by unfold BX unS;rw[kT];refine(fR λ x _=>?_).trans (List.map_id _);simp only[Function.comp,id,bW];rw[jN,FJ]
def IS(hc:c<K):(g*K+c)/K=g/\(g*K+c)%K=c:=by
 constructor;.rw[jN,Nat.mul_add_div oO,Nat.div_eq_of_lt hc,kG]
 rw[jN,Nat.mul_add_mod,LC hc]
variable{l:List (Int×Int×Sp)}
def a1W(h:∀x∈l,0<=x.1/\x.1<S/\0<=x.2.1/\x.2.1<K):unS K (BX K l)=l:=by unfold BX unS;rw[kT];refine(fR λ x hx=>?_).trans (List.map_id _);obtain⟨h1,h2,h3,h4⟩:=h x hx;obtain⟨h5,h6⟩:=IS (K:=K) (g:=x.1.toNat) (c:=x.2.1.toNat) oO;simp only[Function.comp,id];rw[h5,h6,gY h1,gY h3]
def OF(a b:St)(S K:Nat):iH (λ g=>iH (qJ a b g) K) S=unS K (iH (dif neS (JZ K a.sp) (JZ K b.sp)) (S*K)):=by rw[YS];unfold unS;rw[YR];exact nG λ i _=>by rw[dif,aMJ];rfl
def ZB(a b:St)(S K:Nat)(hK:0<K):SpotOk S K a.sp (iH (λ g=>iH (qJ a b g) K) S) where
 rng x hx:=by rw[OF]at hx;obtain⟨y,hy,rfl⟩:=dM.1 hx;have h1:=(RF (ne:=neS) _ _ _).lt y hy;have h2:y.1/K<S:=aEZ (by rw[jN];exact h1);have h3:=Nat.mod_lt y.1 hK;exact⟨tC _,Int.ofNat_lt.2 h2,tC _,Int.ofNat_lt.2 h3⟩
 ok:=by rw[OF,aNG _ hK];exact RF _ _ _
def upS(K:Nat)(now:Nat->Nat->Sp)(l:List (Int×Int×Sp))(g c:Nat):Sp:=match l.find? (λ x=>x.1==(g:Int)&&x.2.1==(c:Int))with
 |some x=>x.2.2
 |none=>now g c
def aKB(h:∀x∈l,0<=x.1/\x.1<S/\0<=x.2.1/\x.2.1<K)(hc:c<K):upS K now l g c=upd (JZ K now) (BX K l) (g*K+c):=by
 obtain⟨h5,h6⟩:=IS (g:=g) hc
 have key:∀x∈l,(x.1==(g:Int)&&x.2.1==(c:Int))=(x.1.toNat*K+x.2.1.toNat==g*K+c):=λ x hx=>by
  obtain⟨h1,h2,h3,h4⟩:=h x hx;obtain⟨h7,h8⟩:=IS (K:=K) (g:=x.1.toNat) (c:=x.2.1.toNat) oO;rw[eY];simp only[aO,beq_iff_eq];constructor;.rintro⟨e1,e2⟩;rw[e1,e2,bW,bW]
  intro e;rw[e]at h7 h8;omega
 clear h
 induction l with
 |nil=>simp[upS,upd,BX,JZ,h5,h6]
 |cons x l ih=>
  have ih:=ih λ y hy=>key y (dZ _ hy);have k1:=key x sS;unfold upS upd BX at ih⊢
  simp only[bN,List.find?_cons];rw[<-k1];cases hb:(x.1==(g:Int)&&x.2.1==(c:Int));.exact ih
  rfl
def aTK(h:SpotOk S K a.sp l)(b:St)(hb:∀g c,g<S->c<K->b.sp g c=upS K a.sp l g c):iH (λ g=>iH (qJ a b g) K) S=l:=by
 by_cases hK:0<K
 .rw[OF]
  have:iH (dif neS (JZ K a.sp) (JZ K b.sp)) (S*K)=iH (dif neS (JZ K a.sp) (upd (JZ K a.sp) (BX K l))) (S*K):=nG λ i hi=>by
   have e:JZ K b.sp i=upd (JZ K a.sp) (BX K l) i:=by have h2:i/K<S:=aEZ (by rw[jN];exact hi);have h3:=Nat.mod_lt i hK;rw[JZ,hb _ _ h2 h3,aKB h.rng h3,jN,FJ]
   rw[dif,dif,e]
  rw[this,aNB (ne:=neS) (λ x=>aOR x) h.ok,a1W h.rng]
 have hn:l=[]:=by
  cases l with
  |nil=>rfl
  |cons x l=>have:=h.rng x sS;omega
 have:K=0:=oO;subst this;subst hn;rw[YS];simp[iH]
def iM:Tk:=⟨0,0,0,0,0,aF,0,0⟩
def sQ(s:St):List Tk:=(aR s.nt).map s.tsk
def mem_tkL{t:Tk}:t∈sQ s↔∃i,i<s.nt/\t=s.tsk i:=by unfold sQ;rw[dM];exact⟨λ⟨i,h1,h2⟩=>⟨i,dX.1 h1,h2.symm⟩,λ⟨i,h1,h2⟩=>⟨i,dX.2 h1,h2.symm⟩⟩
def zZ(h:EC s):IdL (sQ s):=by unfold IdL sQ;rw[FK];exact vH.imp_of_mem (λ {x y} hx hy hxy=>h x y hxy (dX.1 hy)) bEF
def a1Y(x y:Tk):aFK x y= !decide (x=y):=by obtain⟨a,b,c,d,e,f,g,h⟩:=x;obtain⟨a',b',c',d',e',f',g',h'⟩:=y;simp[aFK]
def a4T{x:Int}:idB s s.nt x=decide (CD (sQ s) x):=by
 rw[eY,idB,anyB_iff,decide_eq_true_iff];constructor;.rintro⟨i,h1,h2⟩;exact⟨_,mem_tkL.2 ⟨i,h1,rfl⟩,by simpa using h2⟩
 rintro⟨t,ht,rfl⟩;obtain⟨i,h1,rfl⟩:=mem_tkL.1 ht;exact⟨i,h1,sS⟩
def GF{α β:Type}(f:Nat->α)(p:α->Bool)(g:α->β):∀n,iH (λ i=>LX (p (f i)) (g (f i))) n=(((aR n).map f).filter p).map g
 |0=>rfl
 |n+1=>by rw[iH,GF f p g n,List.range_succ,aQ,OT,aQ];congr 1;simp only[bN,bV,bVJ,List.filter_nil,LX];split<;>rfl
def YO(a b:St):CE a b=gnL (sQ a) (sQ b):=by show iH (VM a b) a.nt=(((aR a.nt).map a.tsk).filter λ t=> !decide (CD (sQ b) t.id)).map (·.id);rw[<-GF a.tsk (λ t=> !decide (CD (sQ b) t.id)) (·.id)];exact nG λ i _=>by rw[VM,a4T]
def aGL{b:St}(ha:EC a):iH (mY a b) b.nt=nwL (sQ a) (sQ b):=by
 have h:nwL (sQ a) (sQ b)=(((aR b.nt).map b.tsk).filter λ t=> !decide (t∈sQ a)).map id:=by rw[List.map_id];rfl
 rw[h,<-GF b.tsk (λ t=> !decide (t∈sQ a)) id];refine nG λ i _=>?_;rw[mY];congr 1;unfold aVH
 cases hf:CF a (b.tsk i).id with
 |none=>
  have h:=KS hf;have:b.tsk i∉sQ a:=λ hm=>by obtain⟨j,hj,he⟩:=mem_tkL.1 hm;have:=h j hj;rw[he]at this;simp at this
  simp[this]
 |some j=>
  obtain⟨hj,he⟩:=OE hf;simp only[beq_iff_eq]at he;simp only[a1Y];congr 1;rw[decide_eq_decide];constructor;.intro h;rw[<-h];exact mem_tkL.2 ⟨j,hj,rfl⟩
  intro h;exact(zZ ha).uniq (mem_tkL.2 ⟨j,hj,rfl⟩) h he
def PZ:(aR m.length).map (λ i=>m.getD i iM)=m:=by refine List.ext_getElem sS λ i h1 h2=>?_;simp[aU,aN h2]
def mrg(a:St)(d:Dl)(m:List Tk):St:={a with wt:=upd a.wt (toN d.wg),clk:=upd a.clk (toN d.ck),cur:=upd a.cur (toN d.cu),nt:=m.length,tsk:=λ i=>m.getD i iM,sp:=upS a.nk a.sp d.sp}
structure FitD (a:St) (d:Dl):Prop where
 ck:ValOk a.nk a.clk d.ck
 cu:ValOk a.nk a.cur d.cu
 wg:ValOk a.ng a.wt d.wg
 tk:TkFit (sQ a) d.gn d.tk
 sp:SpotOk a.ns a.nk a.sp d.sp
def WX(a:St)(d:Dl)(m:List Tk):sQ (mrg a d m)=m:=PZ
def aEF{b:St}(ha:EC a)(hb:EC b)(hp:∀g,g<a.ng->a.par g=b.par g)(hK:0<a.nk):FitD a (GM a b)/\rQ (sQ a) (GM a b).gn (GM a b).tk (sQ b):=by
 have hG:iH (wK a b) a.ng=iH (mC a.wt b.wt) a.ng:=nG λ i hi=>by rw[wK,mC];congr 1;rw[eY];simp only[decide_eq_true_iff,bne_iff_ne,ne_eq,hp i hi,true_and];exact not_congr eq_comm
 refine⟨⟨OG _ _ _,OG _ _ _,?_,?_,ZB a b _ _ hK⟩,?_⟩;.show ValOk a.ng a.wt (iH (wK a b) a.ng);rw[hG];exact OG _ _ _
 .show TkFit (sQ a) (CE a b) (iH (mY a b) b.nt);rw[YO,aGL ha];exact aYK (zZ ha) (zZ hb)
 show rQ (sQ a) (CE a b) (iH (mY a b) b.nt) (sQ b);rw[YO,aGL ha];exact aIK (zZ ha) (zZ hb)
def aXO(ha:EC a)(hf:FitD a d)(hm:rQ (sQ a) d.gn d.tk m):GM a (mrg a d m)=d:=by
 have h1:iH (mC a.clk (mrg a d m).clk) a.nk=d.ck:=WV hf.ck;have h2:iH (mC a.cur (mrg a d m).cur) a.nk=d.cu:=WV hf.cu;have h3:iH (wK a (mrg a d m)) a.ng=d.wg:=by refine Eq.trans (nG λ i hi=>?_) (WV hf.wg);rw[wK,mC];congr 1;rw[eY];simp only[decide_eq_true_iff,bne_iff_ne,ne_eq];exact not_congr ⟨λ h=>h.2.symm,λ h=>⟨rfl,h.symm⟩⟩
 obtain⟨h4,h5⟩:=aXN (zZ ha) hf.tk hm;have h6:CE a (mrg a d m)=d.gn:=by rw[YO,WX];exact h4
 have h7:iH (mY a (mrg a d m)) (mrg a d m).nt=d.tk:=by rw[aGL ha,WX];exact h5
 have h8:iH (λ g=>iH (qJ a (mrg a d m) g) a.nk) a.ns=d.sp:=aTK hf.sp _ λ g c _ _=>rfl;obtain⟨ck,cu,wg,gn,tk,sp⟩:=d;simp only[GM,Dl.mk.injEq];exact⟨h1,h2,h3,h6,h7,h8⟩
def AP{l:List α}(h:j<l.length):l.getD j z=l[j]:=by rw[aU,aN h];rfl
def zB{l:List α}(h:j<l.length):l.getD j z∈l:=by rw[AP h];exact zY h
def aVQ{l:List α}(z:α){x:α}(h:x∈l):∃j,j<l.length/\l.getD j z=x:=by obtain⟨j,hj,e⟩:=uP.1 h;exact⟨j,hj,by rw[AP hj,e]⟩
def AE{β:Type}(f:Nat->β)(i:Nat)(v:β):Nat->β:=λ j=>if j=i then v else f j
def aBO{β:Type}(f:Nat->β)(l:List (Nat×β)):Nat->β:=l.foldl (λ f x=>AE f x.1 x.2) f
def aPP(f:Nat->β)(l:List (Nat×β))(x:Nat×β):aBO f (l++[x])=AE (aBO f l) x.1 x.2:=by unfold aBO;rw[List.foldl_append];rfl
def FZ{β:Type}{i:Nat}:∀ {l:List (Nat×β)} {f:Nat->β},(∀x∈l,x.1≠i)->aBO f l i=f i
 |[],_,_=>rfl
 |x::l,f,h=>by have:=FZ (l:=l) (f:=AE f x.1 x.2) λ y hy=>h y (dZ _ hy);show aBO (AE f x.1 x.2) l i=f i;rw[this,AE,iN (λ e=>h x sS e.symm)]
def aUO{l:List (Nat×β)}(h:l.Pairwise (λ x y=>x.1<y.1))(f:Nat->β):aBO f l=upd f l:=by
 funext i
 induction l generalizing f with
 |nil=>rfl
 |cons x l ih=>
  obtain⟨h1,h2⟩:=List.pairwise_cons.1 h;show aBO (AE f x.1 x.2) l i=upd f (x::l) i;by_cases he:x.1=i;.rw[FZ λ y hy=>by have:=h1 y hy;omega];simp[AE,upd,he]
  rw[ih h2];have hb:(x.1==i)=aF:=by simpa using he
  simp only[upd,List.find?_cons,hb];cases l.find? (λ x=>x.1==i)<;>simp[AE,show ¬i=x.1 from λ e=>he e.symm]
def xI(N:Nat)(f:Nat->Int)(l:List (Int×Int)):Nat->Int:=aBO f (toN (l.filter λ x=>decide (0<=x.1/\x.1<N)))
def PP{now f:Nat->Int}{l:List (Int×Int)}(h:ValOk N now l):xI N f l=upd f (toN l):=by unfold xI;rw[xK.2 λ x hx=>?_,aUO h.ok.inc];have h1:=h.lo x hx;have h2:=h.ok.lt (x.1.toNat,x.2) (dM.2 ⟨x,hx,rfl⟩);simp only at h2;rw[decide_eq_true_iff];omega
def AF(f:Nat->Nat->Sp)(g c:Nat)(v:Sp):Nat->Nat->Sp:=λ g' c'=>if g'=g/\c'=c then v else f g' c'
def FY(S K:Nat)(f:Nat->Nat->Sp)(l:List (Int×Int×Sp)):Nat->Nat->Sp:=l.foldl (λ(f:Nat->Nat->Sp) (x:Int×Int×Sp)=>if 0<=x.1/\x.1<S/\0<=x.2.1/\x.2.1<K then AF f x.1.toNat x.2.1.toNat x.2.2 else f) f
def aPO(S K:Nat)(f:Nat->Nat->Sp)(l:List (Int×Int×Sp))(x:Int×Int×Sp):FY S K f (l++[x])=if 0<=x.1/\x.1<S/\0<=x.2.1/\x.2.1<K then AF (FY S K f l) x.1.toNat x.2.1.toNat x.2.2 else FY S K f l:=by unfold FY;rw[List.foldl_append];rfl
def PR{S K g c:Nat}:∀ {l:List (Int×Int×Sp)} {f:Nat->Nat->Sp},(∀x∈l,¬(x.1.toNat=g/\x.2.1.toNat=c))->FY S K f l g c=f g c
 |[],_,_=>rfl
 |x::l,f,h=>by
  have ih:=λ f'=>PR (S:=S) (K:=K) (g:=g) (c:=c) (l:=l) (f:=f') λ y hy=>h y (dZ _ hy);show FY S K (if 0<=x.1/\x.1<S/\0<=x.2.1/\x.2.1<K then AF f x.1.toNat x.2.1.toNat x.2.2 else f) l g c=f g c;rw[ih];split;.rw[AF,iN (λ e=>h x sS ⟨e.1.symm,e.2.symm⟩)]
  rfl
def aUN(h:SpotOk S K now l)(f:Nat->Nat->Sp):FY S K f l=upS K f l:=by
 have hr:=h.rng;have hp:l.Pairwise λ x y=>¬(x.1=y.1/\x.2.1=y.2.1):=by have h1:(BX K l).Pairwise (λ x y=>x.1<y.1):=h.ok.inc;unfold BX at h1;rw[FK]at h1;exact h1.imp λ hxy e=>by rw[e.1,e.2]at hxy;omega
 clear h;funext g c
 induction l generalizing f with
 |nil=>rfl
 |cons x l ih=>
  obtain⟨h1,h2⟩:=List.pairwise_cons.1 hp;have hx:=hr x sS;have hl:=λ y hy=>hr y (dZ x hy);show FY S K (if 0<=x.1/\x.1<S/\0<=x.2.1/\x.2.1<K then AF f x.1.toNat x.2.1.toNat x.2.2 else f) l g c=_;rw[iP hx];by_cases he:x.1=(g:Int)/\x.2.1=(c:Int)
  .rw[PR λ y hy e=>?_];.simp[AF,upS,he.1,he.2]
   have:=hl y hy;exact h1 y hy ⟨oO,oO⟩
  rw[ih _ hl h2];have hb:(x.1==(g:Int)&&x.2.1==(c:Int))=aF:=by rw[dY];simp only[ne_eq,aO,beq_iff_eq];exact he
  simp only[upS,List.find?_cons,hb];cases l.find? (λ x=>x.1==(g:Int)&&x.2.1==(c:Int))<;>simp only[AF,iN (oO:¬(g=x.1.toNat/\c=x.2.1.toNat))]
def aCC(ha:IdL la)(hf:TkFit la gn tk)(hm:rQ la gn tk m):m.Perm (FP la gn tk++tk):=by
 have hn:∀ {q:List Tk},IdL q->q.Nodup:=λ hq=>vH.imp (λ hxy he=>by subst he;omega) hq;refine(List.perm_ext_iff_of_nodup (hn hm.1) ?_).2 λ x=>by rw[hm.2,dJ];exact Or.comm
 rw[List.nodup_append];refine⟨hn (vH.filter _ ha),hn hf.ti,λ x hx y hy e=>?_⟩;subst e;exact(mem_stay.1 hx).2.2 ⟨x,hy,rfl⟩
def aPY(ha:IdL la)(hf:TkFit la gn tk)(hm:rQ la gn tk m)(hp:r.Perm (FP la gn tk++tk))(hs:r.Pairwise λ x y=>x.id<=y.id):r=m:=by have h1:r.Perm m:=hp.trans (aCC ha hf hm).symm;have hne:m.Pairwise λ x y=>x.id≠y.id:=vH.imp (λ hxy e=>oO) hm.1;have hne':r.Pairwise λ x y=>x.id≠y.id:=(h1.pairwise_iff λ {x y} h e=>h e.symm).2 hne;have hi:IdL r:=(hs.and hne').imp λ⟨h2,h3⟩=>oO;exact vW (key:=λ t:Tk=>t.id) hi hm.1 λ x=>h1.mem_iff
def XX(a:St)(d:Dl)(r:List Tk):St:={a with wt:=xI a.ng a.wt d.wg,clk:=xI a.nk a.clk d.ck,cur:=xI a.nk a.cur d.cu,nt:=r.length,tsk:=λ i=>r.getD i iM,sp:=FY a.ns a.nk a.sp d.sp}
def aVR(h:FitD a d)(r:List Tk):XX a d r=mrg a d r:=by unfold XX mrg;rw[PP h.ck,PP h.cu,PP h.wg,aUN h.sp]
def bQM(ha:EC a)(hb:EC (XX a d r))(hK:0<a.nk)(he:GM a (XX a d r)=d):FitD a d/\(rQ (sQ a) d.gn d.tk m->mrg a d m=XX a d r):=by obtain⟨h1,h2⟩:=aEF (b:=XX a d r) ha hb (λ _ _=>rfl) hK;rw[he]at h1 h2;refine⟨h1,λ hm=>?_⟩;have e:m=r:=aCB hm (show rQ (sQ a) d.gn d.tk r from PZ (m:=r)▸h2);rw[e,aVR h1]
def bQL(ha:EC a)(hf:FitD a d)(hm:rQ (sQ a) d.gn d.tk m)(hp:r.Perm (FP (sQ a) d.gn d.tk++d.tk))(hs:r.Pairwise λ x y=>x.id<=y.id):XX a d r=mrg a d m/\GM a (XX a d r)=d:=by have e:r=m:=aPY (zZ ha) hf.tk hm hp hs;subst e;rw[aVR hf];exact⟨rfl,aXO ha hf hm⟩
def JV{l:List α}(h:i<l.length):l.take (i+1)=l.take i++[l.getD i z]:=by rw[AP h,<-List.take_append_getElem h]
variable{a:Nat}
section
variable{α:Type}(z:α)(lt:α->α->Bool)
def swp(l:List α)(i j:Nat):List α:=(l.set i (l.getD j z)).set j (l.getD i z)
def rW(a:Nat):Nat->List α->List α
 |0,l=>l
 |j+1,l=>if a<j+1/\lt (l.getD (j+1) z) (l.getD j z)=aB then rW a j (swp z l (j+1) j)else l
def DL(a:Nat)(l:List α):Nat->List α
 |0=>l
 |n+1=>rW z lt a (a+n+1) (DL a l n)
def GC(l:List α)(a b:Nat):List α:=DL z lt a l (b-a-1)
def swR(l:List α)(a b:Nat):Nat->List α
 |0=>l
 |n+1=>swp z (swR l a b n) (a+n) (b+n)
def PK(m:Nat):Nat->Nat->Nat->List α->List α
 |0,_,_,l=>l
 |f+1,i,j,l=>if i=j then swR z l (m-i) m i else if j<i then PK m f (i-j) j (swR z l (m-i) m j)else PK m f i (j-i) (swR z l (m-i) (m+j-i) i)
def rot(l:List α)(a m b:Nat):List α:=PK z m (b-a) (m-a) (b-m) l
def FH(p:Nat->Bool):Nat->Nat->Nat->Nat
 |0,i,_=>i
 |f+1,i,j=>if i<j then(if p ((i+j)/2)=aB then FH p f ((i+j)/2+1) j else FH p f i ((i+j)/2))else i
def shR(l:List α)(a:Nat):Nat->List α
 |0=>l
 |n+1=>swp z (shR l a n) (a+n) (a+n+1)
def shL(l:List α)(m:Nat):Nat->List α
 |0=>l
 |n+1=>swp z (shL l m n) (m-n) (m-n-1)
def tG:Nat->List α->Nat->Nat->Nat->List α
 |0,l,_,_,_=>l
 | f+1,l,a,m,b=>
   if m-a=1 then shR z l a (FH (λ h=>lt (l.getD h z) (l.getD a z)) (b-m) m b-1-a)
   else if b-m=1 then shL z l m (m-FH (λ h=> !(lt (l.getD m z) (l.getD h z))) (m-a) a m)
   else
    let mid:=(a+b)/2
    let n:=mid+m
    let st:=FH (λ c=> !(lt (l.getD (n-1-c) z) (l.getD c z))) (b-a) (if mid<m then n-b else a) (if mid<m then mid else m)
    let en:=n-st
    let l1:=if st<m/\m<en then rot z l st m en else l
    let l2:=if a<st/\st<mid then tG f l1 a st mid else l1
    if mid<en/\en<b then tG f l2 mid en b else l2
def blk(l:List α):Nat->List α
 |0=>l
 |q+1=>GC z lt (blk l q) (20*q) (20*q+20)
def prs(s:Nat)(l:List α):Nat->List α
 |0=>l
 |q+1=>tG z lt l.length (prs s l q) (2*s*q) (2*s*q+s) (2*s*q+2*s)
def TA(s:Nat)(l:List α):List α:=
 if 2*s*(l.length/(2*s))+s<l.length then tG z lt l.length (prs z lt s l (l.length/(2*s))) (2*s*(l.length/(2*s))) (2*s*(l.length/(2*s))+s) l.length else prs z lt s l (l.length/(2*s))
def yR:Nat->Nat->List α->List α
 |0,_,l=>l
 |f+1,s,l=>if s<l.length then yR f (2*s) (TA z lt s l)else l
def JY(l:List α):List α:=yR z lt l.length 20 (GC z lt (blk z lt l (l.length/20)) (20*(l.length/20)) l.length)
variable{z lt}
def EU{l:List α}{v:α}:(l.set i v).getD q z=if i=q/\q<l.length then v else l.getD q z:=by
 rw[aU,aU,dS];split
 .rename_i h;subst h;split;.rename_i h;rw[iP ⟨rfl,h⟩];rfl
  rename_i h;rw[iN (λ e=>h e.2),bE oO]
 rename_i h;rw[iN (λ e=>h e.1)]
def AB{l:List α}:(swp z l i j).length=l.length:=by simp[swp]
def PA{l:List α}(hi:i<l.length)(hj:j<l.length):(swp z l i j).getD q z=if q=j then l.getD i z else if q=i then l.getD j z else l.getD q z:=by
 unfold swp;rw[EU,EU,jF];by_cases h1:q=j;.subst h1;rw[iP ⟨rfl,hj⟩,iP rfl]
 rw[iN (λ e=>h1 e.1.symm),iN h1];by_cases h2:q=i;.subst h2;rw[iP ⟨rfl,hi⟩,iP rfl]
 rw[iN (λ e=>h2 e.1.symm),iN h2]
def CL{l:List α}(hi:i<l.length)(hj:j<l.length):(swp z l i j).Perm l:=by unfold swp;rw[aU,aU,aN hi,aN hj];exact List.set_set_perm hi hj
def QO{a:Nat}:∀ {j:Nat} {l:List α},j<l.length->(rW z lt a j l).Perm l
 |0,_,_=>iF.refl _
 |j+1,l,h=>by
  rw[rW];split;.exact(QO (by rw[AB];omega)).trans (CL h oO)
  exact iF.refl _
def AK{a:Nat}{l:List α}:∀ {n:Nat},a+n<l.length\/n=0->(DL z lt a l n).Perm l
 |0,_=>iF.refl _
 |n+1,h=>by have ih:=AK (a:=a) (l:=l) (n:=n) oO;exact(QO (by rw[ih.length_eq];omega)).trans ih
def yY{l:List α}(h:b<=l.length):(GC z lt l a b).Perm l:=AK oO
def pX{l:List α}{a b:Nat}:∀ {n:Nat},(swR z l a b n).length=l.length
 |0=>rfl
 |n+1=>by rw[swR,AB,pX]
def HF{l:List α}{a b:Nat}:∀ {n:Nat},a+n<=l.length->b+n<=l.length->(swR z l a b n).Perm l
 |0,_,_=>iF.refl _
 |n+1,h1,h2=>(CL (by rw[pX];omega) (by rw[pX];omega)).trans (HF oO oO)
def WZ{l:List α}{a b:Nat}:∀ {n q:Nat},a+n<=b->b+n<=l.length->(swR z l a b n).getD q z=if a<=q/\q<a+n then l.getD (q+b-a) z else if b<=q/\q<b+n then l.getD (q+a-b) z else l.getD q z
 |0,q,_,_=>by rw[iN oO,iN oO];rfl
 |n+1,q,h1,h2=>by
  have ih:=λ q=>WZ (l:=l) (a:=a) (b:=b) (n:=n) (q:=q) oO oO;rw[swR,PA (by rw[pX];omega) (by rw[pX];omega),ih,ih,ih];repeat' split
  all_goals first|(exfalso;omega)|rfl|(congr 1;omega)
def KC{m:Nat}:∀ {f i j:Nat} {l:List α},i<=m->m+j<=l.length->(PK z m f i j l).Perm l
 |0,_,_,_,_,_=>iF.refl _
 |f+1,i,j,l,h1,h2=>by
  rw[PK];split;.exact HF oO oO
  split;.exact(KC oO (by rw[pX];omega)).trans (HF oO oO)
  exact(KC oO (by rw[pX];omega)).trans (HF oO oO)
def XK{m:Nat}:∀ {f i j:Nat} {l:List α} {q:Nat},0<i->0<j->i+j<=f->i<=m->m+j<=l.length->(PK z m f i j l).getD q z=if m-i<=q/\q<m-i+j then l.getD (q+i) z else if m-i+j<=q/\q<m+j then l.getD (q-j) z else l.getD q z
 |0,_,_,_,_,h1,h2,h3,_,_=>oO
 |f+1,i,j,l,q,h1,h2,h3,h4,h5=>by
  rw[PK];split
  .rename_i he;subst he;rw[WZ oO oO];by_cases c1:m-i<=q/\q<m-i+i;.rw[iP c1,iP c1];congr 1;omega
   rw[iN c1,iN c1];by_cases c2:m<=q/\q<m+i;.rw[iP c2,iP oO];congr 1;omega
   rw[iN c2,iN oO]
  rename_i hne;split
  .rename_i hlt;have S:=λ q=>WZ (z:=z) (l:=l) (a:=m-i) (b:=m) (n:=j) (q:=q) oO oO;rw[XK oO oO oO oO (by rw[pX];omega),S,S,S];repeat' split
   all_goals first|(exfalso;omega)|rfl|(congr 1;omega)
  rename_i hlt;have S:=λ q=>WZ (z:=z) (l:=l) (a:=m-i) (b:=m+j-i) (n:=i) (q:=q) oO oO;rw[XK oO oO oO oO (by rw[pX];omega),S,S,S];repeat' split
  all_goals first|(exfalso;omega)|rfl|(congr 1;omega)
def bAH{l:List α}{m:Nat}(h1:a<m)(h2:m<b)(h3:b<=l.length):(rot z l a m b).getD q z=if a<=q/\q<a+(b-m)then l.getD (q+(m-a)) z else if a+(b-m)<=q/\q<b then l.getD (q-(b-m)) z else l.getD q z:=by unfold rot;rw[XK oO oO oO oO oO];rw[(oO:m-(m-a)=a),(oO:m+(b-m)=b)]
def PJ{l:List α}{m:Nat}(h1:a<m)(h2:m<b)(h3:b<=l.length):(rot z l a m b).Perm l:=KC oO oO
def sY{p:Nat->Bool}:∀ {f i j:Nat},i<=j->i<=FH p f i j/\FH p f i j<=j
 |0,i,j,h=>⟨aJ _,h⟩
 |f+1,i,j,h=>by
  rw[FH];split
  .split;.have:=sY (p:=p) (f:=f) (i:=(i+j)/2+1) (j:=j) oO;omega
   have:=sY (p:=p) (f:=f) (i:=i) (j:=(i+j)/2) oO;omega
  omega
def DW{p:Nat->Bool}:∀ {f i j:Nat},j-i<=f->(∀x y,i<=x->x<y->y<j->p y=aB->p x=aB)->(∀x,i<=x->x<FH p f i j->p x=aB)/\∀x,FH p f i j<=x->x<j->p x=aF
 |0,i,j,h,_=>⟨λ x h1 h2=>by rw[FH]at h2;omega,λ x h1 h2=>by rw[FH]at h1;omega⟩
 |f+1,i,j,h,hm=>by
  rw[FH];split
  .split
   .rename_i hp;obtain⟨h1,h2⟩:=DW (p:=p) (f:=f) (i:=(i+j)/2+1) (j:=j) oO (λ x y a b c d=>hm x y oO b c d);refine⟨λ x a b=>?_,λ x a b=>h2 x a b⟩;by_cases c:x<(i+j)/2+1
    .by_cases e:x=(i+j)/2;.subst e;exact hp
     exact hm x _ a (oO:x<(i+j)/2) oO hp
    exact h1 x oO b
   rename_i hp;obtain⟨h1,h2⟩:=DW (p:=p) (f:=f) (i:=i) (j:=(i+j)/2) oO (λ x y a b c d=>hm x y a b oO d);refine⟨λ x a b=>h1 x a b,λ x a b=>?_⟩;by_cases c:x<(i+j)/2;.exact h2 x a c
   rw[dY];intro hx;by_cases e:x=(i+j)/2;.subst e;exact hp hx
   exact hp (hm _ x oO oO b hx)
  exact⟨λ x a b=>oO,λ x a b=>oO⟩
def EJ{l:List α}{a:Nat}:∀ {n:Nat},(shR z l a n).length=l.length
 |0=>rfl
 |n+1=>by rw[shR,AB,EJ]
def PD{l:List α}{a:Nat}:∀ {n:Nat},a+n<l.length\/n=0->(shR z l a n).Perm l
 |0,_=>iF.refl _
 |n+1,h=>(CL (by rw[EJ];omega) (by rw[EJ];omega)).trans (PD oO)
def aTU{l:List α}{a:Nat}:∀ {n q:Nat},a+n<l.length\/n=0->(shR z l a n).getD q z=if a<=q/\q<a+n then l.getD (q+1) z else if q=a+n then l.getD a z else l.getD q z
 |0,q,_=>by
  rw[iN oO];split;.rename_i h;subst h;rfl
  rfl
 |n+1,q,h=>by
  have ih:=λ q=>aTU (l:=l) (a:=a) (n:=n) (q:=q) oO;rw[shR,PA (by rw[EJ];omega) (by rw[EJ];omega),ih,ih,ih];repeat' split
  all_goals first|(exfalso;omega)|rfl|(congr 1;omega)
def EK{l:List α}{m:Nat}:∀ {n:Nat},(shL z l m n).length=l.length
 |0=>rfl
 |n+1=>by rw[shL,AB,EK]
def PE{l:List α}{m:Nat}(hm:m<l.length):∀ {n:Nat},(shL z l m n).Perm l
 |0=>iF.refl _
 |n+1=>(CL (by rw[EK];omega) (by rw[EK];omega)).trans (PE hm)
def aTV{l:List α}{m:Nat}(hm:m<l.length):∀ {n q:Nat},n<=m->(shL z l m n).getD q z=if m-n<q/\q<=m then l.getD (q-1) z else if q=m-n then l.getD m z else l.getD q z
 |0,q,_=>by
  rw[iN oO];split;.rename_i h;subst h;rfl
  rfl
 |n+1,q,h=>by
  have ih:=λ q=>aTV (l:=l) hm (n:=n) (q:=q) oO;rw[shL,PA (by rw[EK];omega) (by rw[EK];omega),ih,ih,ih];repeat' split
  all_goals first|(exfalso;omega)|rfl|(congr 1;omega)
end
section
variable{α:Type}{z:α}{lt:α->α->Bool}{key:α->Int}
def Inc(z:α)(key:α->Int)(l:List α)(a b:Nat):Prop:=∀i j,a<=i->i<j->j<b->key (l.getD i z)<=key (l.getD j z)
def NA(z:α)(lt:α->α->Bool)(key:α->Int)(l:List α):Prop:=∀i j,i<l.length->j<l.length->lt (l.getD i z) (l.getD j z)=decide (key (l.getD i z)<key (l.getD j z))
def nE{l m:List α}(h:NA z lt key l)(hp:m.Perm l):NA z lt key m:=λ i j hi hj=>by obtain⟨i',hi',ei⟩:=aVQ z (hp.mem_iff.1 (zB (z:=z) hi));obtain⟨j',hj',ej⟩:=aVQ z (hp.mem_iff.1 (zB (z:=z) hj));rw[<-ei,<-ej];exact h i' j' hi' hj'
def tM{l m:List α}(h:Inc z key l a b)(he:∀q,a<=q->q<b->m.getD q z=l.getD q z):Inc z key m a b:=λ i j h1 h2 h3=>by rw[he i h1 oO,he j oO h3];exact h i j h1 h2 h3
def VF{a:Nat}:∀ {j:Nat} {l:List α} {q:Nat},j<l.length->a<=j->q<a\/j<q->(rW z lt a j l).getD q z=l.getD q z
 |0,_,_,_,_,_=>rfl
 |j+1,l,q,h,ha,hq=>by
  rw[rW];split;.rename_i hc;rw[VF (by rw[AB];omega) oO oO,PA h oO,iN oO,iN oO]
  rfl
def VG{a e:Nat}:∀ {j:Nat} {l:List α},j<l.length->a<=j->NA z lt key l->(∀x y,a<=x->x<y->y<e->x≠j->y≠j->key (l.getD x z)<=key (l.getD y z))->(∀y,j<y->y<e->key (l.getD j z)<=key (l.getD y z))->Inc z key (rW z lt a j l) a e
 |0,l,h,ha,hk,h1,h2=>λ x y hx hxy hy=>by
  show key (l.getD x z)<=key (l.getD y z);by_cases he:x=0;.subst he;exact h2 y hxy hy
  exact h1 x y hx hxy hy he oO
 |j+1,l,h,ha,hk,h1,h2=>by
  rw[rW];split
  .rename_i hc;have hs:=λ q=>PA (z:=z) (q:=q) h (oO:j<l.length);have hlt:=hk (j+1) j h oO;rw[hc.2]at hlt;have hlt:=of_decide_eq_true hlt.symm;refine VG (by rw[AB];omega) oO (nE hk (CL h oO)) (λ x y hx hxy hy n1 n2=>?_) (λ y hjy hy=>?_)
   .rw[hs,hs,iN n1,iN n2];by_cases c1:x=j+1;.subst c1;rw[iP rfl,iN oO];exact h1 j y oO oO hy oO oO
    rw[iN c1];by_cases c2:y=j+1;.subst c2;rw[iP rfl];exact h1 x j hx oO oO oO oO
    rw[iN c2];exact h1 x y hx hxy hy c1 c2
   rw[hs,hs,iP rfl,iN oO];by_cases c1:y=j+1;.subst c1;rw[iP rfl];omega
   rw[iN c1];exact h2 y oO hy
  rename_i hc;intro x y hx hxy hy;by_cases c1:x=j+1;.subst c1;exact h2 y hxy hy
  by_cases c2:y=j+1
  .subst c2;have hlt:=hk (j+1) j h oO;have h3:key (l.getD j z)<=key (l.getD (j+1) z):=by have:lt (l.getD (j+1) z) (l.getD j z)≠aB:=λ e=>hc ⟨oO,e⟩;rw[hlt]at this;simp only[ne_eq,decide_eq_true_iff]at this;omega
   by_cases c3:x=j;.subst c3;exact h3
   have:=h1 x j hx oO oO c1 oO;omega
  exact h1 x y hx hxy hy c1 c2
def QN{a:Nat}{l:List α}(hk:NA z lt key l):∀ {n:Nat},a+n<l.length->Inc z key (DL z lt a l n) a (a+n+1)/\∀q,q<a\/a+n<q->(DL z lt a l n).getD q z=l.getD q z
 |0,h=>⟨λ i j h1 h2 h3=>oO,λ q _=>rfl⟩
 |n+1,h=>by obtain⟨i1,i2⟩:=QN (a:=a) hk (n:=n) oO;have hp:=AK (z:=z) (lt:=lt) (a:=a) (l:=l) (n:=n) oO;rw[DL];refine⟨VG (j:=a+n+1) (by rw[hp.length_eq];omega) oO (nE hk hp) (λ x y hx hxy hy n1 n2=>i1 x y hx hxy oO) (λ y h1 h2=>oO),λ q hq=>?_⟩;rw[VF (j:=a+n+1) (by rw[hp.length_eq];omega) oO oO,i2 q oO]
def VE{l:List α}(hk:NA z lt key l)(hb:b<=l.length):Inc z key (GC z lt l a b) a b/\∀q,q<a\/b<=q->(GC z lt l a b).getD q z=l.getD q z:=by
 by_cases h:a+1<b;.obtain⟨h1,h2⟩:=QN (a:=a) (n:=b-a-1) hk oO;exact⟨λ i j c1 c2 c3=>h1 i j c1 c2 oO,λ q hq=>h2 q oO⟩
 have:b-a-1=0:=oO;unfold GC;rw[this];exact⟨λ i j c1 c2 c3=>oO,λ q _=>rfl⟩
structure Sym (z:α) (key:α->Int) (l r:List α) (a b:Nat):Prop where
 perm:r.Perm l
 inc:Inc z key r a b
 out:∀q,q<a\/b<=q->r.getD q z=l.getD q z
 inn:∀q,a<=q->q<b->∃q',a<=q'/\q'<b/\r.getD q z=l.getD q' z
def Sym.none{l:List α}(h:Inc z key l a b):Sym z key l l a b:=⟨iF.refl _,h,λ _ _=>rfl,λ q h1 h2=>⟨q,h1,h2,rfl⟩⟩
def a2A{l l1 l2 l3:List α}{mid:Nat}(h1:a<=mid)(h2:mid<=b)(hp:l1.Perm l)(ho:∀q,q<a\/b<=q->l1.getD q z=l.getD q z)(hi:∀q,a<=q->q<b->∃q',a<=q'/\q'<b/\l1.getD q z=l.getD q' z)
 (hc:∀q q',a<=q->q<mid->mid<=q'->q'<b->key (l1.getD q z)<=key (l1.getD q' z)) (s2:Sym z key l1 l2 a mid) (s3:Sym z key l2 l3 mid b):Sym z key l l3 a b where
 perm:=(s3.perm.trans s2.perm).trans hp
 inc i j c1 c2 c3:=by
  by_cases d1:j<mid;.rw[s3.out i oO,s3.out j oO];exact s2.inc i j c1 c2 d1
  by_cases d2:mid<=i;.exact s3.inc i j d2 c2 c3
  rw[s3.out i oO];obtain⟨i',e1,e2,e3⟩:=s2.inn i c1 oO;obtain⟨j',f1,f2,f3⟩:=s3.inn j oO c3;rw[e3,f3,s2.out j' oO];exact hc i' j' e1 e2 f1 f2
 out q hq:=by rw[s3.out q oO,s2.out q oO,ho q hq]
 inn q c1 c2:=by
  by_cases d:q<mid;.obtain⟨q',e1,e2,e3⟩:=s2.inn q c1 d;obtain⟨q2,f1,f2,f3⟩:=hi q' e1 oO;exact⟨q2,f1,f2,by rw[s3.out q oO,e3,f3]⟩
  obtain⟨q',e1,e2,e3⟩:=s3.inn q oO c2;obtain⟨q2,f1,f2,f3⟩:=hi q' oO e2;exact⟨q2,f1,f2,by rw[e3,s2.out q' oO,f3]⟩
def EF:∀ {f:Nat} {l:List α} {a m b:Nat},NA z lt key l->a<m->m<b->b<=l.length->b-a<=f->Inc z key l a m->Inc z key l m b->Sym z key l (tG z lt f l a m b) a b
 |0,_,_,_,_,_,h1,h2,_,h4,_,_=>oO
 |f+1,l,a,m,b,hk,h1,h2,h3,h4,h5,h6=>by
  rw[tG];split
  .rename_i hma;obtain⟨B1,B2⟩:=DW (p:=λ h=>lt (l.getD h z) (l.getD a z)) (f:=b-m) (i:=m) (j:=b) oO (λ x y c1 c2 c3 c4=>by have e1:=hk x a oO oO;have e2:=hk y a oO oO;rw[e2]at c4;have c4:=of_decide_eq_true c4;have:=h6 x y c1 c2 c3;show lt _ _=aB;rw[e1];exact decide_eq_true oO)
   have hr:=sY (p:=λ h=>lt (l.getD h z) (l.getD a z)) (f:=b-m) (i:=m) (j:=b) oO;generalize FH (λ h=>lt (l.getD h z) (l.getD a z)) (b-m) m b=i at B1 B2 hr;have hs:=λ q=>aTU (z:=z) (l:=l) (a:=a) (n:=i-1-a) (q:=q) oO;have T1:∀x,m<=x->x<i->key (l.getD x z)<key (l.getD a z):=λ x c1 c2=>by have:=B1 x c1 c2;simp only[hk x a oO oO,decide_eq_true_iff]at this;exact this
   have T2:∀x,i<=x->x<b->key (l.getD a z)<=key (l.getD x z):=λ x c1 c2=>by have:=B2 x c1 c2;simp only[hk x a oO oO,dFn]at this;omega
   refine⟨PD oO,λ x y c1 c2 c3=>?_,λ q hq=>?_,λ q c1 c2=>?_⟩
   .rw[hs,hs];by_cases d1:a<=x/\x<a+(i-1-a)
    .rw[iP d1];by_cases d2:y<a+(i-1-a);.rw[iP oO];exact h6 (x+1) (y+1) oO oO oO
     rw[iN oO];by_cases d3:y=a+(i-1-a);.rw[iP d3];have:=T1 (x+1) oO oO;omega
     rw[iN d3];exact h6 (x+1) y oO oO oO
    rw[iN d1];by_cases d2:x=a+(i-1-a);.rw[iP d2,iN oO,iN oO];exact T2 y oO oO
    rw[iN d2,iN oO,iN oO];exact h6 x y oO c2 c3
   .rw[hs,iN oO,iN oO]
   rw[hs];by_cases d1:a<=q/\q<a+(i-1-a);.rw[iP d1];exact⟨q+1,oO,oO,rfl⟩
   rw[iN d1];by_cases d2:q=a+(i-1-a);.rw[iP d2];exact⟨a,oO,oO,rfl⟩
   rw[iN d2];exact⟨q,c1,c2,rfl⟩
  split
  .rename_i hma hbm;obtain⟨B1,B2⟩:=DW (p:=λ h=> !(lt (l.getD m z) (l.getD h z))) (f:=m-a) (i:=a) (j:=m) oO (λ x y c1 c2 c3 c4=>by have e1:=hk m x oO oO;have e2:=hk m y oO oO;rw[e2,dV]at c4;have c4:=of_decide_eq_false c4;have:=h5 x y c1 c2 c3;show(!(lt _ _))=aB;rw[e1,dV];exact decide_eq_false oO)
   have hr:=sY (p:=λ h=> !(lt (l.getD m z) (l.getD h z))) (f:=m-a) (i:=a) (j:=m) oO;generalize FH (λ h=> !(lt (l.getD m z) (l.getD h z))) (m-a) a m=i at B1 B2 hr;have hs:=λ q=>aTV (z:=z) (l:=l) (m:=m) (oO:m<l.length) (n:=m-i) (q:=q) oO;have T1:∀x,a<=x->x<i->key (l.getD x z)<=key (l.getD m z):=λ x c1 c2=>by have:=B1 x c1 c2;simp only[hk m x oO oO,dV,dFn]at this;omega
   have T2:∀x,i<=x->x<m->key (l.getD m z)<key (l.getD x z):=λ x c1 c2=>by have:=B2 x c1 c2;simp only[hk m x oO oO,jZ,decide_eq_true_iff]at this;omega
   refine⟨PE oO,λ x y c1 c2 c3=>?_,λ q hq=>?_,λ q c1 c2=>?_⟩
   .rw[hs,hs];by_cases d1:m-(m-i)<x/\x<=m;.rw[iP d1,iP oO];exact h5 (x-1) (y-1) oO oO oO
    rw[iN d1];by_cases d2:x=m-(m-i);.rw[iP d2,iP oO];have:=T2 (y-1) oO oO;omega
    rw[iN d2];by_cases d3:m-(m-i)<y/\y<=m;.rw[iP d3];exact h5 x (y-1) c1 oO oO
    rw[iN d3];by_cases d4:y=m-(m-i);.rw[iP d4];exact T1 x c1 oO
    rw[iN d4];exact h5 x y c1 c2 oO
   .rw[hs,iN oO,iN oO]
   rw[hs];by_cases d1:m-(m-i)<q/\q<=m;.rw[iP d1];exact⟨q-1,oO,oO,rfl⟩
   rw[iN d1];by_cases d2:q=m-(m-i);.rw[iP d2];exact⟨m,oO,oO,rfl⟩
   rw[iN d2];exact⟨q,c1,c2,rfl⟩
  rename_i hma hbm;obtain⟨mid,em⟩:=xE ((a+b)/2);simp only[<-em];obtain⟨s0,es⟩:=xE (if mid<m then mid+m-b else a);obtain⟨r0,er⟩:=xE (if mid<m then mid else m);rw[<-es,<-er]
  have cs:(mid<m/\s0=mid+m-b/\r0=mid)\/(m<=mid/\s0=a/\r0=m):=by
   by_cases c:mid<m;.rw[iP c]at es er;exact dE ⟨c,es,er⟩
   rw[iN c]at es er;exact dP ⟨oO,es,er⟩
  clear es er;have hpk:∀c,s0<=c->c<r0->(!(lt (l.getD (mid+m-1-c) z) (l.getD c z)))=decide (key (l.getD c z)<=key (l.getD (mid+m-1-c) z)):=λ c c1 c2=>by rw[hk _ _ oO oO,eY,dV,dFn,decide_eq_true_iff];omega
  obtain⟨B1,B2⟩:=DW (p:=λ c=> !(lt (l.getD (mid+m-1-c) z) (l.getD c z))) (f:=b-a) (i:=s0) (j:=r0) oO (λ x y c1 c2 c3 c4=>by show(!(lt _ _))=aB;rw[hpk x c1 oO];rw[hpk y oO c3]at c4;have c4:=of_decide_eq_true c4;have i1:=h5 x y oO c2 oO;have i2:=h6 (mid+m-1-y) (mid+m-1-x) oO oO oO;exact decide_eq_true oO)
  have hr:=sY (p:=λ c=> !(lt (l.getD (mid+m-1-c) z) (l.getD c z))) (f:=b-a) (i:=s0) (j:=r0) oO;generalize FH (λ c=> !(lt (l.getD (mid+m-1-c) z) (l.getD c z))) (b-a) s0 r0=st at B1 B2 hr;obtain⟨en,ee⟩:=xE (mid+m-st);rw[<-ee];have T1:s0<st->key (l.getD (st-1) z)<=key (l.getD en z):=λ c=>by have:=B1 (st-1) oO oO;rw[hpk _ oO oO,decide_eq_true_iff,(oO:mid+m-1-(st-1)=en)]at this;exact this
  have T2:st<r0->key (l.getD (en-1) z)<key (l.getD st z):=λ c=>by have:=B2 st oO oO;rw[hpk _ oO oO,dFn,(oO:mid+m-1-st=en-1)]at this;omega
  have le5:∀x y,a<=x->x<=y->y<m->key (l.getD x z)<=key (l.getD y z):=λ x y c1 c2 c3=>by
   by_cases c:x=y;.subst c;omega
   exact h5 x y c1 oO c3
  have le6:∀x y,m<=x->x<=y->y<b->key (l.getD x z)<=key (l.getD y z):=λ x y c1 c2 c3=>by
   by_cases c:x=y;.subst c;omega
   exact h6 x y c1 oO c3
  obtain⟨l1,e1⟩:=xE (if st<m/\m<en then rot z l st m en else l)
  have hp1:l1.Perm l:=by
   rw[e1];split;.exact PJ oO oO oO
   exact iF.refl _
  have ha1:∀q,l1.getD q z=if st<=q/\q<mid then l.getD (q+(m-st)) z else if mid<=q/\q<en then l.getD (q-(mid-st)) z else l.getD q z:=λ q=>by
   rw[e1];split
   .rw[bAH oO oO oO];repeat' split
    all_goals first|(exfalso;omega)|rfl|(congr 1;omega)
   repeat' split
   all_goals first|(exfalso;omega)|rfl|(congr 1;omega)
  rw[<-e1]
  have s2:Sym z key l1 (if a<st/\st<mid then tG z lt f l1 a st mid else l1) a mid:=by
   split
   .refine EF (nE hk hp1) oO oO (by rw[hp1.length_eq];omega) oO (λ i j c1 c2 c3=>?_) (λ i j c1 c2 c3=>?_);.rw[ha1,ha1,iN oO,iN oO,iN oO,iN oO];exact le5 _ _ oO oO oO
    rw[ha1,ha1,iP oO,iP oO];exact le6 _ _ oO oO oO
   refine .none λ i j c1 c2 c3=>?_;rw[ha1,ha1];by_cases c:st<=a;.rw[iP oO,iP oO];exact le6 _ _ oO oO oO
   rw[iN oO,iN oO,iN oO,iN oO];exact le5 _ _ oO oO oO
  obtain⟨l2,e2⟩:=xE (if a<st/\st<mid then tG z lt f l1 a st mid else l1);rw[<-e2]at s2⊢
  have hp2:l2.Perm l:=s2.perm.trans hp1;have ha2:∀q,mid<=q->l2.getD q z=l1.getD q z:=λ q h=>s2.out q (dP h)
  have s3:Sym z key l2 (if mid<en/\en<b then tG z lt f l2 mid en b else l2) mid b:=by
   split
   .refine EF (nE hk hp2) oO oO (by rw[hp2.length_eq];omega) oO (λ i j c1 c2 c3=>?_) (λ i j c1 c2 c3=>?_);.rw[ha2 i oO,ha2 j oO,ha1,ha1,iN oO,iP oO,iN oO,iP oO];exact le5 _ _ oO oO oO
    rw[ha2 i oO,ha2 j oO,ha1,ha1,iN oO,iN oO,iN oO,iN oO];exact le6 _ _ oO oO oO
   refine .none λ i j c1 c2 c3=>?_;rw[ha2 i oO,ha2 j oO,ha1,ha1];by_cases c:en<=mid;.rw[iN oO,iN oO,iN oO,iN oO];exact le6 _ _ oO oO oO
   rw[iN oO,iP oO,iN oO,iP oO];exact le5 _ _ oO oO oO
  refine a2A (mid:=mid) oO oO hp1 (λ q hq=>?_) (λ q c1 c2=>?_) (λ q q' c1 c2 c3 c4=>?_) s2 s3;.rw[ha1,iN oO,iN oO]
  .rw[ha1];split;.exact⟨q+(m-st),oO,oO,rfl⟩
   split;.exact⟨q-(mid-st),oO,oO,rfl⟩
   exact⟨q,c1,c2,rfl⟩
  rw[ha1 q,ha1 q',iN (oO:¬(st<=q'/\q'<mid))];by_cases d1:q<st
  .rw[iN oO,iN oO];by_cases d2:q'<en;.rw[iP oO];exact le5 _ _ oO oO oO
   rw[iN oO];have t1:=T1 oO;have t2:=le5 q (st-1) oO oO oO;have t3:=le6 en q' oO oO oO;omega
  rw[iP oO];by_cases d2:q'<en;.rw[iP oO];have t1:=T2 oO;have t2:=le6 (q+(m-st)) (en-1) oO oO oO;have t3:=le5 st (q'-(mid-st)) oO oO oO;omega
  rw[iN oO];exact le6 _ _ oO oO oO
end
variable{s:Nat}
section
variable{α:Type}{z:α}{lt:α->α->Bool}{key:α->Int}
def a1I(z:α)(key:α->Int)(s:Nat)(l:List α):Prop:=∀t,Inc z key l (s*t) (min (s*t+s) l.length)
def aEG{l:List α}(hk:NA z lt key l):∀ {q:Nat},20*q<=l.length->(blk z lt l q).Perm l/\∀t,t<q->Inc z key (blk z lt l q) (20*t) (20*t+20)
 |0,_=>⟨iF.refl _,λ t ht=>absurd ht (bU t)⟩
 |q+1,h=>by
  obtain⟨h1,h2⟩:=aEG hk (q:=q) oO;have hb:20*q+20<=(blk z lt l q).length:=by rw[h1.length_eq];omega
  obtain⟨h3,h4⟩:=VE (a:=20*q) (nE hk h1) hb;refine⟨(yY hb).trans h1,λ t ht=>?_⟩;by_cases he:t=q;.subst he;exact h3
  exact tM (h2 t oO) λ q' c1 c2=>h4 q' oO
def aHP{l:List α}(hk:NA z lt key l):(GC z lt (blk z lt l (l.length/20)) (20*(l.length/20)) l.length).Perm l/\a1I z key 20 (GC z lt (blk z lt l (l.length/20)) (20*(l.length/20)) l.length):=by
 obtain⟨h1,h2⟩:=aEG hk (q:=l.length/20) oO;obtain⟨h3,h4⟩:=VE (a:=20*(l.length/20)) (b:=l.length) (nE hk h1) (by rw[h1.length_eq];omega);have hp:=(yY (z:=z) (lt:=lt) (l:=blk z lt l (l.length/20)) (a:=20*(l.length/20)) (b:=l.length) (by rw[h1.length_eq];omega)).trans h1;refine⟨hp,λ t=>?_⟩;rw[hp.length_eq];intro i j c1 c2 c3;by_cases ht:t<l.length/20;.exact tM (h2 t ht) (λ q' d1 d2=>h4 q' oO) i j c1 c2 oO
 exact h3 i j oO c2 oO
def XT{t:Nat}(h:t<=q):2*s*t<=2*s*q:=Nat.mul_le_mul_left _ h
def NJ{t:Nat}(h:t<q):2*s*t+2*s<=2*s*q:=by have:=XT (s:=s) (show t+1<=q from h);rw[Nat.mul_add,JK]at this;exact this
def aBQ{s:Nat}{l:List α}(hs:0<s)(hk:NA z lt key l)(hB:a1I z key s l):∀ {q:Nat},2*s*q<=l.length->(prs z lt s l q).Perm l/\(∀t,t<q->Inc z key (prs z lt s l q) (2*s*t) (2*s*t+2*s))/\∀x,2*s*q<=x->(prs z lt s l q).getD x z=l.getD x z
 |0,_=>⟨iF.refl _,λ t ht=>absurd ht (bU t),λ _ _=>rfl⟩
 |q+1,h=>by
  have hm:=NJ (s:=s) (oO:q<q+1);obtain⟨h1,h2,h3⟩:=aBQ hs hk hB (q:=q) oO;have e1:s*(2*q)=2*s*q:=by rw[jN 2 s,Nat.mul_assoc]
  have e2:s*(2*q+1)=2*s*q+s:=by rw[Nat.mul_add,e1,JK]
  have b1:=hB (2*q);have b2:=hB (2*q+1);rw[e1]at b1;rw[e2]at b2
  have S:Sym z key (prs z lt s l q) (tG z lt l.length (prs z lt s l q) (2*s*q) (2*s*q+s) (2*s*q+2*s)) (2*s*q) (2*s*q+2*s):=
   EF (nE hk h1) oO oO (by rw[h1.length_eq];omega) oO (tM (λ i j c1 c2 c3=>b1 i j c1 c2 oO) λ x c1 c2=>h3 x c1) (tM (λ i j c1 c2 c3=>b2 i j c1 c2 oO) λ x c1 c2=>h3 x oO)
  rw[prs];refine⟨S.perm.trans h1,λ t ht=>?_,λ x hx=>?_⟩
  .by_cases he:t=q;.subst he;exact S.inc
   have:=NJ (s:=s) (oO:t<q);exact tM (h2 t oO) λ x c1 c2=>S.out x oO
  rw[S.out x oO,h3 x oO]
def aPR{l:List α}(hs:0<s)(hk:NA z lt key l)(hB:a1I z key s l):(TA z lt s l).Perm l/\a1I z key (2*s) (TA z lt s l):=by
 obtain⟨k,ek⟩:=xE (l.length/(2*s));have k1:2*s*k<=l.length:=by rw[ek];exact Nat.mul_div_le _ _
 have k2:l.length<2*s*k+2*s:=by have:=Nat.lt_mul_div_succ l.length (oO:0<2*s);rw[<-ek,Nat.mul_add,JK]at this;exact this
 obtain⟨h1,h2,h3⟩:=aBQ hs hk hB k1;have e1:s*(2*k)=2*s*k:=by rw[jN 2 s,Nat.mul_assoc]
 have e2:s*(2*k+1)=2*s*k+s:=by rw[Nat.mul_add,e1,JK]
 have b1:=hB (2*k);have b2:=hB (2*k+1);rw[e1]at b1;rw[e2]at b2;unfold TA;rw[<-ek];split
 .rename_i hc
  have S:Sym z key (prs z lt s l k) (tG z lt l.length (prs z lt s l k) (2*s*k) (2*s*k+s) l.length) (2*s*k) l.length:=
   EF (nE hk h1) oO oO (by rw[h1.length_eq];omega) oO (tM (λ i j c1 c2 c3=>b1 i j c1 c2 oO) λ x c1 c2=>h3 x c1) (tM (λ i j c1 c2 c3=>b2 i j c1 c2 oO) λ x c1 c2=>h3 x oO)
  have hp:=S.perm.trans h1;refine⟨hp,λ t=>?_⟩;rw[hp.length_eq];intro i j c1 c2 c3;by_cases ht:t<k;.have:=NJ (s:=s) ht;exact tM (h2 t ht) (λ x d1 d2=>S.out x oO) i j c1 c2 oO
  have:=XT (s:=s) (oO:k<=t);exact S.inc i j oO c2 oO
 rename_i hc;refine⟨h1,λ t=>?_⟩;rw[h1.length_eq];intro i j c1 c2 c3;by_cases ht:t<k;.exact h2 t ht i j c1 c2 oO
 have:=XT (s:=s) (oO:k<=t);rw[h3 i oO,h3 j oO];exact b1 i j oO c2 oO
def PS:∀ {f s:Nat} {l:List α},0<s->l.length<=s+f->NA z lt key l->a1I z key s l->(yR z lt f s l).Perm l/\Inc z key (yR z lt f s l) 0 l.length
 |0,s,l,hs,hf,hk,hB=>⟨iF.refl _,λ i j c1 c2 c3=>hB 0 i j oO c2 (by show j<min (s*0+s) l.length;omega)⟩
 |f+1,s,l,hs,hf,hk,hB=>by
  rw[yR];split;.obtain⟨h1,h2⟩:=aPR hs hk hB;obtain⟨h3,h4⟩:=PS (f:=f) (s:=2*s) (l:=TA z lt s l) oO (by rw[h1.length_eq];omega) (nE hk h1) h2;rw[h1.length_eq]at h4;exact⟨h3.trans h1,h4⟩
  exact⟨iF.refl _,λ i j c1 c2 c3=>hB 0 i j oO c2 (by show j<min (s*0+s) l.length;omega)⟩
def aOP{l:List α}(hk:NA z lt key l):(JY z lt l).Perm l/\(JY z lt l).Pairwise λ x y=>key x<=key y:=by obtain⟨h1,h2⟩:=aHP hk;have h3:=PS (f:=l.length) (s:=20) oO (by rw[h1.length_eq];omega) (nE hk h1) h2;have hp:=h3.1.trans h1;refine⟨hp,?_⟩;have h4:=h3.2;rw[h1.length_eq]at h4;rw[CI];intro i j hi hj hij;have:key ((JY z lt l).getD i z)<=key ((JY z lt l).getD j z):=h4 i j oO hij (by rw[<-hp.length_eq];exact hj);rw[AP hj,AP hi]at this;exact this
end
section
variable{α:Type}{z:α}{lt:α->α->Bool}
def yJ:∀ {f:Nat} {l:List α} {a m b:Nat},a<m->m<b->b<=l.length->(tG z lt f l a m b).Perm l
 |0,_,_,_,_,_,_,_=>iF.refl _
 |f+1,l,a,m,b,h1,h2,h3=>by
  rw[tG];split;.have hr:=sY (p:=λ h=>lt (l.getD h z) (l.getD a z)) (f:=b-m) (i:=m) (j:=b) oO;exact PD oO
  split;.exact PE oO
  obtain⟨mid,em⟩:=xE ((a+b)/2);simp only[<-em];obtain⟨s0,es⟩:=xE (if mid<m then mid+m-b else a);obtain⟨r0,er⟩:=xE (if mid<m then mid else m);rw[<-es,<-er]
  have cs:(mid<m/\s0=mid+m-b/\r0=mid)\/(m<=mid/\s0=a/\r0=m):=by
   by_cases c:mid<m;.rw[iP c]at es er;exact dE ⟨c,es,er⟩
   rw[iN c]at es er;exact dP ⟨oO,es,er⟩
  clear es er;have hr:=sY (p:=λ c=> !(lt (l.getD (mid+m-1-c) z) (l.getD c z))) (f:=b-a) (i:=s0) (j:=r0) oO;generalize FH (λ c=> !(lt (l.getD (mid+m-1-c) z) (l.getD c z))) (b-a) s0 r0=st at hr;obtain⟨en,ee⟩:=xE (mid+m-st);rw[<-ee];obtain⟨l1,e1⟩:=xE (if st<m/\m<en then rot z l st m en else l)
  have hp1:l1.Perm l:=by
   rw[e1];split;.exact PJ oO oO oO
   exact iF.refl _
  rw[<-e1];obtain⟨l2,e2⟩:=xE (if a<st/\st<mid then tG z lt f l1 a st mid else l1)
  have hp2:l2.Perm l:=by
   rw[e2];split;.exact(yJ oO oO (by rw[hp1.length_eq];omega)).trans hp1
   exact hp1
  rw[<-e2];split;.exact(yJ oO oO (by rw[hp2.length_eq];omega)).trans hp2
  exact hp2
def RT{l:List α}:∀ {q:Nat},20*q<=l.length->(blk z lt l q).Perm l
 |0,_=>iF.refl _
 |q+1,h=>by have ih:=RT (l:=l) (q:=q) oO;exact(yY (by rw[ih.length_eq];omega)).trans ih
def PU{s:Nat}{l:List α}(hs:0<s):∀ {q:Nat},2*s*q<=l.length->(prs z lt s l q).Perm l
 |0,_=>iF.refl _
 |q+1,h=>by have hm:=NJ (s:=s) (oO:q<q+1);have ih:=PU (l:=l) hs (q:=q) oO;exact(yJ oO oO (by rw[ih.length_eq];omega)).trans ih
def UL{l:List α}(hs:0<s):(TA z lt s l).Perm l:=by
 have k1:2*s*(l.length/(2*s))<=l.length:=Nat.mul_div_le _ _;have ih:=PU (z:=z) (lt:=lt) (l:=l) hs k1;unfold TA;split;.exact(yJ oO oO (by rw[ih.length_eq];omega)).trans ih
 exact ih
def PT:∀ {f s:Nat} {l:List α},0<s->(yR z lt f s l).Perm l
 |0,_,_,_=>iF.refl _
 |f+1,s,l,hs=>by
  rw[yR];split;.exact(PT oO).trans (UL hs)
  exact iF.refl _
def aHQ{l:List α}:(GC z lt (blk z lt l (l.length/20)) (20*(l.length/20)) l.length).Perm l:=by have h1:=RT (z:=z) (lt:=lt) (l:=l) (q:=l.length/20) oO;exact(yY (by rw[h1.length_eq];omega)).trans h1
def stab_perm{l:List α}:(JY z lt l).Perm l:=(PT oO).trans aHQ
end
end Go.Proofs.T
end
section
namespace Go.Proofs.T
open Go Go.AM Go.Proofs
def a6Z(a:St)(d:Dl)(r:List Tk):Prop:=yF a (XX a d r)=0/\btw a (XX a d r)=d
def appR(a:St)(d:Dl)(m:List Tk):Prop:=FitD a d/\dR (mrg a d m)=[]
def bBK{s:St}(h:dR s=[]):∀t∈sQ s,1<=t.id/\t.id<=65535:=λ t ht=>by obtain⟨i,hi,rfl⟩:=mem_tkL.1 ht;have h:=AL (s:=s) (by rw[h];rfl);exact⟨h.lo i hi,h.hi i hi⟩
def aGR(a:St)(d:Dl)(r:List Tk):SS a (XX a d r) a.ng=aB:=by simp only[SS,dTt];exact⟨rfl,rfl,rfl,λ _ _=>rfl⟩
def a6X{a:St}{d:Dl}{r m:List Tk}(ha:dR a=[])(hK:0<a.nk)(hp:r.Perm (FP (sQ a) d.gn d.tk++d.tk))
 (hs:(∀t∈r,1<=t.id/\t.id<=65535)->r.Pairwise λ x y=>x.id<=y.id) (hm:FitD a d->rQ (sQ a) d.gn d.tk m):(a6Z a d r↔appR a d m)/\(a6Z a d r->XX a d r=mrg a d m):=by
 have ia:=(AL (s:=a) (by rw[ha];rfl)).st
 have key:a6Z a d r->FitD a d/\dR (XX a d r)=[]/\XX a d r=mrg a d m:=by
  rintro⟨h1,h2⟩;have hnb:¬uO a (XX a d r):=λ hb=>by unfold yF at h1;rw[iP hb]at h1;exact absurd h1 dC
  have hb:dR (XX a d r)=[]:=by refine jE ?_;unfold uO at hnb;omega
  have h3:GM a (XX a d r)=d:=by unfold btw at h2;rw[iN hnb,aGR,iN sS]at h2;exact h2
  obtain⟨h4,h5⟩:=bQM (m:=m) ia (AL (by rw[hb];rfl)).st hK h3;exact⟨h4,hb,(h5 (hm h4)).symm⟩
 refine⟨⟨λ h=>?_,?_⟩,λ h=>(key h).2.2⟩;.obtain⟨h1,h2,h3⟩:=key h;exact⟨h1,by rw[<-h3];exact h2⟩
 rintro⟨hf,hc⟩;have hmm:=hm hf
 have hid:∀t∈r,1<=t.id/\t.id<=65535:=λ t ht=>by
  have h1:=bBK hc t;rw[WX]at h1;refine h1 ((hmm.2 t).2 ?_);rcases dJ.1 (hp.mem_iff.1 ht)with h|h;.exact dP h
  exact dE h
 obtain⟨e1,e2⟩:=bQL ia hf hmm hp (hs hid);have hnb:¬uO a (XX a d r):=by unfold uO;rw[e1,ha,hc];simp
 refine⟨?_,?_⟩;.unfold yF;rw[iN hnb,aGR,iN sS]
 unfold btw;rw[iN hnb,aGR,iN sS];exact e2
def jB(x y:Tk):Bool:=decide (aH.wrap (x.id-y.id)<0)
def aTG{l:List Tk}(h:∀t∈l,1<=t.id/\t.id<=65535):(JY iM jB l).Pairwise λ x y=>x.id<=y.id:=by refine(aOP (z:=iM) (lt:=jB) (key:=λ t:Tk=>t.id) λ i j hi hj=>?_).2;have h1:=h _ (zB (z:=iM) hi);have h2:=h _ (zB (z:=iM) hj);unfold jB;rw[fD oO oO];show decide _=decide ((l.getD i iM).id<(l.getD j iM).id);congr 1;exact propext ⟨λ h=>oO,λ h=>oO⟩
end Go.Proofs.T
end
section
namespace Go.Proofs.T
open Go Go.AM Go.Proofs
variable{Γ:dW}
def a9K(a b:Int):mI (a,b)=[aD (aE aH a),aD (aE aH b)]:=rfl
def bFJ(a b:Int)(s:Sp):pR (a,b,s)=[aD (aE aH a),aD (aE aH b),aD (aE aI s.v),aD (aE aT s.r),aD (aE aI s.floor)]:=rfl
attribute [go_sem] a9K bFJ
def kO{c:AVal}(h:∀p,iL p c=aB)(a b:Nat):BS a b c=c:=by have:=h λ _=>aF;cases c<;>first|rfl|(simp[iL]at this;done)|(simp[iL]at this;subst this;rfl)
def zE(a b:Nat->Int)(i:Nat):(mC a b i).length<=1:=IG _ _
def RG(a b:St)(i:Nat):(wK a b i).length<=1:=IG _ _
def aDR(a b:St)(g i:Nat):(qJ a b g i).length<=1:=IG _ _
def YF(g:Nat->Nat):Kp [0,1,2,6,7,8,9,10,11,20] g:=oR
def a5T(k D:Nat)(hD:D<k)(a b:Nat->Int)(n:Nat)(hn:n<=1000)(c1 c2 c3 c4 c5:AVal)(e1:∀p,iL p c1=aB)(e2:∀p,iL p c2=aB)(e3:∀p,iL p c3=aB)(e4:∀p,iL p c4=aB)(e5:∀p,iL p c5=aB):
 Tr aG Γ 53 k [.rd 1 n (λ i=>[(a i)]),.rd 1 n (λ i=>[(b i)]),.fn 54 [.ptr D 0 0]] ([(D,⟨6,aF,[[(),c1,c2,c3,c4,c5]]⟩)]) (λ k1 r1 H1=>k1=k+1/\r1= .tup []/\H1=cM k 2 ((iH (mC a b) n).map mI) [(D,⟨6,aF,[[dI k ((iH (mC a b) n).map mI),c1,c2,c3,c4,c5]]⟩)]):=by
 obtain⟨a1,a2,a3,a4,a5,a6⟩:=dB hD;obtain⟨s1,s2,s3,s4,s5⟩:=GX (kO e1) (kO e2) (kO e3) (kO e4) (kO e5);refine bR Tryz.func53 rfl 26 rfl bB (pW ?_);have kp:=YF (λ i=>if i=D then 0 else i-k+1);have uU:=fB a1 a2 a3 a4 a5 a6 e1 e2 (xG e3 e4 e5 s1 s2 s3 s4 s5);refine jI ?_;refine cD (X:=Nat) rfl [0,1,2,6,7,8,9,10,11,20] (k+1) (λ i=>[(10,i)]) (λ i=>cM k 2 ((iH (mC a b) i).map mI) [(D,⟨6,aF,[[dI k ((iH (mC a b) i).map mI),c1,c2,c3,c4,c5]]⟩)]) (λ i=>i<=n) (λ i=>n-i) 0 ?_ (bF _) ?_;.rw[zC,bV];refine gG ?_;(have uU:=fB a1 a2 a3 a4 a5 a6 e1 e2 (xG e3 e4 e5 s1 s2 s3 s4 s5);exact pK)
 intro i hi;have hfl:=lH (zE a b) i;obtain⟨l,el,hl⟩:∃x,x=((iH (mC a b) i).map mI)/\x.length<=i:=⟨_,rfl,by simp;omega⟩;have es:((iH (mC a b) (i+1)).map mI)=l++(mC a b i).map mI:=by rw[wJ,aQ,<-el]
 rw[<-el];refine gG ?_;refine wl ?_;refine kS (gB λ ht ht=>?_) (gB λ ht ht=>?_) (rX λ ht=>?_)
 .refine cl [.gen (.tup []) (k+3) (cM k 2 l [(D,⟨6,aF,[[dI k l,c1,c2,c3,c4,c5]]⟩)]) [(k+2,⟨2,aB,l++[[aD (aE aH (i:Int)),aD (aE aH (b i))]]⟩),(D,⟨6,aF,[[.sl (k+2) 0 (l.length+1),c1,c2,c3,c4,c5]]⟩)]] ?_;refine iA ?_ ?_;.exact bIN (k+1) D k oO oO oO l oO c1 c2 c3 c4 c5 (i:Int) (b i) (e1 _) (e2 _) (e3 _) (e4 _) (e5 _)
  refine jI ?_;refine⟨i+1,oO,oO,?_⟩;rw[es,show mC a b i=[_]from by rw[mC,LX,iP (by first|(simp;omega)|(simp[FF]at ht⊢;omega))],bN,bV];refine gG ?_;exact FI (k+2) k (wV (fB (@a1) (@a2) (@a3) (@a4) (@a5) (@a6) (@e1) (@e2) (xG (@e3) (@e4) (@e5) (@s1) (@s2) (@s3) (@s4) (@s5))))
 .refine⟨i+1,oO,oO,?_⟩;rw[es,show mC a b i=[]from by rw[mC,LX,iN (by first|(simp;omega)|(simp[FF]at ht⊢;omega))],bV,cX];refine gG ?_;(have uU:=fB a1 a2 a3 a4 a5 a6 e1 e2 (xG e3 e4 e5 s1 s2 s3 s4 s5);exact pK)
 have hin:i=n:=oO;subst hin;refine⟨k+1,[],cM k 2 l [(D,⟨6,aF,[[dI k l,c1,c2,c3,c4,c5]]⟩)],?_,_,rfl,rfl,rfl,by rw[el]⟩;(have uU:=fB a1 a2 a3 a4 a5 a6 e1 e2 (xG e3 e4 e5 s1 s2 s3 s4 s5);exact pK)
def a5S(k D:Nat)(hD:D<k)(a b:Nat->Int)(n:Nat)(hn:n<=1000)(c1 c2 c3 c4 c5:AVal)(e1:∀p,iL p c1=aB)(e2:∀p,iL p c2=aB)(e3:∀p,iL p c3=aB)(e4:∀p,iL p c4=aB)(e5:∀p,iL p c5=aB):
 Tr aG Γ 53 k [.rd 1 n (λ i=>[(a i)]),.rd 1 n (λ i=>[(b i)]),.fn 55 [.ptr D 0 0]] ([(D,⟨6,aF,[[c1,(),c2,c3,c4,c5]]⟩)]) (λ k1 r1 H1=>k1=k+1/\r1= .tup []/\H1=cM k 2 ((iH (mC a b) n).map mI) [(D,⟨6,aF,[[c1,dI k ((iH (mC a b) n).map mI),c2,c3,c4,c5]]⟩)]):=by
 obtain⟨a1,a2,a3,a4,a5,a6⟩:=dB hD;obtain⟨s1,s2,s3,s4,s5⟩:=GX (kO e1) (kO e2) (kO e3) (kO e4) (kO e5);refine bR Tryz.func53 rfl 26 rfl bB (pW ?_);have kp:=YF (λ i=>if i=D then 0 else i-k+1);have uU:=fB a1 a2 a3 a4 a5 a6 e1 e2 (xG e3 e4 e5 s1 s2 s3 s4 s5);refine jI ?_;refine cD (X:=Nat) rfl [0,1,2,6,7,8,9,10,11,20] (k+1) (λ i=>[(10,i)]) (λ i=>cM k 2 ((iH (mC a b) i).map mI) [(D,⟨6,aF,[[c1,dI k ((iH (mC a b) i).map mI),c2,c3,c4,c5]]⟩)]) (λ i=>i<=n) (λ i=>n-i) 0 ?_ (bF _) ?_;.rw[zC,bV];refine gG ?_;(have uU:=fB a1 a2 a3 a4 a5 a6 e1 e2 (xG e3 e4 e5 s1 s2 s3 s4 s5);exact pK)
 intro i hi;have hfl:=lH (zE a b) i;obtain⟨l,el,hl⟩:∃x,x=((iH (mC a b) i).map mI)/\x.length<=i:=⟨_,rfl,by simp;omega⟩;have es:((iH (mC a b) (i+1)).map mI)=l++(mC a b i).map mI:=by rw[wJ,aQ,<-el]
 rw[<-el];refine gG ?_;refine wl ?_;refine kS (gB λ ht ht=>?_) (gB λ ht ht=>?_) (rX λ ht=>?_)
 .refine cl [.gen (.tup []) (k+3) (cM k 2 l [(D,⟨6,aF,[[c1,dI k l,c2,c3,c4,c5]]⟩)]) [(k+2,⟨2,aB,l++[[aD (aE aH (i:Int)),aD (aE aH (b i))]]⟩),(D,⟨6,aF,[[c1,.sl (k+2) 0 (l.length+1),c2,c3,c4,c5]]⟩)]] ?_;refine iA ?_ ?_;.exact bIM (k+1) D k oO oO oO l oO c1 c2 c3 c4 c5 (i:Int) (b i) (e1 _) (e2 _) (e3 _) (e4 _) (e5 _)
  refine jI ?_;refine⟨i+1,oO,oO,?_⟩;rw[es,show mC a b i=[_]from by rw[mC,LX,iP (by first|(simp;omega)|(simp[FF]at ht⊢;omega))],bN,bV];refine gG ?_;exact FI (k+2) k (wV (fB (@a1) (@a2) (@a3) (@a4) (@a5) (@a6) (@e1) (@e2) (xG (@e3) (@e4) (@e5) (@s1) (@s2) (@s3) (@s4) (@s5))))
 .refine⟨i+1,oO,oO,?_⟩;rw[es,show mC a b i=[]from by rw[mC,LX,iN (by first|(simp;omega)|(simp[FF]at ht⊢;omega))],bV,cX];refine gG ?_;(have uU:=fB a1 a2 a3 a4 a5 a6 e1 e2 (xG e3 e4 e5 s1 s2 s3 s4 s5);exact pK)
 have hin:i=n:=oO;subst hin;refine⟨k+1,[],cM k 2 l [(D,⟨6,aF,[[c1,dI k l,c2,c3,c4,c5]]⟩)],?_,_,rfl,rfl,rfl,by rw[el]⟩;(have uU:=fB a1 a2 a3 a4 a5 a6 e1 e2 (xG e3 e4 e5 s1 s2 s3 s4 s5);exact pK)
def a5R(k D:Nat)(hD:D<k)(a b:St)(n:Nat)(hn:n<=1000)(c1 c2 c3 c4 c5:AVal)(e1:∀p,iL p c1=aB)(e2:∀p,iL p c2=aB)(e3:∀p,iL p c3=aB)(e4:∀p,iL p c4=aB)(e5:∀p,iL p c5=aB):
 Tr aG Γ 56 k [.rd 2 n (gf a),.rd 2 n (gf b),.fn 57 [.ptr D 0 0]] ([(D,⟨6,aF,[[c1,c2,(),c3,c4,c5]]⟩)]) (λ k1 r1 H1=>k1=k+1/\r1= .tup []/\H1=cM k 2 ((iH (wK a b) n).map mI) [(D,⟨6,aF,[[c1,c2,dI k ((iH (wK a b) n).map mI),c3,c4,c5]]⟩)]):=by
 obtain⟨a1,a2,a3,a4,a5,a6⟩:=dB hD;obtain⟨s1,s2,s3,s4,s5⟩:=GX (kO e1) (kO e2) (kO e3) (kO e4) (kO e5);refine bR Tryz.func56 rfl 26 rfl bB (pW ?_);have kp:=YF (λ i=>if i=D then 0 else i-k+1);have uU:=fB a1 a2 a3 a4 a5 a6 e1 e2 (xG e3 e4 e5 s1 s2 s3 s4 s5);refine jI ?_;refine cD (X:=Nat) rfl [0,1,2,6,7,8,9,10,11,20] (k+1) (λ i=>[(10,i)]) (λ i=>cM k 2 ((iH (wK a b) i).map mI) [(D,⟨6,aF,[[c1,c2,dI k ((iH (wK a b) i).map mI),c3,c4,c5]]⟩)]) (λ i=>i<=n) (λ i=>n-i) 0 ?_ (bF _) ?_;.rw[zC,bV];refine gG ?_;(have uU:=fB a1 a2 a3 a4 a5 a6 e1 e2 (xG e3 e4 e5 s1 s2 s3 s4 s5);exact pK)
 intro i hi;have hfl:=lH (RG a b) i;obtain⟨l,el,hl⟩:∃x,x=((iH (wK a b) i).map mI)/\x.length<=i:=⟨_,rfl,by simp;omega⟩;have es:((iH (wK a b) (i+1)).map mI)=l++(wK a b i).map mI:=by rw[wJ,aQ,<-el]
 rw[<-el];refine gG ?_;refine wl ?_;refine kS (gB λ ht ht=>?_) (gB λ ht ht=>?_) (rX λ ht=>?_)
 .refine cl [.gen (.tup []) (k+5) (cM k 2 l [(D,⟨6,aF,[[c1,c2,dI k l,c3,c4,c5]]⟩)]) [(k+4,⟨2,aB,l++[[aD (aE aH (i:Int)),aD (aE aH (b.wt i))]]⟩),(D,⟨6,aF,[[c1,c2,.sl (k+4) 0 (l.length+1),c3,c4,c5]]⟩)]] ?_;refine iA ?_ ?_;.exact bIL (k+2) D k oO oO oO l oO c1 c2 c3 c4 c5 (i:Int) (b.par i) (b.wt i) (e1 _) (e2 _) (e3 _) (e4 _) (e5 _)
  refine jI ?_;refine⟨i+1,oO,oO,?_⟩;rw[es,show wK a b i=[_]from by rw[wK,LX,iP (by first|(simp;omega)|(simp[FF]at ht⊢;omega))],bN,bV];refine gG ?_;exact FI (k+4) k (wV (fB (@a1) (@a2) (@a3) (@a4) (@a5) (@a6) (@e1) (@e2) (xG (@e3) (@e4) (@e5) (@s1) (@s2) (@s3) (@s4) (@s5))))
 .refine⟨i+1,oO,oO,?_⟩;rw[es,show wK a b i=[]from by rw[wK,LX,iN (by first|(simp;omega)|(simp[FF]at ht⊢;omega))],bV,cX];refine gG ?_;(have uU:=fB a1 a2 a3 a4 a5 a6 e1 e2 (xG e3 e4 e5 s1 s2 s3 s4 s5);exact pK)
 have hin:i=n:=oO;subst hin;refine⟨k+1,[],cM k 2 l [(D,⟨6,aF,[[c1,c2,dI k l,c3,c4,c5]]⟩)],?_,_,rfl,rfl,rfl,by rw[el]⟩;(have uU:=fB a1 a2 a3 a4 a5 a6 e1 e2 (xG e3 e4 e5 s1 s2 s3 s4 s5);exact pK)
def a5Q(k D:Nat)(hD:D<k)(id:Nat)(hid:id<k)(hne:D≠id)(E:Nat)(hE:E<k)(hDE:D≠E)(hEi:E≠id)(l0:List (Int×Int×Sp))(hl0:l0.length<=10000)(a b:St)(g:Nat)(n:Nat)(hn:n<=1000)(c1 c2 c3 c4 c5:AVal)(e1:∀p,iL p c1=aB)(e2:∀p,iL p c2=aB)(e3:∀p,iL p c3=aB)(e4:∀p,iL p c4=aB)(e5:∀p,iL p c5=aB):
 Tr aG Γ 59 k [.rd 3 n (sf a g),.rd 3 n (sf b g),.fn 60 [.ptr D 0 0,.ptr E 0 0]] (cM id 5 (l0.map pR) [(D,⟨6,aF,[[c1,c2,c3,c4,c5,dI id (l0.map pR)]]⟩),(E,⟨1,aB,[[g]]⟩)]) (λ k1 r1 H1=>k1=k+1/\r1= .tup []/\H1=cM k 5 ((l0++iH (qJ a b g) n).map pR) [(D,⟨6,aF,[[c1,c2,c3,c4,c5,dI k ((l0++iH (qJ a b g) n).map pR)]]⟩),(E,⟨1,aB,[[g]]⟩)]):=by
 obtain⟨a1,a2,a3,a4,a5,a6⟩:=dB hD;obtain⟨s1,s2,s3,s4,s5⟩:=GX (kO e1) (kO e2) (kO e3) (kO e4) (kO e5);obtain⟨b1,b2,b3,b4,b5,b6⟩:=dB hid;obtain⟨d1,d2⟩:=jG hne;obtain⟨g1,g2,g3,g4,g5,g6⟩:=dB hE;obtain⟨d3,d4⟩:=jG hDE;obtain⟨d5,d6⟩:=jG hEi;refine bR Tryz.func59 rfl 26 rfl bB (pW (gW (vG id oO) ?_));have uU:=fB a1 a2 a3 a4 a5 a6 e1 e2 (fB e3 e4 e5 s1 s2 s3 s4 s5 (fB b1 b2 b3 @b4 @b5 @b6 d1 d2 (fB g1 g2 g3 g4 g5 g6 d3 d4 (zA d5 d6))));refine gG ?_;have kp:=YF (λ i=>if i=D then 0 else if i=E then 1 else if i=id then 2 else i-k+3);refine jI ?_;refine cD (X:=Nat) rfl [0,1,2,6,7,8,9,10,11,20] (k+1) (λ i=>[(10,i)]) (λ i=>cM k 5 ((l0++iH (qJ a b g) i).map pR) [(D,⟨6,aF,[[c1,c2,c3,c4,c5,dI k ((l0++iH (qJ a b g) i).map pR)]]⟩),(E,⟨1,aB,[[g]]⟩)]) (λ i=>i<=n) (λ i=>n-i) 0 ?_ (bF _) ?_;.rw[zC,cX];refine gG ?_;(have uU:=fB a1 a2 a3 a4 a5 a6 e1 e2 (fB e3 e4 e5 s1 s2 s3 s4 s5 (fB b1 b2 b3 @b4 @b5 @b6 d1 d2 (fB g1 g2 g3 g4 g5 g6 d3 d4 (zA d5 d6))));exact pK)
 intro i hi;have hfl:=lH (aDR a b g) i;obtain⟨l,el,hl⟩:∃x,x=((l0++iH (qJ a b g) i).map pR)/\x.length<=10000+i:=⟨_,rfl,by simp;omega⟩;have es:((l0++iH (qJ a b g) (i+1)).map pR)=l++(qJ a b g i).map pR:=by rw[wJ,<-dA,aQ,<-el]
 rw[<-el];refine gG ?_;refine wl ?_;refine kS (gB λ ht ht=>?_) (gB λ ht ht=>?_) (rX λ ht=>?_)
 .refine cl [.gen (.tup []) (k+5) (cM k 5 l [(D,⟨6,aF,[[c1,c2,c3,c4,c5,dI k l]]⟩),(E,⟨1,aB,[[g]]⟩)]) [(k+4,⟨5,aB,l++[[aD (aE aH (g:Int)),aD (aE aH (i:Int)),aD (aE aI (b.sp g i).v),aD (aE aT (b.sp g i).r),aD (aE aI (b.sp g i).floor)]]⟩),(D,⟨6,aF,[[c1,c2,c3,c4,c5,.sl (k+4) 0 (l.length+1)]]⟩),(E,⟨1,aB,[[g]]⟩)]] ?_;refine iA ?_ ?_;.exact bIK (k+2) D E k oO oO oO oO hDE oO l oO c1 c2 c3 c4 c5 (g:Int) (i:Int) (b.sp g i).v (b.sp g i).r (b.sp g i).floor (e1 _) (e2 _) (e3 _) (e4 _) (e5 _)
  refine jI ?_;refine⟨i+1,oO,oO,?_⟩;rw[es,show qJ a b g i=[_]from by rw[qJ,LX,iP (by first|(simp[FF];omega)|(simp[FF]at ht⊢;omega))],bN,bV];refine gG ?_;exact FI (k+4) k (wV (fB (@a1) (@a2) (@a3) (@a4) (@a5) (@a6) (@e1) (@e2) (fB (@e3) (@e4) (@e5) (@s1) (@s2) (@s3) (@s4) (@s5) (fB (@b1) (@b2) (@b3) (@b4) (@b5) (@b6) (@d1) (@d2) (fB (@g1) (@g2) (@g3) (@g4) (@g5) (@g6) (@d3) (@d4) (zA (@d5) (@d6)))))))
 .refine⟨i+1,oO,oO,?_⟩;rw[es,show qJ a b g i=[]from by rw[qJ,LX,iN (by first|(simp[FF];omega)|(simp[FF]at ht⊢;omega))],bV,cX];refine gG ?_;(have uU:=fB a1 a2 a3 a4 a5 a6 e1 e2 (fB e3 e4 e5 s1 s2 s3 s4 s5 (fB b1 b2 b3 @b4 @b5 @b6 d1 d2 (fB g1 g2 g3 g4 g5 g6 d3 d4 (zA d5 d6))));exact pK)
 have hin:i=n:=oO;subst hin;refine⟨k+1,[],cM k 5 l [(D,⟨6,aF,[[c1,c2,c3,c4,c5,dI k l]]⟩),(E,⟨1,aB,[[g]]⟩)],?_,_,rfl,rfl,rfl,by rw[el]⟩;(have uU:=fB a1 a2 a3 a4 a5 a6 e1 e2 (fB e3 e4 e5 s1 s2 s3 s4 s5 (fB b1 b2 b3 @b4 @b5 @b6 d1 d2 (fB g1 g2 g3 g4 g5 g6 d3 d4 (zA d5 d6))));exact pK)
attribute [local irreducible] jM del
def kL(n:Nat)(f:Nat->Int):List (List AVal):=(aR n).map λ i=>[aD (aE aH (f i))]
def sC(n:Nat)(f:Nat->Int):(kL n f).length=n:=by simp[kL]
def yO{n i:Nat}{f:Nat->Int}(h:i<n):(kL n f)[i]? =aA [aD (aE aH (f i))]:=by simp[kL,h]
def aPF{n i:Nat}{f:Nat->Int}{v:Int}:(kL n f).set i [aD (aE aH v)]=kL n (AE f i v):=fF λ j=>by
 rw[dS];by_cases hj:j<n
 .by_cases e:i=j;.subst e;rw[iP rfl,sC,iP hj,yO hj];simp[AE]
  rw[iN e,yO hj,yO hj];simp[AE,Ne.symm e]
 rw[bE (l:=kL n (AE f i v)) (by rw[sC];omega)];split;.rw[sC,iN oO]
 exact bE (by rw[sC];omega)
def UJ(N:Nat)(f:Nat->Int)(l:List (Int×Int))(x:Int×Int):xI N f (l++[x])=if 0<=x.1/\x.1<N then AE (xI N f l) x.1.toNat x.2 else xI N f l:=by
 unfold xI;rw[OT];by_cases h:0<=x.1/\x.1<N;.rw[iP h,show List.filter (λ x:Int×Int=>decide (0<=x.1/\x.1<N)) [x]=[x]by simp[h],toN,aQ];exact aPP _ _ _
 rw[iN h,show List.filter (λ x:Int×Int=>decide (0<=x.1/\x.1<N)) [x]=[]by simpa using h,cX]
def pre{α:Type}(v:Nat->α)(i:Nat):List α:=(aR i).map v
def PV{α:Type}(v:Nat->α)(i:Nat):pre v (i+1)=pre v i++[v i]:=by simp[pre,List.range_succ]
def a8I(n:Nat)(f:Nat->Int)(nv:Nat)(v:Nat->Int×Int)(hn:n<=100000)(hv:nv<=100000)(k id:Nat)(hid:id<k):
 AM.Tr aG Γ 62 k [.sl id 0 n,.rd 2 nv (λ i=>[aD (aE aH (v i).1),aD (aE aH (v i).2)])] [(id,⟨1,aB,kL n f⟩)]
  (λ k1 r1 H1=>k1=k/\r1= .tup []/\H1=[(id,⟨1,aB,kL n (xI n f (pre v nv))⟩)]):=by
 have i0:¬id=k:=oO;have i4:∀q,id<k+q:=λ q=>oO;have i1:∀q,¬id=k+q:=λ q=>oO;have i2:¬k=id:=oO;have i3:∀q,¬k+q=id:=λ q=>oO;refine bR Tryz.func62 rfl 29 rfl bB ?_;have kp:Kp [0,1,5,6,7,8,9,21] (λ i=>if k<=i then i-k+1 else 0):=oR;have uU:=rY hid i0 i1 i2 i3 i4;refine gO ?_;refine cD (X:=Nat) rfl [0,1,5,6,7,8,9,21] k (λ i=>[(8,i)]) (λ i=>[(id,⟨1,aB,kL n (xI n f (pre v i))⟩)]) (λ i=>i<=nv) (λ i=>nv-i) 0 ?_ (bF _) ?_;.rw[show xI n f (pre v 0)=f from rfl];refine cZ ?_;exact iC
 intro i hi;obtain⟨F,eF⟩:=xE (xI n f (pre v i));have hnx:xI n f (pre v (i+1))=if 0<=(v i).1/\(v i).1<n then AE F (v i).1.toNat (v i).2 else F:=by rw[PV,UJ,<-eF]
 rw[<-eF];by_cases hlt:i<nv
 .obtain⟨x,ex⟩:=xE ((v i).1);obtain⟨y,ey⟩:=xE ((v i).2);rw[<-ex,<-ey]at hnx;have hl:=sC n F;by_cases h0:0<=x
  .by_cases h1:x<n;.rw[iP ⟨h0,h1⟩]at hnx;have g1:=yO (n:=n) (f:=F) (i:=x.toNat) oO;have gs:=aPF (n:=n) (f:=F) (i:=x.toNat) (v:=y);obtain⟨R,eR⟩:=xE (kL n F);rw[<-eR]at hl g1 gs;rw[<-eR];have b1:x.toNat<n:=oO;have ex':=ex.symm;have ey':=ey.symm;have uU:=fB hid i0 i1 i2 i3 i4 hl g1 (GX h0 h1 b1 ex' ey');refine cZ ?_;refine vI ?_;refine kB (gB λ ht ht=>⟨i+1,oO,oO,?_⟩);rw[hnx,<-gs,(oO:((i+1:Nat):Int)=(i:Int)+1)];exact iC
   rw[iN (λ h=>h1 h.2)]at hnx;have ex':=ex.symm;have ey':=ey.symm;have uU:=fB hid i0 i1 i2 i3 i4 hl h0 (uT h1 ex' ey');refine cZ ?_;refine vI ?_;refine kB (gB λ ht ht=>⟨i+1,oO,oO,?_⟩);rw[hnx,(oO:((i+1:Nat):Int)=(i:Int)+1)];exact iC
  rw[iN (λ h=>h0 h.1)]at hnx;have ex':=ex.symm;have ey':=ey.symm;have uU:=fB hid i0 i1 i2 i3 i4 hl h0 (zA ex' ey');refine cZ ?_;refine vI ?_;refine kB (gB λ ht ht=>⟨i+1,oO,oO,?_⟩);rw[hnx,(oO:((i+1:Nat):Int)=(i:Int)+1)];exact iC
 have hin:i=nv:=oO;subst hin;refine cZ ?_;refine gJ λ ht=>?_;refine⟨_,rfl,rfl,?_⟩;rw[eF]
end Go.Proofs.T
end
section
namespace Go.Proofs
open Go.Shelf
def Tryz.sortI_ren:Go.Shelf.Ren:=⟨λ |53=>58|64=>119|63=>118|78=>206|79=>207|70=>197|71=>198|72=>199|73=>200|74=>201|75=>202|59=>203|76=>204|77=>205|88=>248|89=>249|90=>250|91=>251|92=>252|68=>212|96=>284|n=>n,λ |22=>26|23=>3|3=>3|51=>189|0=>0|67=>50|69=>22|4=>4|61=>261|60=>260|44=>204|5=>5|9=>9|75=>300|79=>303|83=>326|84=>285|n=>n,λ |n=>n⟩
def Tryz.sortI:Go.Proofs.SlLaysN.n53 aG Tryz.sortI_ren:={
 mixed:=by kernel_rfl
 f53:=⟨Tryz.f58.name,by decide,Tryz.func58.trans cSo⟩
 f59:=⟨Tryz.f203.name,by decide,Tryz.func203.trans cSo⟩
 f63:=⟨Tryz.f118.name,by decide,Tryz.func118.trans cSo⟩
 f64:=Tryz.func119.trans cSo
 f68:=⟨Tryz.f212.name,by decide,Tryz.func212.trans cSo⟩
 f70:=⟨Tryz.f197.name,by decide,Tryz.func197.trans cSo⟩
 f71:=⟨Tryz.f198.name,by decide,Tryz.func198.trans cSo⟩
 f72:=⟨Tryz.f199.name,by decide,Tryz.func199.trans cSo⟩
 f73:=⟨Tryz.f200.name,by decide,Tryz.func200.trans cSo⟩
 f74:=⟨Tryz.f201.name,by decide,Tryz.func201.trans cSo⟩
 f75:=⟨Tryz.f202.name,by decide,Tryz.func202.trans cSo⟩
 f76:=⟨Tryz.f204.name,by decide,Tryz.func204.trans cSo⟩
 f77:=⟨Tryz.f205.name,by decide,Tryz.func205.trans cSo⟩
 f78:=Tryz.func206.trans cSo
 f79:=Tryz.func207.trans cSo
 f88:=⟨Tryz.f248.name,by decide,Tryz.func248.trans cSo⟩
 f89:=Tryz.func249.trans cSo
 f90:=Tryz.func250.trans cSo
 f91:=⟨Tryz.f251.name,by decide,Tryz.func251.trans cSo⟩
 f92:=⟨Tryz.f252.name,by decide,Tryz.func252.trans cSo⟩
 f96:=⟨Tryz.f284.name,by decide,Tryz.func284.trans cSo⟩
 t0:=Tryz.underlying0
 a0:=Tryz.isAgg0
 z0:=Tryz.sizeOf0
 v0:=Tryz.zeroValue0
 t3:=aNW
 a3:=Tryz.isAgg3
 z3:=Tryz.sizeOf3
 v3:=Tryz.zeroValue3
 t4:=Tryz.underlying4
 a4:=Tryz.isAgg4
 z4:=Tryz.sizeOf4
 v4:=Tryz.zeroValue4
 t5:=gX
 a5:=Tryz.isAgg5
 z5:=Tryz.sizeOf5
 v5:=Tryz.zeroValue5
 t9:=aNV
 a9:=Tryz.isAgg9
 z9:=Tryz.sizeOf9
 v9:=Tryz.zeroValue9
 t22:=Tryz.underlying26
 a22:=Tryz.isAgg26
 z22:=Tryz.sizeOf26
 v22:=Tryz.zeroValue26
 t23:=aNW
 a23:=Tryz.isAgg3
 z23:=Tryz.sizeOf3
 v23:=Tryz.zeroValue3
 t44:=Tryz.underlying204
 a44:=Tryz.isAgg204
 z44:=Tryz.sizeOf204
 v44:=Tryz.zeroValue204
 t51:=Tryz.underlying189
 a51:=Tryz.isAgg189
 z51:=Tryz.sizeOf189
 v51:=Tryz.zeroValue189
 t60:=Tryz.underlying260
 a60:=Tryz.isAgg260
 z60:=Tryz.sizeOf260
 v60:=Tryz.zeroValue260
 t61:=Tryz.underlying261
 a61:=Tryz.isAgg261
 z61:=Tryz.sizeOf261
 v61:=Tryz.zeroValue261
 t67:=bJD
 a67:=Tryz.isAgg50
 z67:=Tryz.sizeOf50
 v67:=Tryz.zeroValue50
 t69:=Tryz.underlying22
 a69:=Tryz.isAgg22
 z69:=Tryz.sizeOf22
 v69:=Tryz.zeroValue22
 t75:=Tryz.underlying300
 a75:=Tryz.isAgg300
 z75:=Tryz.sizeOf300
 v75:=Tryz.zeroValue300
 t79:=Tryz.underlying303
 a79:=Tryz.isAgg303
 z79:=Tryz.sizeOf303
 v79:=Tryz.zeroValue303
 t83:=Tryz.underlying326
 a83:=Tryz.isAgg326
 z83:=Tryz.sizeOf326
 v83:=Tryz.zeroValue326
 t84:=Tryz.underlying285
 a84:=Tryz.isAgg285
 z84:=Tryz.sizeOf285
 v84:=Tryz.zeroValue285}
end Go.Proofs
end
section
namespace Go.Proofs.T
open Go Go.AM Go.Proofs Go.Shelf Go.RowKit Go.Lib Go.Sort
variable{α:Type}{C:Array Value}{ty:TypeId}
variable{Γ:dW}
def XN[Inhabited α]{enc:α->Value}{w:World}{b:Nat}(n:Nat)(F:Array α)(hC:w.heap[b]? =aA (Obj.cells C ty (0,0))):
 (putRow enc (Sort.ahead w n) b 0 F).heap[b]? =aA (.cells (putCells enc 0 F C) ty (0,0))/\(∀j,j≠b->(putRow enc (Sort.ahead w n) b 0 F).heap[j]? =w.heap[j]?)/\(putRow enc (Sort.ahead w n) b 0 F).heap.size=w.heap.size:=by
 refine⟨?_,λ j hj=>?_,?_⟩;.simp only[putRow,mapBlock,Sort.ahead,TV,if_true];rw[hC];rfl
 .simp only[putRow,mapBlock,Sort.ahead,TV];rw[iN (λ h=>hj h.symm)]
 simp[putRow,mapBlock,Sort.ahead]
def SY[Inhabited α]{enc:α->Value}(F:Array α)(C:Array Value)(j:Nat)(hj:j<F.size)(hC:j<C.size):(putCells enc 0 F C)[j]? =aA (enc F[j]!):=by simp only[putCells,Array.getElem?_mapIdx,aW hC,bO,bF,eQ,hj,and_self,if_true,vN]
def aVO(l R:List Int)(hp:R.Perm l)(hs:R.Pairwise (λ x y=>x<=y)):(l.mergeSort λ x y=>decide (x<=y))=R:=by refine iF.eq_of_pairwise (le:=λ x y:Int=>x<=y) (λ a b _ _ h1 h2=>oO) ?_ hs ((List.mergeSort_perm l _).trans hp.symm);have:=List.pairwise_mergeSort (le:=λ x y:Int=>decide (x<=y)) (λ a b c h1 h2=>by simp only[dTt]at*;omega) (λ a b=>by simp only[gQ,dTt];omega) l;simpa only[dTt]using this
def a2N(k F:Nat)(l R:List Int)(hp:R.Perm l)(hs:R.Pairwise (λ x y=>x<=y))(hl:l.length<=100000):
 Tr aG Γ 58 k [dI F (l.map nR)] (cM F 1 (l.map nR) []) (λ k1 r1 H1=>k1=k/\r1= .tup []/\H1=cM F 1 (R.map nR) []):=by
 intro A hA w G ρ cargs hr hvs;obtain⟨hlen,hv⟩:=hvs;have h0:=hv 0 _ rfl
 have hc2:cargs= #[cargs.getD 0 undef]:=by
  have hsz:cargs.size=1:=hlen.symm;apply aJX;.simp[hsz]
  intro i hi1 hi2
  match i with
  |0=>simp[Array.getD,hsz]
  |i+1=>omega
 cases l with
 |nil=>
  have hR:R=[]:=hp.eq_nil;subst hR;have e0:cargs.getD 0 undef= .slice aC 0 0:=by generalize cargs.getD 0 undef=x at h0;cases h0;rfl
  rw[hc2,e0];have hnone:Calls aG 58 #[.slice aC 0 0] w λ e w'=>e= .returned (.tuple #[])/\w'=w:=AnyG.slices_Sort_int_none Tryz.sortI aC 0 w;refine hnone.mono ?_;rintro e w' ⟨rfl,rfl⟩;refine⟨.tuple #[],G,ρ,k,.tup [],[],rfl,⟨rfl,rfl,rfl⟩,aJ _,?_,.tup rfl (λ j v hj=>by simp at hj),lF _ _ _ _⟩;exact⟨λ id _=>hr.dom id rfl,λ id B A' hid=>by simp[bK,AM.look]at hid,hr.inj,hr.ro,hr.glob⟩
 |cons x t=>
  obtain⟨l,el⟩:=xE (x::t);have hne:l.length≠0:=by rw[el];simp
  have eV:dI F ((x::t).map nR)= .sl F 0 l.length:=by rw[el];simp[dI]
  have eH:∀q:List Int,q.length≠0->cM F 1 (q.map nR) []=[(F,⟨1,aB,q.map nR⟩)]:=λ q hq=>by
   cases q with
   |nil=>simp at hq
   |cons a b=>rfl
  rw[eV]at h0;rw[<-el,eH l hne]at hr;rw[<-el]at hp hl;clear eV;have hRne:R.length≠0:=by rw[hp.length_eq];exact hne
  rw[eH R hRne];have hid:bK [(F,⟨1,aB,l.map nR⟩)] A F=aA (⟨1,aB,l.map nR⟩,A):=by simp[bK,AM.look]
  obtain⟨hAF,b,hρ,hgb,hBRF⟩:=hr.blk F _ _ hid;simp only at hρ
  obtain⟨cap,e0,sh,hsh⟩:∃cap,cargs.getD 0 undef= .slice (aA ⟨b,0,aC⟩) l.length cap/\∃sh,w.shape? b=aA sh:=by
   generalize cargs.getD 0 undef=x at h0;generalize hll:l.length=ll at h0⊢
   cases h0 with
   |dangs _ hn=>rw[hρ]at hn;cases hn
   |sl0=>exact absurd hll hne
   |sl _ hs hsh _ hnc _ ho=>
    rw[hρ]at hs;cases hs;rcases ho with ho|ho;.omega
    rw[ho,rT];exact⟨_,rfl,_,hsh⟩
  obtain⟨⟨C,ty,hC,hrow⟩,hrl⟩:=hBRF.old hsh;simp only[if_true]at hrow;have hblt:b<w.heap.size:=hr.owned_lt ⟨F,1,hρ⟩;have hget:∀(q:List Int) j,j<q.length->(q.map nR)[j]? =aA [aD (aE aH q[j]!)]:=λ q j hj=>by rw[aV,aN hj,getElem!_pos q j hj];rfl
  have hH:Holds (aE .i64) w b 0 l.toArray:=by
   intro j hj;have hj':j<l.length:=by simpa using hj
   obtain⟨cv,h3,h4⟩:=hrow j _ 0 _ (hget l j hj') rfl;cases h4;refine⟨?_,?_⟩;.unfold World.cell?;simp only[hC];rw[JK,kG]at h3;simp[h3,hj']
   unfold World.frozen?;simp[hC]
  have hcon:=AnyG.slices_Sort_int Tryz.sortI b 0 cap l w hH hblt oO;change Calls aG 58 _ _ _ at hcon;rw[aVO l R hp hs]at hcon;rw[hc2,e0];refine hcon.mono ?_;rintro e w' ⟨rfl,n,os,rfl⟩;obtain⟨p1,p2,p3⟩:=XN (enc:=aE .i64) n R.toArray hC
  have hrows:∀r row c v,(R.map nR)[r]? =aA row->row[c]? =aA v->∃cv,(putCells (aE .i64) 0 R.toArray C)[r*1+c]? =aA cv/\V w G bX cQ v cv:=by
   intro r row c v hrw hcv
   have hrlt:r<R.length:=by
    by_cases h:r<R.length;.exact h
    rw[bE sO]at hrw;cases hrw
   rw[hget R r hrlt]at hrw;cases hrw
   match c with
   | 0=>
     simp only[lY,aA.injEq]at hcv
     subst hcv
     have hll:r<l.length:=by rw[<-hp.length_eq];exact hrlt
     have hCs:r<C.size:=by
      obtain⟨cv,hcv1,_⟩:=hrow r _ 0 _ (hget l r hll) rfl;by_cases h:r<C.size;.exact h
      rw[iS oO]at hcv1;cases hcv1
     refine⟨.int .i64 R[r]!,?_,.lit⟩
     rw[JK,kG,SY _ _ _ (by simpa using hrlt) hCs]
     simp
   |c+1=>simp at hcv
  have hHF:∀i,bK [(F,(⟨1,aB,R.map nR⟩:Blk))] A i=if i=F then aA ((⟨1,aB,R.map nR⟩:Blk),A)else bK [(F,(⟨1,aB,l.map nR⟩:Blk))] A i:=λ i=>by
   by_cases h:i=F;.subst h;simp[bK,AM.look]
   have h':¬F=i:=λ e=>h e.symm;rw[iN h];simp[bK,AM.look,h']
  obtain⟨q1,q2⟩:=HRel.rows (S:=lX k) (H':=bK [(F,⟨1,aB,R.map nR⟩)] A) (B':=⟨1,aB,R.map nR⟩) hr hid hρ rfl hHF hC p1 (by simp[putCells]) p2 p3 rfl rfl rfl
   (λ i B A' hi j hj=>by
     have:A'=A:=by simp only[bK,AM.look]at hi;split at hi<;>simp at hi;exact hi.2.symm
     subst this;exact hA j hj)
   (λ r row hrw=>by
     rw[aV]at hrw
     cases hR:R[r]? with
     |none=>rw[hR]at hrw;cases hrw
     |some f=>rw[hR]at hrw;cases hrw;rfl)
   hrows rfl
  refine⟨.tuple #[],G,ρ,k,.tup [],[(F,⟨1,aB,R.map nR⟩)],rfl,⟨rfl,rfl,rfl⟩,aJ _,?_,.tup rfl (λ j v hj=>by simp at hj),?_⟩
  .refine(q1.grow os).allow _ ?_ ?_;.intro i hi;simp only[bK,dL]at hi⊢;exact hi
   intro i B A' hi;simp only[bK]at hi⊢
   cases hlk:AM.look [(F,(⟨1,aB,R.map nR⟩:Blk))] i with
   |none=>rw[hlk]at hi;cases hi
   |some B1=>rw[hlk]at hi;cases hi;exact⟨A,rfl,λ i hi=> .inl hi⟩
  exact q2.trans (JW (lX k) os) (λ _ h=>h)
end Go.Proofs.T
end
section
namespace Go.AM
open Go
def unl:Value->AVal
 | .agg cs=> .agg (cs.toList.map .lit)
 |v=> .lit v
def a9D{w:World}{G:Nat->Prop}{ρ:dH}{A:cF}(v:Value):V w G ρ A (unl v) v:=by
 unfold unl;split;.rename_i cs;refine .agg sS λ j u hj=>?_;rw[aV,aK]at hj;obtain⟨y,hy,rfl⟩:=hj;rw[bH]at hy;rw[aM,hy];exact .lit
 exact .lit
def Good.outV {P:Program}{Γ:dW}{o:Oper}{ev:Operand->Option AVal}{get:Nat->Option Blk}{k k':Nat}{v v':AVal}{u:List (Nat×Option Blk)}{r:List Nat}(h:Good P Γ o ev get k ⟨v,k',u,r⟩)
 (hv:∀w G ρ A cv,V w G ρ A v cv->V w G ρ A v' cv):Good P Γ o ev get k ⟨v',k',u,r⟩:=
 ⟨λ w G ρ H A a hr hA hf hrd hop next Q hn=>h.ok w G ρ H A a hr hA hf hrd hop next Q λ w' G' ρ' cv hrel hV hst=>hn w' G' ρ' cv hrel (hv _ _ _ _ _ hV) hst,h.rds,h.le⟩
end Go.AM
end
section
namespace Go.AM
variable{u:AVal}{l:List (List AVal)}{id:Nat}
def KE(id j:Nat)(row:List AVal):Bool:=(row.set j .junk).all (iL (CB id))
def PW{j:Nat}{row:List AVal}(h:KE id j row=aB){c:Nat}(hc:c≠j)(hu:row[c]? =aA u):iL (CB id) u=aB:=by
 have h1:(row.set j .junk)[c]? =aA u:=by rw[iT (Ne.symm hc)];exact hu
 exact aY.1 h u (gL h1)
def aXK{B:Blk}(hu:iL (CB id) u=aB):kY id B u=u:=by
 cases u with
 |ptr i r c=>simp only[iL,CB,dTt]at hu;simp[kY,hu]
 |sl i r c=>simp only[iL,CB,dTt]at hu;simp[kY,hu]
 |_=>rfl
def LE{kb k:Nat}{fr:Fr}{H:aS}{s D sz:Nat}{row:List AVal}(j:Nat)(v:AVal)(fr1:Fr)(H1:aS)(hne:D≠id)(hD:look H D=aA ⟨sz,aF,[row]⟩)(hj:row[j]? =aA (dI id l))
 (hH:mM H id s l) (hv:VLe (rows s l) v) (hoff:KE id j row=aB) (h1:ID fr id fr1) (h2:QK H id H1):Mv kb k fr H k fr1 ((D,⟨sz,aF,[row.set j v]⟩)::H1):=by
 have hvle:∀u u',VLe u u'->VLe u' v->VLe u v:=λ u u' a b w G ρ A cv h=>b w G ρ A cv (a w G ρ A cv h);have hjl:=(aL.1 hj).1
 cases l with
 |nil=>
  refine λ hk=>nC ⟨hk,λ t' u hu=>⟨u,(nZ h1 t' u hu).1,bL u⟩,λ i B hB=>?_,.inl rfl⟩ hk;simp only[look]at hB;split at hB
  .rename_i he;subst he;cases hB;refine⟨_,hD,rfl,λ q row' hq=>?_,λ h=>by cases h⟩
   cases q with
   |zero=>
    cases hq;refine⟨row,rfl,sS,λ c u w hu hw=>?_⟩;by_cases hc:c=j;.subst hc;rw[cE hjl]at hw;rw[hj]at hu;cases hu;cases hw;exact hvle _ _ (VLe.nil s _) hv
    rw[iT (Ne.symm hc),hu]at hw;cases hw;exact bL _
   |succ q=>simp at hq
  exact⟨B,(qF h2 i B hB).2.1,nN B⟩
 |cons x r=>
  have h3:=hH sS;refine Mv.trans (gT id h3 rfl) (λ hk=>nC ⟨hk,λ t' u hu=>?_,λ i B hB=>?_,.inl rfl⟩ hk);.obtain⟨h4,h5⟩:=nZ h1 t' u hu;refine⟨u,?_,bL u⟩;unfold qO;rw[mL,h4,bO,aMN h5]
  simp only[look]at hB;split at hB
  .rename_i he;subst he;cases hB;refine⟨⟨sz,aF,[row.map (kY id ⟨s,aB,x::r⟩)]⟩,by unfold AR;rw[mL,iK,iN hne,hD];rfl,rfl,λ q row' hq=>?_,λ h=>by cases h⟩
   cases q with
   |zero=>
    cases hq;refine⟨row.map (kY id ⟨s,aB,x::r⟩),rfl,sS,λ c u w hu hw=>?_⟩;rw[aV]at hu;by_cases hc:c=j;.subst hc;rw[cE hjl]at hw;rw[hj]at hu;cases hw;simp only[bO,dI,kY,eQ,aJ,and_self,if_true,aA.injEq]at hu;subst hu;exact hv
    rw[iT (Ne.symm hc)]at hw;rw[hw,bO,aXK (PW hoff hc hw)]at hu;cases hu;exact bL _
   |succ q=>simp[MW]at hq
  obtain⟨h4,h5,h6⟩:=qF h2 i B hB;refine⟨B,?_,nN B⟩;unfold AR;rw[mL,iK,iN h4,h5];simp[MW,h6]
attribute [go_sem] KE
end Go.AM
end
section
namespace Go.Proofs.T
open Go Go.AM Go.Proofs
variable{B:Blk}{l:List (List AVal)}{args x:List AVal}{F:List Flt}{i id:Nat}{p:Nat->Bool}{P:Program}{a b:St}
variable{Γ:dW}
def a3U:ByteArray:=⟨#[111,116,104,101,114]⟩
def aGF:ByteArray:=⟨#[98,97,99,107]⟩
def aGE:ByteArray:=⟨#[102,101,108,108]⟩
def bLU:AM.Pure aG Γ 52 [aD (aE bM 17)] (aD (dN a3U)):=aAB (k':=1) 20 rfl rfl kRf
def bLW:AM.Pure aG Γ 52 [aD (aE bM 15)] (aD (dN aGF)):=aAB (k':=1) 20 rfl rfl kRf
def bLV:AM.Pure aG Γ 52 [aD (aE bM 16)] (aD (dN aGE)):=aAB (k':=1) 20 rfl rfl kRf
def aGN(a b:St):∀f∈uK a b,f.r=15\/f.r=16:=λ x hx=>by
 unfold uK at hx;rcases dJ.1 hx with hx|hx;.obtain⟨c,hc,hx⟩:=mem_flats.1 hx;obtain⟨_,rfl⟩:=mem_iff1.1 hx;exact dE rfl
 obtain⟨g,hg,hx⟩:=mem_flats.1 hx;obtain⟨c,hc,hx⟩:=mem_flats.1 hx;obtain⟨_,rfl⟩:=mem_iff1.1 hx;exact dP rfl
def zF:Flt:=⟨0,0,0⟩
def bAG(l:List Flt):VLe (rows 3 (l.map Flt.row)) (.rd 3 l.length (λ j=>Flt.row (l.getD j zF))):=by rw[rows,dG];exact VLe.rd λ i hi=>by simp[aU,hi]
def SM{f:FuncId}{r r':AVal}(h:AM.Pure P Γ f args r)(hle:VLe r r'):AM.Pure P Γ f args r':=λ k A hA w G ρ cargs h1 h2=>
 (h k A hA w G ρ cargs h1 h2).mono λ _ _ ⟨cv,G',ρ',k',r1,H',he,⟨e1,e2,e3⟩,a,b,c,d⟩=>⟨cv,G',ρ',k',r',H',he,⟨e1,rfl,e3⟩,a,b,hle _ _ _ _ _ (e2▸c),d⟩
def bIX(a b:St)(hq:PreOk a)(hq':PreOk b)(hk:Kinds a)(hk':Kinds b):AM.Pure aG Γ 51 [.agg a.cells,.agg b.cells] (.tup [.rd 3 (vU a b).length (λ j=>Flt.row ((vU a b).getD j zF)),(CM a b)]):=
 SM (step a b hq hq' hk hk') (FC (.cons (bAG _) (.cons (bL _) .nil)))
def aYJ(k D:Nat)(hD:D<k)(a b:Nat->Int)(n m:Nat)(hm:m=n)(hn:n<=1000)(c1 c2 c3 c4 c5:AVal)(e1:∀p,iL p c1=aB)(e2:∀p,iL p c2=aB)(e3:∀p,iL p c3=aB)(e4:∀p,iL p c4=aB)(e5:∀p,iL p c5=aB)(L:List (Int×Int))(eL:L=iH (mC a b) n):
 Tr aG Γ 53 k [.rd 1 n (λ i=>[(a i)]),.rd 1 m (λ i=>[(b i)]),.fn 54 [.ptr D 0 0]] ([(D,⟨6,aF,[[(),c1,c2,c3,c4,c5]]⟩)]) (λ k1 r1 H1=>k1=k+1/\r1= .tup []/\H1=cM k 2 (L.map mI) [(D,⟨6,aF,[[dI k (L.map mI),c1,c2,c3,c4,c5]]⟩)]):=by subst hm eL;exact a5T k D hD a b _ hn c1 c2 c3 c4 c5 e1 e2 e3 e4 e5
def aYI(k D:Nat)(hD:D<k)(a b:Nat->Int)(n m:Nat)(hm:m=n)(hn:n<=1000)(c1 c2 c3 c4 c5:AVal)(e1:∀p,iL p c1=aB)(e2:∀p,iL p c2=aB)(e3:∀p,iL p c3=aB)(e4:∀p,iL p c4=aB)(e5:∀p,iL p c5=aB)(L:List (Int×Int))(eL:L=iH (mC a b) n):
 Tr aG Γ 53 k [.rd 1 n (λ i=>[(a i)]),.rd 1 m (λ i=>[(b i)]),.fn 55 [.ptr D 0 0]] ([(D,⟨6,aF,[[c1,(),c2,c3,c4,c5]]⟩)]) (λ k1 r1 H1=>k1=k+1/\r1= .tup []/\H1=cM k 2 (L.map mI) [(D,⟨6,aF,[[c1,dI k (L.map mI),c2,c3,c4,c5]]⟩)]):=by subst hm eL;exact a5S k D hD a b _ hn c1 c2 c3 c4 c5 e1 e2 e3 e4 e5
def aYH(k D:Nat)(hD:D<k)(a b:St)(n m:Nat)(hm:m=n)(hn:n<=1000)(c1 c2 c3 c4 c5:AVal)(e1:∀p,iL p c1=aB)(e2:∀p,iL p c2=aB)(e3:∀p,iL p c3=aB)(e4:∀p,iL p c4=aB)(e5:∀p,iL p c5=aB)(L:List (Int×Int))(eL:L=iH (wK a b) n):
 Tr aG Γ 56 k [.rd 2 n (gf a),.rd 2 m (gf b),.fn 57 [.ptr D 0 0]] ([(D,⟨6,aF,[[c1,c2,(),c3,c4,c5]]⟩)]) (λ k1 r1 H1=>k1=k+1/\r1= .tup []/\H1=cM k 2 (L.map mI) [(D,⟨6,aF,[[c1,c2,dI k (L.map mI),c3,c4,c5]]⟩)]):=by subst hm eL;exact a5R k D hD a b _ hn c1 c2 c3 c4 c5 e1 e2 e3 e4 e5
def bLT(h:∀f∈F,f.r=15\/f.r=16)(hi:i<F.length):∃s:ByteArray,(s=aGF\/s=aGE)/\AM.Pure aG Γ 52 [aD (aE bM (F.getD i zF).r)] (aD (dN s)):=by
 have hm:F.getD i zF∈F:=by rw[aU,aN hi];exact zY hi
 rcases h _ hm with e|e;.rw[e];exact⟨aGF,dE rfl,bLW⟩
 rw[e];exact⟨aGE,dP rfl,bLV⟩
def aRJ(h1:¬uO a b)(h2:SS a b a.ng=aF):btw a b=noDl/\yF a b=351:=by unfold btw yF;simp[h1,h2]
def a6N(h1:uO a b):btw a b=noDl/\yF a b=350:=by unfold btw yF;simp[h1]
def bCV(h1:¬uO a b)(h2:SS a b a.ng=aB):btw a b=GM a b/\yF a b=0:=by unfold btw yF;simp[h1,h2]
def aLB(h:x=noDl.cells):VLes [(),(),(),(),(),()] x:=by subst h;exact .cons (VLe.nil _ _) (.cons (VLe.nil _ _) (.cons (VLe.nil _ _) (.cons (VLe.nil _ _) (.cons (VLe.nil _ _) (.cons (VLe.nil _ _) .nil)))))
def aJE{loc:aS}{D sz:Nat}{B':Blk}(h1:AM.look loc D=aC)(h2:AM.look loc id=aC):rO loc [(D,B)] (cM id sz l [(D,B')]):=λ i hi=>by
 by_cases hD:i=D;.subst hD;exact h1
 by_cases hI:i=id;.subst hI;exact h2
 exfalso;rcases hi with h|h;.simp[fN,AM.look,Ne.symm hD]at h
 cases l<;>simp[cM,fN,AM.look,Ne.symm hD,Ne.symm hI]at h
def aZY(p:Nat->Bool)(s:Nat)(l:List (List AVal)):iL p (rows s l)=aB:=rfl
attribute [go_sem] aZY
def m_2:bd p (.mp i)=p i:=rfl
def m_3:MG p (.mp i)=p i:=rfl
def m_5{a b:Nat}:sw2 a b (.mp i)= .mp (sw a b i):=rfl
def m_9:bd p (.it i)=p i:=rfl
def bLZ{a b:Nat}:sw2 a b (.it i)= .it (sw a b i):=rfl
attribute [go_sem] m_2 m_3 m_5 m_9 bLZ
def CC(l:mR)(clock:Nat):List (List AVal):=(nO .i64 l clock).rows
def LU(mid since:Nat)(seen:List Nat)(c0:Nat):List (List AVal):=(lB mid since seen c0).rows
def a4Q(mid since:Nat)(seen:List Nat)(c0:Nat):lB mid since seen c0=⟨3,aF,LU mid since seen c0⟩:=rfl
def aRS(p:Nat->Bool)(mid since:Nat)(seen:List Nat)(c0:Nat):((LU mid since seen c0).all λ row=>row.all (iL p))=p mid:=by
 have h:(seen.map λ(x:Nat)=>[aD (.int .i64 (x:Int)),(0:Int),(0:Int)]).all (λ row=>row.all (iL p))=aB:=by rw[aY];intro row hr;obtain⟨x,_,rfl⟩:=dM.1 hr;rfl
 simp only[LU,lB,gI,BK,iL,h,iE,lZ]
def aSZ(a b mid since:Nat)(seen:List Nat)(c0:Nat):((LU mid since seen c0).map λ row=>row.map (BS a b))=LU (sw a b mid) since seen c0:=by
 have h:(seen.map λ(x:Nat)=>[aD (.int .i64 (x:Int)),(0:Int),(0:Int)]).map (λ row=>row.map (BS a b))=seen.map λ(x:Nat)=>[aD (.int .i64 (x:Int)),(0:Int),(0:Int)]:=by rw[kT];rfl
 simp only[LU,lB,bN,bV,h,BS]
attribute [go_sem] aRS aSZ
def aTW{s:Nat}{H:aS}(h:id≠i):yL (cM id s l H) i B=cM id s l (yL H i B):=by
 cases l with
 |nil=>rfl
 |cons x r=>simp only[cM,yL];rw[iN h]
attribute [go_sem] aTW
def zT:Tk:=⟨0,0,0,0,0,aF,0,0⟩
def aLM:MapT aG 131 3 89 .i64 (tkV zT):=⟨Tryz.underlying131,aNW,by kernel_rfl⟩
section
variable{o:Oper}{ev:Operand->Option AVal}{get:Nat->Option Blk}{k id c:Nat}{m x y:Operand}{a b:St}{i:Nat}
def bAK(ha:IdOk a)(hi:i<a.nt)(ho:o.op= .mapUpdate 131 m x y)(hm:ev m=aA (.mp id))(hx:ev x=aA (aD (aE aH (a.tsk i).id)))(hy:ev y=aA (.agg (tR (a.tsk i))))(hB:get id=aA ⟨3,aB,CC (pD a i) i⟩):
 AM.Good aG Γ o ev get k ⟨.junk,k,[(id,aA ⟨3,aB,CC (pD a (i+1)) (i+1)⟩)],[id]⟩:=by rw[OZ];exact aBK ho aLM hm hx hy rfl hB (aAW ha oO) (WU (ha.lo i hi) (ha.hi i hi)) (aOM ha.st hi)
def aOK(a:St)(x:Int):Tk:=match CF a x with|none=>zT|some j=>a.tsk j
def aLP(ha:IdOk a)(hb:IdOk b)(hi:i<b.nt)(ho:o.op= .lookup 131 m x aB)(hm:ev m=aA (.mp id))(hx:ev x=aA (aD (aE aH (b.tsk i).id)))(hB:get id=aA ⟨3,aB,CC (KK a b i) c⟩):
 AM.Good aG Γ o ev get k ⟨.tup [.agg (tR (aOK a (b.tsk i).id)),aD (bC (CF a (b.tsk i).id).isSome)],k,[],[id]⟩:=by
 have h:=UY (P:=aG) (Γ:=Γ) (k:=k) ho aLM hm hx hB (aWG ha) (WU (hb.lo i hi) (hb.hi i hi)) (QE ha.st);rw[aWI ha.st hb.st hi]at h;have e:(Option.map (λ j=>tkV (a.tsk j)) (CF a (b.tsk i).id)).getD (tkV zT)=tkV (aOK a (b.tsk i).id):=by unfold aOK;cases CF a (b.tsk i).id<;>rfl
 have e2:(Option.map (λ j=>tkV (a.tsk j)) (CF a (b.tsk i).id)).isSome=(CF a (b.tsk i).id).isSome:=by cases CF a (b.tsk i).id<;>rfl
 rw[e,e2]at h;refine h.outV λ w G ρ A cv hV=>?_
 cases hV with
 |tup hl hv=>
  refine .tup hl λ j v hj=>?_
  match j,hj with
  | 0,hj=>
    cases hj
    have:=hv 0 _ rfl
    generalize Array.getD _ 0 undef=cv at this⊢
    cases this
    exact a9D (tkV (aOK a (b.tsk i).id))
  |1,hj=>cases hj;exact hv 1 _ rfl
  |j+2,hj=>simp at hj
def aIL(ha:IdOk a)(hb:IdOk b)(hi:i<b.nt)(ho:o.op= .call {callee:= .builtin .delete,args:= #[m,x],argTypes:= #[131,3]})(hm:ev m=aA (.mp id))(hx:ev x=aA (aD (aE aH (b.tsk i).id)))(hB:get id=aA ⟨3,aB,CC (KK a b i) c⟩):
 AM.Good aG Γ o ev get k ⟨.lit (.tuple #[]),k,[(id,aA ⟨3,aB,CC (KK a b (i+1)) c⟩)],[id]⟩:=by rw[aWH];exact aDT ho aLM hm hx hB (aWG ha) (WU (hb.lo i hi) (hb.hi i hi)) (QE ha.st)
end
def KF(a b:St)(i:Nat):(mY a b i).length<=1:=IG _ _
end Go.Proofs.T
end
section
namespace Go.AM
open Go
variable{fs:Array Field}{p:Bool}{offs:List (Nat×Nat)}{xs ys:List Value}{d t:Nat}
inductive Fld where
 |one (off g:Nat)
 |sub (off n:Nat) (l:List (Nat×Nat))
def aMQ(P:Program)(f:Field):Option Fld:=
 match FO P f.type with
 |some g=>aA (.one f.offset g)
 | none=>match uL P f.type,(P.info? f.type).map (·.size)with
   |some l,aA n=>aA (.sub f.offset n l)
   |_,_=>aC
def MB(xs ys:List Value):List Fld->Option Bool
 |[]=>aA aB
 | .one off g::r=>match xs[off]?,ys[off]? with
   | some a,aA b=>match MA g a b,MB xs ys r with
     |some p,aA q=>aA (p&&q)
     |_,_=>aC
   |_,_=>aC
 | .sub off n l::r=>match vC ((xs.drop off).take n) ((ys.drop off).take n) l,MB xs ys r with
   |some p,aA q=>aA (p&&q)
   |_,_=>aC
section
variable{P:Program}{Γ:dW}{o:Oper}{ev:Operand->Option AVal}{get:Nat->Option Blk}{k:Nat}
def aIF(ht:uL P t=aA offs)(he:vC xs ys offs=aA p)(w:World):(Op.equalIn (d+2) t (.agg xs.toArray) (.agg ys.toArray)).run P w= .ok p w:=by
 unfold uL at ht;split at ht
 .rename_i fs hu;split at ht;.cases ht
  rename_i hc;simp only[gQ,not_or,bVK]at hc;obtain⟨⟨h1,h2⟩,h3⟩:=hc;have hfs:P.fieldsOf t=fs:=by simp[Program.fieldsOf,hu]
  have hnm:∀f∈fs.toList,f.name≠ "_":=λ f hf he=>by have:=Array.any_eq_false'.1 h3 f (by simpa using hf);simp[he]at this
  have hrun:=IOq (P:=P) (d:=d) xs ys fs.toList offs p hnm ht he w;have hstr:=run_equalIn_struct (P:=P) w (d+1) t xs.toArray ys.toArray (by rw[hfs];exact hu) h1;rw[hfs,hrun]at hstr;exact hstr
 cases ht
def aIG(ht:uL P t=aA offs)(w:World):(isAgg t).run P w= .ok aB w:=by
 unfold uL at ht;split at ht;.rename_i fs hu;unfold isAgg;rw[bS,run_underlying hu w];rfl
 cases ht
def aTR{n:Nat}(h:(P.info? t).map (·.size)=aA n)(w:World):(sizeOf t).run P w= .ok n w:=by simp only[aK]at h;obtain⟨i,h1,h2⟩:=h;simp[sizeOf,typeInfo,h1,h2]
def aIH(xs ys:List Value):∀(fs:List Field) (offs:List Fld) (p:Bool),(∀f∈fs,f.name≠ "_")->(fs.mapM (aMQ P))=aA offs->MB xs ys offs=aA p→
 ∀w,(Op.eqFields (d+2) xs.toArray ys.toArray fs).run P w= .ok p w:=by
 intro fs
 induction fs with
 |nil=>intro offs p _ hm he w;simp at hm;subst hm;simp[MB]at he;subst he;simp[Op.eqFields]
 |cons f fs ih=>
  intro offs p hn hm he w;rw[List.mapM_cons]at hm;simp only[Option.bind_eq_bind,cJ]at hm;obtain⟨x,hx,offs',hm',hp⟩:=hm;cases hp;unfold aMQ at hx;split at hx
  .rename_i g hg;cases hx;simp only[MB]at he;split at he
   .rename_i a b ha hb;split at he;.rename_i p1 q1 h1 h2;cases he;have r1:=HC hg (cs:=xs.toArray) (by rw[cH];exact ha) w;have r2:=HC hg (cs:=ys.toArray) (by rw[cH];exact hb) w;have r3:=KU (d:=d+1) hg h1 w;have r4:=ih offs' q1 (λ f hf=>hn f (dZ _ hf)) hm' h2 w;simp only[Op.eqFields,iP (hn f sS),bS,r1,r2,r3,bJ];cases p1<;>simp[r4]
    cases he
   cases he
  split at hx
  .rename_i l n hl hs;cases hx;simp only[MB]at he;split at he
   .rename_i p1 q1 h1 h2;cases he;have e:∀zs:List Value,zs.toArray.extract f.offset (f.offset+n)=((zs.drop f.offset).take n).toArray:=λ zs=>by simp
    have r0:∀zs:List Value,(part f.type zs.toArray f.offset).run P w= .ok (.agg ((zs.drop f.offset).take n).toArray) w:=λ zs=>by unfold part;rw[bS,aIG hl w,bJ];simp only[if_true,bS,aTR hs,bJ,e];rfl
    have r3:=aIF (d:=d) hl h1 w;have r4:=ih offs' q1 (λ f hf=>hn f (dZ _ hf)) hm' h2 w;simp only[Op.eqFields,iP (hn f sS),bS,r0,r3,bJ];cases p1<;>simp[r4]
   cases he
  cases hx
def aDO{ty:Nat}{x y:Operand}{xc yc:List AVal}{offs:List Fld}{neg:Bool}(ho:o.op= .binOp (if neg then .neq else .eql) t x y ty)(hu:P.underlying t=aA (.struct fs))
 (h1:P.stoodInHeld t=aF) (h2:P.eqGuardType P.depth t=aF) (h3:fs.any (·.name== "_")=aF) (hm:fs.toList.mapM (aMQ P)=aA offs)
 (hx:ev x=aA (.agg xc)) (hy:ev y=aA (.agg yc)) (hxs:nY xc=aA xs) (hys:nY yc=aA ys) (he:MB xs ys offs=aA p):Good P Γ o ev get k ⟨.lit (.bool (if neg then !p else p)),k,[],[]⟩:=by
 refine .quiet (cL λ w G ρ H A a hr hrd hop=>⟨.bool (if neg then !p else p),?_,.lit⟩);have hmx:x∈o.op.operands:=by cases neg<;>simp[ho,Op.operands]
 have hmy:y∈o.op.operands:=by cases neg<;>simp[ho,Op.operands]
 have ex:a.eval x= .agg xs.toArray:=ND (hop x hmx _ hx) (by simp[TZ,hxs]);have ey:a.eval y= .agg ys.toArray:=ND (hop y hmy _ hy) (by simp[TZ,hys]);have hfs:P.fieldsOf t=fs:=by simp[Program.fieldsOf,hu]
 have hnm:∀f∈fs.toList,f.name≠ "_":=λ f hf he=>by have:=Array.any_eq_false'.1 h3 f (by simpa using hf);simp[he]at this
 have hrun:=aIH (P:=P) (d:=9997) xs ys fs.toList offs p hnm hm he w;have hstr:=run_equalIn_struct (P:=P) w 9999 t xs.toArray ys.toArray (by rw[hfs];exact hu) h1;rw[hfs,hrun]at hstr;have hg:=λ op=>run_eqGuard_agg (P:=P) w op t x y xs.toArray ys.toArray h2;cases neg;.simp only[execOp,ho,ex,ey,bP,if_false,bS,hg,bJ,run_eql_struct,hstr,dO]
 simp only[execOp,ho,ex,ey,if_true,bS,hg,bJ,run_neq_struct,hstr,dO]
end
end Go.AM
end
section
namespace Go.Proofs.T
open Go Go.AM Go.Proofs
variable{m n:Nat}{c:Nat->Bool}
variable{Γ:dW}
attribute [local irreducible] jM del
def pE(n m:Nat)(c:Nat->Bool):Bool:=decide (n=m)&& !(nI (λ i=> !(c i)) n)
def rE(h:¬n=m):pE n m c=aF:=by unfold pE;rw[decide_eq_false h];rfl
def rF{i:Nat}(hi:i<n)(h:c i=aF):pE n m c=aF:=by unfold pE;rw[WK (i:=i) (by rw[h];rfl) hi,Bool.not_true,MN]
def kQ(h:n=m)(hc:∀i,i<n->c i=aB):pE n m c=aB:=by unfold pE;rw[decide_eq_true h,BG (λ i hi=>by rw[hc i hi];rfl)];rfl
def aMX:pE n m c=aB↔n=m/\∀i,i<n->c i=aB:=by
 constructor
 .intro h;by_cases h1:n=m
  .refine⟨h1,λ i hi=>?_⟩
   cases hc:c i with
   |true=>rfl
   |false=>rw[rF hi hc]at h;cases h
  rw[rE h1]at h;cases h
 rintro⟨h1,h2⟩;exact kQ h1 h2
def cV(x y:Int×Int):Bool:=x.1==y.1&&x.2==y.2
def cT(x y:Tk):Bool:=x.id==y.id&&(x.group==y.group&&(x.weight==y.weight&&(x.cpu==y.cpu&&(x.mask==y.mask&&(x.ready==y.ready&&(x.v==y.v&&x.r==y.r))))))
def cP(x y:Int×Int×Sp):Bool:=x.1==y.1&&(x.2.1==y.2.1&&(x.2.2.v==y.2.2.v&&(x.2.2.r==y.2.2.r&&x.2.2.floor==y.2.2.floor)))
def cV_iff{x y:Int×Int}:cV x y=aB↔x=y:=by obtain⟨a,b⟩:=x;obtain⟨c,d⟩:=y;simp[cV]
def cT_iff{x y:Tk}:cT x y=aB↔x=y:=by cases x;cases y;simp[cT]
def cP_iff{x y:Int×Int×Sp}:cP x y=aB↔x=y:=by obtain⟨a,b,⟨v,r,f⟩⟩:=x;obtain⟨a',b',⟨v',r',f'⟩⟩:=y;simp[cP]
def YE(k:Nat):Kp [0,1,4,5,10,12,13,14,24] (λ i=>i-k):=oR
def bBE(n m:Nat)(hn:n<=100000)(hm:m<=100000)(f g:Nat->Int):AM.Pure aG Γ 72 [.rd 1 n (λ i=>[(f i)]),.rd 1 m (λ i=>[(g i)])] (pE n m (λ i=>f i==g i)):=by
 refine cA Tryz.func72 rfl 26 rfl bB rfl λ k=>?_;obtain⟨E,eE⟩:=xE (pE n m (λ i=>f i==g i));rw[<-eE];have kp:=YE k;refine wl ?_;refine pN (λ ht=>?_) λ ht=>?_;.refine cB rfl ⟨_,rfl,bG ?_⟩;rw[eE,rE oO]
 refine cD (X:=Nat) rfl [0,1,4,5,10,12,13,14,24] k (λ i=>[(13,i)]) (λ i=>[]) (λ i=>i<=n/\∀j,j<i->(f j==g j)=aB) (λ i=>n-i) 0 ?_ ⟨bF _,λ j hj=>absurd hj (bU _)⟩ ?_;.refine gG ?_;exact sB
 rintro i ⟨hi,hall⟩;refine gG ?_;refine wl ?_;refine kS (gB λ ht ht=>?_) (gB λ ht ht=>?_) (rX λ ht=>?_);.refine cB rfl ⟨_,rfl,bG ?_⟩;rw[eE,rF (i:=i) oO (by first|(rw[dY];simp at ht⊢;omega)|(simpa using ht))]
 .refine⟨i+1,⟨oO,λ j hj=>?_⟩,oO,?_⟩
  .by_cases he:j=i;.subst he;first|(simp;omega)|(simpa using ht)
   exact hall j oO
  exact sB
 refine cB rfl ⟨_,rfl,bG ?_⟩;rw[eE,kQ oO (λ j hj=>hall j oO)]
section
attribute [local go_sem] mI tR pR
def aGX(n m:Nat)(hn:n<=100000)(hm:m<=100000)(f g:Nat->Int×Int):AM.Pure aG Γ 71 [.rd 2 n (λ i=>mI (f i)),.rd 2 m (λ i=>mI (g i))] (pE n m (λ i=>cV (f i) (g i))):=by
 refine cA Tryz.func71 rfl 26 rfl bB rfl λ k=>?_;obtain⟨E,eE⟩:=xE (pE n m (λ i=>cV (f i) (g i)));rw[<-eE];have kp:=YE k;refine wl ?_;refine pN (λ ht=>?_) λ ht=>?_;.refine cB rfl ⟨_,rfl,bG ?_⟩;rw[eE,rE oO]
 refine cD (X:=Nat) rfl [0,1,4,5,10,12,13,14,24] k (λ i=>[(13,i)]) (λ i=>[]) (λ i=>i<=n/\∀j,j<i->(cV (f j) (g j))=aB) (λ i=>n-i) 0 ?_ ⟨bF _,λ j hj=>absurd hj (bU _)⟩ ?_;.refine gG ?_;exact sB
 rintro i ⟨hi,hall⟩;refine gG ?_;refine wl ?_;refine kS (gB λ ht ht=>?_) (gB λ ht ht=>?_) (rX λ ht=>?_);.refine cB rfl ⟨_,rfl,bG ?_⟩;rw[eE,rF (i:=i) oO (by first|(rw[dY];simp[cV]at ht⊢;omega)|(simpa [cV]using ht))]
 .refine⟨i+1,⟨oO,λ j hj=>?_⟩,oO,?_⟩
  .by_cases he:j=i;.subst he;first|(simp[cV];omega)|(simpa [cV]using ht)
   exact hall j oO
  exact sB
 refine cB rfl ⟨_,rfl,bG ?_⟩;rw[eE,kQ oO (λ j hj=>hall j oO)]
def bBC(n m:Nat)(hn:n<=100000)(hm:m<=100000)(f g:Nat->Tk):AM.Pure aG Γ 73 [.rd 8 n (λ i=>tR (f i)),.rd 8 m (λ i=>tR (g i))] (pE n m (λ i=>cT (f i) (g i))):=by
 refine cA Tryz.func73 rfl 26 rfl bB rfl λ k=>?_;obtain⟨E,eE⟩:=xE (pE n m (λ i=>cT (f i) (g i)));rw[<-eE];have kp:=YE k;refine wl ?_;refine pN (λ ht=>?_) λ ht=>?_;.refine cB rfl ⟨_,rfl,bG ?_⟩;rw[eE,rE oO]
 refine cD (X:=Nat) rfl [0,1,4,5,10,12,13,14,24] k (λ i=>[(13,i)]) (λ i=>[]) (λ i=>i<=n/\∀j,j<i->(cT (f j) (g j))=aB) (λ i=>n-i) 0 ?_ ⟨bF _,λ j hj=>absurd hj (bU _)⟩ ?_;.refine gG ?_;exact sB
 rintro i ⟨hi,hall⟩;refine gG ?_;refine wl ?_;refine kS (gB λ ht ht=>?_) (gB λ ht ht=>?_) (rX λ ht=>?_);.refine cB rfl ⟨_,rfl,bG ?_⟩;rw[eE,rF (i:=i) oO (by first|(rw[dY];simp[cT]at ht⊢;omega)|(simpa [cT]using ht))]
 .refine⟨i+1,⟨oO,λ j hj=>?_⟩,oO,?_⟩
  .by_cases he:j=i;.subst he;first|(simp[cT];omega)|(simpa [cT]using ht)
   exact hall j oO
  exact sB
 refine cB rfl ⟨_,rfl,bG ?_⟩;rw[eE,kQ oO (λ j hj=>hall j oO)]
def eP(x y:Int×Int×Sp):Bool:=x.1==y.1&&(x.2.1==y.2.1&&((x.2.2.v==y.2.2.v&&(x.2.2.r==y.2.2.r&&(x.2.2.floor==y.2.2.floor&&aB)))&&aB))
def bIF(x y:Int×Int×Sp):eP x y=cP x y:=by simp[eP,cP]
def aBR{o:Oper}{ev:Operand->Option AVal}{get:Nat->Option Blk}{k ty:Nat}{x y:Operand}{u v:Int×Int×Sp}(ho:o.op= .binOp .neq 93 x y ty)(hx:ev x=aA (.agg (pR u)))(hy:ev y=aA (.agg (pR v))):
 AM.Good aG Γ o ev get k ⟨aD (bC (!(cP u v))),k,[],[]⟩:=by rw[<-bIF];exact aDO (neg:=aB) (offs:=[.one 0 0,.one 1 0,.sub 2 3 [(0,0),(1,0),(2,0)]]) ho Tryz.underlying93 kRf kRf kRf kRf hx hy rfl rfl rfl
def bBD(n m:Nat)(hn:n<=100000)(hm:m<=100000)(f g:Nat->Int×Int×Sp):AM.Pure aG Γ 74 [.rd 5 n (λ i=>pR (f i)),.rd 5 m (λ i=>pR (g i))] (pE n m (λ i=>cP (f i) (g i))):=by
 refine cA Tryz.func74 rfl 26 rfl bB rfl λ k=>?_;obtain⟨E,eE⟩:=xE (pE n m (λ i=>cP (f i) (g i)));rw[<-eE];have kp:=YE k;refine wl ?_;refine pN (λ ht=>?_) λ ht=>?_;.refine cB rfl ⟨_,rfl,bG ?_⟩;rw[eE,rE oO]
 refine cD (X:=Nat) rfl [0,1,4,5,10,12,13,14,24] k (λ i=>[(13,i)]) (λ i=>[]) (λ i=>i<=n/\∀j,j<i->(cP (f j) (g j))=aB) (λ i=>n-i) 0 ?_ ⟨bF _,λ j hj=>absurd hj (bU _)⟩ ?_;.refine gG ?_;exact sB
 rintro i ⟨hi,hall⟩;refine gG ?_;obtain⟨z,ez⟩:=xE (cP (f i) (g i));refine iG rfl ?_;(refine qM rfl [0,1,4,5,10,12,13,14,24] rfl rfl (λ K hK=>?_));refine sT ?_;(refine hK _ _ _ _ (λ hx=>?_));clear hx hK;refine sT ?_;clear K;refine iG rfl (uQ rfl _ rfl (λ ht=>?_) (λ ht=>?_))
 .simp only[nf]at ht;refine BM rfl (gG ?_);refine iG rfl (BN rfl (iG rfl ?_));(refine qM rfl [0,1,4,5,10,12,13,14,24] rfl rfl (λ K hK=>?_));refine sT ?_;(refine hK _ _ _ _ (λ hx=>?_));clear hx hK;refine sT ?_;clear K;refine iG rfl (dl [.raw (aA 24) ⟨aD (bC (!z)),k,[],[]⟩] ?_);refine iA ?_ ?_;.rw[ez];exact aBR rfl rfl rfl
  refine wl ?_;refine pN (λ ht=>?_) λ ht=>?_;.refine cB rfl ⟨_,rfl,bG ?_⟩;rw[eE,rF (i:=i) oO (by rw[<-ez];simp_all)]
  refine⟨i+1,⟨oO,λ j hj=>?_⟩,oO,?_⟩
  .by_cases he:j=i;.subst he;rw[<-ez];simp_all
   exact hall j oO
  exact sB
 simp only[nf]at ht;refine GW rfl (gG ?_);refine jI ?_;refine cB rfl ⟨_,rfl,bG ?_⟩;rw[eE,kQ oO (λ j hj=>hall j oO)]
end
structure DE where
 (n0 n1 n2 n3 n4 n5:Nat)
 (ck cu wg:Nat->Int×Int)
 (gn:Nat->Int)
 (tk:Nat->Tk)
 (sp:Nat->Int×Int×Sp)
def DE.f0 (d:DE)(i:Nat):List AVal:=[aD (aE aH (d.ck i).1),aD (aE aH (d.ck i).2)]
def DE.f1 (d:DE)(i:Nat):List AVal:=[aD (aE aH (d.cu i).1),aD (aE aH (d.cu i).2)]
def DE.f2 (d:DE)(i:Nat):List AVal:=[aD (aE aH (d.wg i).1),aD (aE aH (d.wg i).2)]
def DE.f3 (d:DE)(i:Nat):List AVal:=[aD (aE aH (d.gn i))]
def DE.f4 (d:DE)(i:Nat):List AVal:=[aD (aE aH (d.tk i).id),aD (aE aH (d.tk i).group),aD (aE aH (d.tk i).weight),aD (aE aH (d.tk i).cpu),aD (aE aI (d.tk i).mask),aD (bC (d.tk i).ready),aD (aE aI (d.tk i).v),aD (aE aT (d.tk i).r)]
def DE.f5 (d:DE)(i:Nat):List AVal:=[aD (aE aH (d.sp i).1),aD (aE aH (d.sp i).2.1),aD (aE aI (d.sp i).2.2.v),aD (aE aT (d.sp i).2.2.r),aD (aE aI (d.sp i).2.2.floor)]
attribute [go_sem] DE.f0 DE.f1 DE.f2 DE.f3 DE.f4 DE.f5
def DE.cells (d:DE):List AVal:=[.rd 2 d.n0 d.f0,.rd 2 d.n1 d.f1,.rd 2 d.n2 d.f2,.rd 1 d.n3 d.f3,.rd 8 d.n4 d.f4,.rd 5 d.n5 d.f5]
def DE.size (d:DE):Nat:=d.n0+d.n1+d.n2+d.n3+d.n4+d.n5
attribute [go_sem] DE.cells
def eqD(d e:DE):Bool:=pE d.n0 e.n0 (λ i=>cV (d.ck i) (e.ck i))&&(pE d.n1 e.n1 (λ i=>cV (d.cu i) (e.cu i))&&(pE d.n2 e.n2 (λ i=>cV (d.wg i) (e.wg i))&&(pE d.n3 e.n3 (λ i=>d.gn i==e.gn i)&&(pE d.n4 e.n4 (λ i=>cT (d.tk i) (e.tk i))&&pE d.n5 e.n5 (λ i=>cP (d.sp i) (e.sp i))))))
def aMW(d e:DE)(hd:d.size<=100000)(he:e.size<=100000):AM.Pure aG Γ 23 [.agg d.cells,.agg e.cells] (eqD d e):=by
 unfold DE.size at hd he;refine cA Tryz.func23 rfl 45 rfl bB rfl λ k=>?_;obtain⟨E,eE⟩:=xE (eqD d e);rw[<-eE];obtain⟨z0,h0⟩:=xE (pE d.n0 e.n0 (λ i=>cV (d.ck i) (e.ck i)));obtain⟨z1,h1⟩:=xE (pE d.n1 e.n1 (λ i=>cV (d.cu i) (e.cu i)));obtain⟨z2,h2⟩:=xE (pE d.n2 e.n2 (λ i=>cV (d.wg i) (e.wg i)));obtain⟨z3,h3⟩:=xE (pE d.n3 e.n3 (λ i=>d.gn i==e.gn i));obtain⟨z4,h4⟩:=xE (pE d.n4 e.n4 (λ i=>cT (d.tk i) (e.tk i)));obtain⟨z5,h5⟩:=xE (pE d.n5 e.n5 (λ i=>cP (d.sp i) (e.sp i)));rw[eqD,<-h0,<-h1,<-h2,<-h3,<-h4,<-h5]at eE;have kp:=kN k [0,1,2,3,4];refine jI ?_;refine cl [.ret z0,.ret z1,.ret z2,.ret z3,.ret z4,.ret z5] ?_;refine bEJ (zs ?_) (gZ λ hg=>?_) (yB λ hg hg=>?_) (MO λ hg hg hg=>?_) (aOE λ hg hg hg hg=>?_) (aOD λ hg hg hg hg hg=>?_) (aOD λ hg hg hg hg hg=>?_) (aOD λ hg hg hg hg hg=>?_) (aOE λ hg hg hg hg=>?_) (MO λ hg hg hg=>?_) (yB λ hg hg=>?_) (gZ λ hg=>?_);all_goals(first|(rw[h0];exact aGX d.n0 e.n0 oO oO d.ck e.ck)|(rw[h1];exact aGX d.n1 e.n1 oO oO d.cu e.cu)|(rw[h2];exact aGX d.n2 e.n2 oO oO d.wg e.wg)|(rw[h3];exact bBE d.n3 e.n3 oO oO d.gn e.gn)|(rw[h4];exact bBC d.n4 e.n4 oO oO d.tk e.tk)|(rw[h5];exact bBD d.n5 e.n5 oO oO d.sp e.sp)|skip)
 all_goals(refine cB rfl ⟨_,rfl,bG ?_⟩;rw[eE];simp_all)
def a4R(n:Nat)(hn:n<=100000)(g:Nat->Int)(x:Int):AM.Pure aG Γ 126 [.rd 1 n (λ i=>[(g i)]),x] (idx (λ i=>decide (x=g i)) n):=by
 obtain⟨z,ez⟩:=xE (idx (λ i=>decide (x=g i)) n);rw[<-ez];refine cA Tryz.func126 rfl 19 rfl bB rfl λ k=>?_;have kp:=kN k [0,1,4,5,7,8,9,16];refine gO ?_;refine cD (X:=Nat) rfl [0,1,4,5,7,8,9,16] k (λ i=>[(8,i)]) (λ i=>[]) (λ i=>i<=n/\∀j,j<i->¬x=g j) (λ i=>n-i) 0 ?_ ⟨bF _,λ j hj=>absurd hj (bU _)⟩ ?_;.refine cZ ?_;exact iC
 rintro i ⟨hi,hall⟩;have hall':∀j,j<i->decide (x=g j)=aF:=λ j hj=>decide_eq_false (hall j hj);refine cZ ?_;by_cases hlt:i<n
 .by_cases he:x=g i
  .obtain⟨y,ey⟩:=xE (g i);have ey':=ey.symm;have hxy:x=y:=he.trans ey';have hz:z=(i:Int):=by rw[ez,idx,AT hall' (decide_eq_true he) hlt]
   have uU:=uT hlt ey' hxy;refine vI ?_;refine kB (gB λ ht ht=>cB rfl ⟨_,rfl,bG ?_⟩);rw[hz]
  have he':¬x=g i:=he;have uU:=zA hlt he';refine vI ?_;refine kB (gB λ ht ht=>⟨i+1,⟨oO,λ j hj=>?_⟩,oO,?_⟩)
  .by_cases hj2:j=i;.subst hj2;exact he
   exact hall j oO
  rw[(oO:((i+1:Nat):Int)=(i:Int)+1)];exact iC
 have hin:i=n:=oO;subst hin;have hz:z= -1:=by rw[ez,idx,xZ hall']
 refine gJ λ ht=>?_;refine cB rfl ⟨_,rfl,bG ?_⟩;rw[hz]
def aIP(n:Nat)(hn:n<=100000)(g:Nat->Int)(x:Int):AM.Pure aG Γ 65 [.rd 1 n (λ i=>[(g i)]),x] (nI (λ i=>decide (x=g i)) n):=by
 have h:=a4R (Γ:=Γ) n hn g x;rw[<-OA];obtain⟨z,ez⟩:=xE (idx (λ i=>decide (x=g i)) n);rw[<-ez]at h⊢
 refine cA Tryz.func65 rfl 9 rfl bB rfl λ k=>?_;have kp:=kN k [0,1,4];refine gO ?_;refine sK [.ret z] ?_;all_goals(try exact h)
 refine gO ?_;refine cB rfl ⟨_,rfl,bG ?_⟩;rfl
def aUA(x t:Tk):AM.Pure aG Γ 67 [.agg (tR x),.rp (tR t)] (decide (x.id=t.id)):=by unfold tR;refine cA Tryz.func67 rfl 9 rfl bB rfl λ k=>?_;have kp:=kN k [0,1,2,3];refine gO ?_;refine cB rfl ⟨_,rfl,bG ?_⟩;rfl
def aXA(n:Nat)(hn:n<=100000)(g:Nat->Tk)(t:Tk):AM.Pure aG Γ 125 [.rd 8 n (λ i=>tR (g i)),.fn 67 [.rp (tR t)]] (idx (λ i=>decide ((g i).id=t.id)) n):=by
 obtain⟨z,ez⟩:=xE (idx (λ i=>decide ((g i).id=t.id)) n);rw[<-ez];simp only[tR];refine cA Tryz.func125 rfl 19 rfl bB rfl λ k=>?_;have kp:=kN k [0,1,4,5,7,8,9,16];refine gO ?_;refine cD (X:=Nat) rfl [0,1,4,5,7,8,9,16] k (λ i=>[(8,i)]) (λ i=>[]) (λ i=>i<=n/\∀j,j<i->¬(g j).id=t.id) (λ i=>n-i) 0 ?_ ⟨bF _,λ j hj=>absurd hj (bU _)⟩ ?_;.refine cZ ?_;exact iC
 rintro i ⟨hi,hall⟩;have hall':∀j,j<i->decide ((g j).id=t.id)=aF:=λ j hj=>decide_eq_false (hall j hj);refine cZ ?_;by_cases hlt:i<n
 .have hc:=aUA (Γ:=Γ) (g i) t;obtain⟨y,ey⟩:=xE (decide ((g i).id=t.id));rw[<-ey]at hc;simp only[tR]at hc;have uU:=hlt;refine gJ λ ht=>?_;refine sK [.ret y] ?_
  cases y with
  |true=>
   have hz:z=(i:Int):=by rw[ez,idx,AT hall' ey.symm hlt]
   refine gJ λ ht=>?_;refine cB rfl ⟨_,rfl,bG ?_⟩;rw[hz]
  |false=>
   refine gJ λ ht=>?_;refine⟨i+1,⟨oO,λ j hj=>?_⟩,oO,?_⟩
   .by_cases hj2:j=i;.subst hj2;exact of_decide_eq_false ey.symm
    exact hall j oO
   rw[(oO:((i+1:Nat):Int)=(i:Int)+1)];exact iC
 have hin:i=n:=oO;subst hin;have hz:z= -1:=by rw[ez,idx,xZ hall']
 refine gJ λ ht=>?_;refine cB rfl ⟨_,rfl,bG ?_⟩;rw[hz]
def aDY(n:Nat)(hn:n<=100000)(g:Nat->Tk)(t:Tk):AM.Pure aG Γ 66 [.rd 8 n (λ i=>tR (g i)),.fn 67 [.rp (tR t)]] (nI (λ i=>decide ((g i).id=t.id)) n):=by
 have h:=aXA (Γ:=Γ) n hn g t;rw[<-OA];obtain⟨z,ez⟩:=xE (idx (λ i=>decide ((g i).id=t.id)) n);rw[<-ez]at h⊢
 refine cA Tryz.func66 rfl 9 rfl bB rfl λ k=>?_;have kp:=kN k [0,1,4];refine gO ?_;refine sK [.ret z] ?_;all_goals(try exact h)
 refine gO ?_;refine cB rfl ⟨_,rfl,bG ?_⟩;rfl
def uN(d:DE)(t:Tk):Bool:=nI (λ i=>decide (t.id=d.gn i)) d.n3||nI (λ i=>decide ((d.tk i).id=t.id)) d.n4
def a8Y(d:DE)(hd:d.size<=100000)(t:Tk):AM.Pure aG Γ 64 [.agg (tR t),.rp d.cells] (uN d t):=by
 unfold DE.size at hd;have h1:AM.Pure aG Γ 65 [.rd 1 d.n3 d.f3,t.id] (nI (λ i=>decide (t.id=d.gn i)) d.n3):=aIP d.n3 oO d.gn t.id;have h2:AM.Pure aG Γ 66 [.rd 8 d.n4 d.f4,.fn 67 [.rp (tR t)]] (nI (λ i=>decide ((d.tk i).id=t.id)) d.n4):=aDY d.n4 oO d.tk t;obtain⟨x,ex⟩:=xE (nI (λ i=>decide (t.id=d.gn i)) d.n3);obtain⟨y,ey⟩:=xE (nI (λ i=>decide ((d.tk i).id=t.id)) d.n4);rw[uN,<-ex,<-ey];rw[<-ex]at h1;rw[<-ey]at h2;simp only[tR]at h2⊢
 refine cA Tryz.func64 rfl 15 rfl bB rfl λ k=>iG rfl ?_;(refine qM rfl [0,1,2,3] rfl rfl (λ K hK=>?_));simp-dsimp-implicitDefEqProofs (disch:=omega)only[go_sem,iO,↓reduceIte];(refine hK _ _ _ _ (λ hx=>?_));clear hx hK;simp-dsimp-implicitDefEqProofs (disch:=omega)only[go_sem,iO,↓reduceIte];clear K;refine gW (gT (k) (by simp-dsimp-implicitDefEqProofs (disch:=omega)only[go_sem,iO,↓reduceIte];rfl) rfl) ?_;simp-dsimp-implicitDefEqProofs only[qO,jR,go_sem,eq_self,↓reduceIte]
 cases x with
 |true=>have kp:=kN k [0,1,2,3];refine gO ?_;refine sK [.ret aB] ?_;refine cB rfl ⟨_,rfl,bG ?_⟩;rfl
 |false=>have kp:=kN k [0,1,2,3];refine gO ?_;refine sK [.ret aF,.ret y] ?_;refine cB rfl ⟨_,rfl,bG ?_⟩;rfl
attribute [local go_sem] tR
end Go.Proofs.T
end
section
namespace Go.AM
open Go
variable{args:List AVal}{B:Nat->Fr->aS->Prop}{G:Nat->Prop}{x:Operand}{w:World}{ρ:dH}
section
variable{P:Program}{Γ:dW}{nt kb:Nat}{Q:AQ}{k:Nat}{fr:Fr}{H:aS}{c:Code}{p:List Nat}
def Step.lent{A:cF}{w':World}{G':Nat->Prop}{ρ':dH}(hst:Step A w (λ b=>G b\/mK ρ b) bX w' G' ρ'):Step A w G ρ w' G' ρ':=
 ⟨hst.size,λ b hb _=>hst.keep b hb (λ⟨_,_,h⟩=>by cases h),hst.shape,λ b h=>hst.g b (.inl h),
  λ b h=>(hst.g' b h).elim (λ h=>h.elim .inl λ h=> .inr (.inl h)) (λ h=>h.elim (λ⟨_,_,h⟩=>by cases h) λ h=> .inr (.inr h)),
  λ b h=>(hst.own b h).elim (λ⟨_,_,h⟩=>by cases h) .inr,λ id h=>(hst.ids id h).elim .inl .inl,hst.os,hst.tape,hst.output⟩
def WB(P:Program)(Γ:dW)(nt kb:Nat)(c:Code)(B:Nat->Fr->aS->Prop)(Q:AQ):Nat->List Nat->Nat->Fr->aS->Prop
 |0,_=>B
 |n+1,p=>λ k fr H=>W P Γ nt kb (gV c (0::p)) (mW (WB P Γ nt kb c B Q n (1::p)) Q) k fr H
def aZC(c:Code):Nat->List Nat->Prop
 |0,_=>True
 |n+1,p=>gV c p= .seq (gV c (0::p)) (gV c (1::p))/\aZC c n (1::p)
def bAT:Nat->List Nat->List Nat
 |0,p=>p
 |n+1,p=>bAT n (1::p)
def tX{f:FuncId}{r:AVal}(h:∀k,Tr P Γ f k args [] (λ _ r1 H1=>Bor Γ H1 r1 r)):Pure P Γ f args r:=λ k A hA w G ρ cargs hr hvs=>by
 refine(h k A hA w G ρ cargs hr hvs).mono ?_;rintro e w' ⟨cv,G',ρ',k',r1,H1,rfl,hb,hk,hrel',hV,hst⟩;have hH:Holds H1 (bK H1 (kI A k k')) (kI A k k'):=λ id B h=>⟨_,by simp[bK,h],λ _ h=>h⟩;refine⟨cv,λ b=>G' b\/mK ρ' b,bX,k,r,[],rfl,⟨rfl,rfl,rfl⟩,aJ _,hrel'.fz,?_,?_⟩;.exact(hb w' G' ρ' _ _ cv hrel' hH hV).mono (λ b h=>h.imp id λ⟨id,B,s,_,h4⟩=>⟨id,s,h4⟩) (λ _ _=>rfl) (λ _ _=>rfl) (λ _ h=>h.elim) (λ _ h=>h.elim)
 exact⟨hst.size,hst.keep,hst.shape,λ b h=> .inl (hst.g b h),λ b h=>h.elim (hst.g' b) (λ h=> .inr (hst.own b h)),(λ b h=>by obtain⟨_,_,h⟩:=h;cases h),λ _ _=> .inl rfl,hst.os,hst.tape,hst.output⟩
end
section
variable{P:Program}{Γ:dW}{nt kb:Nat}{Q:AQ}{k:Nat}{fr:Fr}{H:aS}{c:Code}{p:List Nat}
def HRel.less{H:mP}{B:Nat}{cells:List AVal}(h:HRel ((B,cells)::Γ) w G ρ H)(hB:look Γ B=aC):HRel Γ w G ρ H:=
 ⟨h.dom,h.blk,h.inj,h.ro,λ g cs hg=>h.glob g cs (by
  simp only[look];split;.rename_i e;subst e;rw[hB]at hg;cases hg
  exact hg)⟩
def bDI(n:Nat)(hc:aZC c n p){Z:Type}(inv:Z->Prop)(tb id:Nat)(cells:List AVal)(frL:(Nat->Value)->Fr)(fr2:Z->Fr)(fr2L:Z->(Nat->Value)->Fr)
 (hb:look fr tb=aA (.ptr id 0 0)) (hid:(look H id).isSome=aB) (hbor:Bor Γ H (.ptr id 0 0) (.rp cells))
 (hL:∀φ t v',look (frL φ) t=aA v'->(∃v,look fr t=aA v/\Bor Γ H v v')\/v'= .lit (φ t))
 (h2L:∀z φ t v,look (fr2 z) t=aA v->∃v',look (fr2L z φ) t=aA v'/\((v'=v/\bBB v=aB)\/(v'= .lit (φ t)/\look fr t=aA v)))
 (h1:∀(φ:Nat->Value) (B x:Nat),φ tb= .pointer (aA ⟨B,0,aC⟩)->WB P ((B,cells++bI x .junk)::Γ) nt kb c (λ k' fr' H'=>∃z,inv z/\∃kx,Mv kb k' fr' H' kx (fr2L z φ) []) Q n p k (frL φ) [])
 (h2:∀z,inv z->W P Γ nt kb (gV c (bAT n p)) Q k (fr2 z) H):W P Γ nt kb (gV c p) Q k fr H:=by
 intro A0 hA0 hk w G ρ a hi;have hrel:=hi.rel;have hH:Holds H (bK H (kI A0 kb k)) (kI A0 kb k):=λ id B h=>⟨_,by simp[bK,h],λ _ h=>h⟩;obtain⟨φ,hφ⟩:∃φ:Nat->Value,∀t,φ t=a.tmps.getD t undef:=⟨_,λ _=>rfl⟩;have beh:∀b,G b\/RU H ρ b->G b\/mK ρ b:=λ b h=>h.imp (λ h=>h) λ⟨i,B,s,_,h4⟩=>⟨i,s,h4⟩;have hfz:HRel Γ w (λ b=>G b\/mK ρ b) bX (bK [] (kI A0 kb k)):=hrel.fz;obtain⟨BI,hBI⟩:=fU.1 hid;obtain⟨_,b,hρb,hGb,_⟩:=hrel.blk id BI (kI A0 kb k) (by simp[bK,hBI]);have hown:mK ρ b:=⟨id,_,hρb⟩;have hptr:=hi.frm tb _ hb;have hrp:=hbor w G ρ _ _ _ hrel hH hptr;rw[<-hφ]at hptr hrp
 obtain⟨hφb,C,ty,xx,hC⟩:φ tb= .pointer (aA ⟨b,0,aC⟩)/\∃C ty xx,w.heap[b]? =aA (.cells C ty xx):=by
  generalize φ tb=cv at hptr
  cases hptr with
  |dang _ hn=>rw[hρb]at hn;cases hn
  |ptr ha hρ hsh=>
   rw[hρb]at hρ;cases hρ;refine⟨sS,?_⟩;unfold World.shape? at hsh;split at hsh;.rename_i C e x hC;exact⟨C,e,x,hC⟩
   all_goals cases hsh
 rw[hφb]at hrp
 have hlen:∃x,cells.length+x=C.size/\V w (λ b=>G b\/mK ρ b) bX cQ (.rp (cells++bI x .junk)) (.pointer (aA ⟨b,0,aC⟩)):=by
  cases hrp with
  |rp g hg hcell hv=>
   have hle:cells.length<=C.size:=by
    rcases a7N cells.length with h0|h0;.omega
    have:=hcell (cells.length-1) _ (aN oO);unfold World.cell? at this;rw[hC]at this;simp only[sZ,bP,if_false]at this;have:=(dK.1 this).1;omega
   refine⟨C.size-cells.length,oO,.rp (λ j=>if j<cells.length then g j else C.getD j undef) (beh _ hg) (λ j v hj=>?_) (λ j v hj=>?_)⟩
   .by_cases hlt:j<cells.length;.rw[gN hlt]at hj;rw[iP hlt];exact hcell j v hj
    have hj2:j<C.size:=by have:=(aL.1 hj).1;simp only[bT,gP]at this;omega
    rw[iN hlt];unfold World.cell?;rw[hC];simp only[sZ,bP,if_false,eQ];rw[aW hj2,aM,aW hj2];rfl
   by_cases hlt:j<cells.length;.rw[gN hlt]at hj;rw[iP hlt];exact(hv j v hj).mono beh (λ _ _=>rfl) (λ _ _=>rfl) (λ _ h=>h) (λ _ h=>h.elim)
   rw[iY oO]at hj;have e:v= .junk:=by obtain⟨hlt2,e⟩:=aL.1 hj;simpa using e.symm
   subst e;exact .junk
 obtain⟨x,hx,hVx⟩:=hlen
 have hnk:look Γ b=aC:=by
  cases h:look Γ b with
  |none=>rfl
  |some cs=>exact absurd (hrel.glob b cs h).2.1 hGb
 have hfz2:HRel ((b,cells++bI x .junk)::Γ) w (λ b=>G b\/mK ρ b) bX (bK [] (kI A0 kb k)):=
  ⟨hfz.dom,hfz.blk,hfz.inj,hfz.ro,λ g cs hg=>by
   simp only[look]at hg;split at hg;.rename_i e;subst e;cases hg;exact⟨hVx,.inr hown,C,ty,xx,hC,by rw[bT,gP];omega⟩
   exact hfz.glob g cs hg⟩
 have hiB:Inv ((b,cells++bI x .junk)::Γ) nt w (λ b=>G b\/mK ρ b) bX (kI A0 kb k) a (frL φ) []:=⟨hfz2,hi.size,hi.defers,λ t v' hl=>by
  rcases hL φ t v' hl with⟨v,h1,h2⟩|rfl;.exact(h2 w G ρ _ _ _ hrel hH (hi.frm t v h1)).mono beh (λ _ _=>rfl) (λ _ _=>rfl) (λ _ h=>h.elim) (λ _ h=>h.elim)
  rw[hφ];exact .lit⟩
 obtain⟨Γ',hΓ'⟩:=xE ((b,cells++bI x .junk)::Γ);have h1:=h1 φ b x hφb;rw[<-hΓ']at h1 hiB;have less:∀ {w G ρ H},HRel Γ' w G ρ H->HRel Γ w G ρ H:=λ h=>by rw[hΓ']at h;exact h.less hnk
 have key:∀n p,aZC c n p->(∀z,inv z->W P Γ nt kb (gV c (bAT n p)) Q k (fr2 z) H)->∀k1 fr1 H1 w1 G1 ρ1 a1,kb<=k1->WB P Γ' nt kb c (λ k' fr' H'=>∃z,inv z/\∃kx,Mv kb k' fr' H' kx (fr2L z φ) []) Q n p k1 fr1 H1→
  Inv Γ' nt w1 G1 ρ1 (kI A0 kb k1) a1 fr1 H1->Step (lX kb) w (λ b=>G b\/mK ρ b) bX w1 G1 ρ1->(gV c p).wp P (Post Γ nt A0 kb w G ρ Q) a1 w1:=by
  intro n
  induction n with
  | zero=>
    intro p _ h2 k1 fr1 H1 w' G' ρ' a' hk' hQ hi' hst
    obtain⟨z,hz,kx,hmv⟩:=hQ
    obtain⟨hkx,hmv⟩:=hmv hk'
    obtain⟨G2,ρ2,hi2,hs2⟩:=hmv Γ' nt A0 w' G' ρ' a' hA0 hi'
    have hst2:=hst.trans hs2 (λ _ h=>h)
    have hkeep:∀b,b<w.heap.size->w'.heap[b]? =w.heap[b]? :=λ b hb=>hst2.keep b hb (λ⟨_,_,h⟩=>by cases h)
    have hstA:∀A:cF,Step A w G ρ w' (λ b=>G b\/(w.heap.size<=b/\G2 b)) ρ:=λ A=>
     ⟨hst2.size,λ b hb _=>hkeep b hb,hst2.shape,λ _ h=> .inl h,λ b h=>h.elim .inl (λ h=> .inr (.inr h.1)),λ _ h=> .inl h,λ _ _=> .inr rfl,hst2.os,hst2.tape,hst2.output⟩
    refine wp_mono (h2 z hz A0 hA0 hk w' _ ρ a' ⟨?_,hi2.size,hi2.defers,λ t v hv=>?_⟩) λ _ _ _ hp=>Post.trans (hstA _) hp
    · refine hrel.after (hstA (λ _=>True)) _ hrel.dom (λ id B A1 hid=>?_) hrel.inj (λ b hb=>hb.elim (λ h=>oW (hrel.ro b h) hst2.size) (λ h=>hi2.rel.ro b h.2))
      obtain⟨h1,b,h2,h3,_⟩:=hrel.blk id B A1 hid
      have hbl:=hrel.owned_lt ⟨id,_,h2⟩
      exact⟨h1,.inl ⟨A1,b,hid,λ _ h=>h,λ _ _=>trivial,rfl,h2,hkeep b hbl,λ h=>h.elim h3 (λ h=>oO)⟩⟩
    · obtain⟨v',hv',h|h⟩:=h2L z φ t v hv
      · obtain⟨rfl,hl⟩:=h
        exact aWB (hi2.frm t _ hv') hl
      · obtain⟨rfl,hf⟩:=h
        have e:=iB (hi2.frm t _ hv')
        rw[e,hφ]
        exact(hi.frm t v hf).mono (λ _ h=> .inl h) (λ b hb=>hkeep b (hrel.ro b hb)) hst2.shape (λ _ h=>h) (λ _ _=> .inr rfl)
  | succ n ih=>
    intro p hch h2 k1 fr1 H1 w1 G1 ρ1 a1 hk1 hQ hi1 hst1
    rw[hch.1]
    refine wp_seq (wp_mono (hQ A0 hA0 hk1 w1 G1 ρ1 a1 hi1) λ e a' w' hp=>?_)
    obtain⟨G',ρ',k',fr',H',hQ',hk',hi',hst⟩:=hp
    have hst':=hst1.trans hst (λ _ h=>h)
    have hil:Inv Γ nt w' G' ρ' (kI A0 kb k') a' fr' H':=⟨less hi'.rel,hi'.size,hi'.defers,hi'.frm⟩
    cases e with
    |normal=>exact ih (1::p) hch.2 h2 k' fr' H' w' G' ρ' a' hk' hQ' hi' hst'
    |exit id=>exact⟨G',ρ',k',fr',H',hQ',hk',hil,hst'.lent⟩
    |goto l=>exact⟨G',ρ',k',fr',H',hQ',hk',hil,hst'.lent⟩
    |ret=>exact⟨G',ρ',k',fr',H',hQ',hk',hil,hst'.lent⟩
    |panic ch=>exact⟨G',ρ',k',fr',H',hQ',hk',hil,hst'.lent⟩
    |outgrown=>exact⟨G',ρ',k',fr',H',hQ',hk',hil,hst'.lent⟩
 exact key n p hc h2 k (frL φ) [] w _ bX a hk h1 hiB (lF _ _ _ _)
end
section
variable{P:Program}{Γ:dW}{o:Oper}{ev:Operand->Option AVal}{get:Nat->Option Blk}{k:Nat}
def aHI{t B:Nat}{cells:List AVal}{out:Out}(ho:o.op= .load t x)(hx:ev x=aA (.lit (.pointer (aA ⟨B,0,aC⟩))))(hB:look Γ B=aA cells)(h:JG P get k t (aA (.rp cells))=aA out):Good P Γ o ev get k out:=by
 have hg:Good P Γ o (λ _=>aA (.rp cells)) get k out:=tV (by simp only[CH,ho];exact h);refine⟨λ w G ρ H A a hr hA hf hrd hop next Q hn=>hg.ok w G ρ H A a hr hA hf hrd (λ y hy v hv=>?_) next Q hn,hg.rds,hg.le⟩;cases hv;have e:y=x:=by simpa [ho,Op.operands]using hy
 subst e;have e:=iB (hop y hy _ hx);rw[e];exact(hr.glob B cells hB).1.mono (λ _ h=>h) (λ _ _=>rfl) (λ _ _=>rfl) (λ _ h=>h.elim) (λ _ h=>h.elim)
end
section
variable{P:Program}{Γ:dW}{nt kb:Nat}{Q:AQ}{k:Nat}{fr:Fr}{H:aS}{c:Code}{p:List Nat}
def Bor.agg {Hc:aS}{cs cs':List AVal}(hl:cs.length=cs'.length)(h:∀(j:Nat) v v',cs[j]? =aA v->cs'[j]? =aA v'->Bor Γ Hc v v'):Bor Γ Hc (.agg cs) (.agg cs'):=λ w G ρ H A cv hr hh hv=>by
 cases hv with
 |agg h1 h2=>
  refine .agg oO λ j u hj=>?_;have hlt:j<cs.length:=by have:=(aL.1 hj).1;omega
  exact h j _ u (aN hlt) hj w G ρ H A _ hr hh (h2 j _ (aN hlt))
def Bor.tup {Hc:aS}{cs cs':List AVal}(hl:cs.length=cs'.length)(h:∀(j:Nat) v v',cs[j]? =aA v->cs'[j]? =aA v'->Bor Γ Hc v v'):Bor Γ Hc (.tup cs) (.tup cs'):=λ w G ρ H A cv hr hh hv=>by
 cases hv with
 |tup h1 h2=>
  refine .tup oO λ j u hj=>?_;have hlt:j<cs.length:=by have:=(aL.1 hj).1;omega
  exact h j _ u (aN hlt) hj w G ρ H A _ hr hh (h2 j _ (aN hlt))
def bDM {fr1:Fr}(h:∀Γ t v',look fr1 t=aA v'->∃v,look fr t=aA v/\Bor Γ H v v'):Mv kb k fr H k fr1 []:=λ hk=>⟨hk,λ Γ nt A0 w G ρ a hA hi=>by have hH:Holds H (bK H (kI A0 kb k)) (kI A0 kb k):=λ id B h=>⟨_,by simp[bK,h],λ _ h=>h⟩;refine⟨λ b=>G b\/mK ρ b,bX,⟨hi.rel.fz,hi.size,hi.defers,λ t v' hl=>?_⟩,⟨aJ _,λ _ _ _=>rfl,λ _ _=>rfl,λ _ h=> .inl h,λ b h=>h.elim .inl (λ h=> .inr (.inl h)),(λ b h=>by obtain⟨_,_,h⟩:=h;cases h),λ _ _=> .inl rfl,rfl,rfl,rfl⟩⟩;obtain⟨v,h1,h2⟩:=h Γ t v' hl;exact(h2 w G ρ _ _ _ hi.rel hH (hi.frm t v h1)).mono (λ b h=>h.imp id λ⟨id,B,s,_,h4⟩=>⟨id,s,h4⟩) (λ _ _=>rfl) (λ _ _=>rfl) (λ _ h=>h.elim) (λ _ h=>h.elim)⟩
def bJB{n:Nat}(h:W P Γ nt kb (gV c (0::p)) (mW (WB P Γ nt kb c B Q n (1::p)) Q) k fr H):WB P Γ nt kb c B Q (n+1) p k fr H:=h
def bJC(h:B k fr H):WB P Γ nt kb c B Q 0 p k fr H:=h
end
end Go.AM
end
