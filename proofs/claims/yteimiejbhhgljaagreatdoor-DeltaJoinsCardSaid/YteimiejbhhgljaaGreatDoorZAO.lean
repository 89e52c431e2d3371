import Derived.Test.YteimiejbhhgljaaGreatDoorZAN
import Derived.Shelf.SortG.Plain
import Derived.Shelf.SortG.SortNone
import Derived.Ground.SlgnProg
import Derived.Test.YteimiejbhhgljaaGreatDoorProg
import Derived.Lib.ItoaNum
import Derived.Lib.ItoaMem
import Derived.Lib.AtoiAll
import Derived.Lib.Split
import Derived.Shelf.Strconv.Itoa3
import Derived.Shelf.Strconv.AtoiAll
import Derived.Shelf.Strings.Split
import Derived.Lib.ParseIntBCases
import Derived.Test.YteimiejbhhgljaaGreatDoorRows
set_option linter.unusedVariables false
set_option linter.unusedSimpArgs false
set_option maxHeartbeats 0
set_option maxRecDepth 100000
open Array renaming ext->aIG,ext'->bGD,getD_eq_getD_getElem?->aI,getElem?_append_left->fV,getElem?_eq_getElem->aQ,getElem?_eq_none->iD,getElem?_eq_some_iff->dA,getElem?_modify->SE,getElem?_toList->bF
open Bool renaming and_eq_true->aH,and_false->KV,and_true->iC,eq_false_iff->gB,eq_iff_iff->bH,false->aE,false_eq_true->aS,false_or->AE,not_eq_true->bNZ,not_eq_true'->bD,or_eq_true->bL,true->aB,true_and->lG
open Int renaming le_refl->bR,toNat_natCast->bP,toNat_of_nonneg->gA
open List renaming Perm->gQ,all_cons->fU,all_eq_true->aW,all_nil->AA,append_nil->cZ,cons_append->aV,ext_getElem?->dZ,filter_append->MV,filter_congr->bGB,getD->oH,getD_eq_getElem?_getD->aR,getElem?_cons_zero->lF,getElem?_eq_getElem->aJ,getElem?_eq_none->aX,getElem?_eq_some_iff->aK,getElem?_map->aP,getElem?_set->dD,getElem?_set_ne->bOV,getElem?_set_self->fW,getElem?_toArray->cJ,getElem_mem->JR,length_append->bM,length_filter_le->bKU,length_map->cX,map->rS,map_append->aM,map_cons->bI,map_map->jM,map_nil->bQ,mem_append->dC,mem_cons_of_mem->dM,mem_filter->lW,mem_map->dB,mem_of_getElem?->iG,nodup_cons->a5A,range->aN,size_toArray->fZ
open Nat renaming add_assoc->gD,add_comm->bKT,add_sub_cancel->a4V,add_sub_cancel_left->lE,add_zero->jL,beq->sP,eq_of_beq_eq_true->cH,le_of_ble_eq_true->qY,le_refl->aF,mul_one->HW,not_lt_zero->bO,sub_self->RX,sub_zero->iV,zero_add->fH,zero_le->aZ,zero_mul->qW
open Option renaming bind_eq_some_iff->cE,map_eq_none_iff->dO,map_eq_some_iff->aG,map_some->bU,none->aC,some->aA
open Go.Result renaming andThen_ok->bG
open Go.Sem renaming run_bind->bN,run_pure->dE
open Go.Proofs.Tryz renaming f21->aLR,isAgg189->HU,isAgg3->RU,isAgg4->aPV,isAgg5->aPU,isAgg50->RT,isAgg9->aPT,prog->aD,sizeOf0->bKO,sizeOf189->AU,sizeOf3->FN,sizeOf4->RS,sizeOf5->RR,sizeOf50->HT,sizeOf9->RQ,underlying0->JN,underlying189->nZ,underlying22->YC,underlying3->jT,underlying4->mB,underlying5->dH,underlying50->lD,underlying9->jC,zeroValue0->RP,zeroValue189->pT,zeroValue22->aLQ,zeroValue3->qV,zeroValue4->wA,zeroValue5->vZ,zeroValue50->sO,zeroValue9->vY
open Go.Value renaming int->bA
section
namespace Go.Proofs.T
open Go Go.AM Go.Proofs
variable{Γ:dL}
attribute [local irreducible] jE del
def jP(n:Nat)(f:Nat->Int):List (List AVal):=(aN n).map λ i=>[.lit (.int .i64 (f i))]
theorem rD(n:Nat)(f:Nat->Int):(jP n f).length=n:=by simp[jP]
theorem xI{n i:Nat}{f:Nat->Int}(h:i<n):(jP n f)[i]? =aA [.lit (.int .i64 (f i))]:=by simp[jP,h]
theorem aMX{n i:Nat}{f:Nat->Int}{v:Int}:(jP n f).set i [.lit (.int .i64 v)]=jP n (yM f i v):=dZ λ j=>by
 rw[dD];by_cases hj:j<n
 .by_cases e:i=j;.subst e;rw[iP rfl,rD,iP hj,xI hj];simp[yM]
  rw[iN e,xI hj,xI hj];simp[yM,Ne.symm e]
 rw[aX (l:=jP n (yM f i v)) (by rw[rD];omega)];split;.rw[rD,iN oO]
 exact aX (by rw[rD];omega)
theorem SX(N:Nat)(f:Nat->Int)(l:List (Int×Int))(x:Int×Int):yN N f (l++[x])=if 0<=x.1/\x.1<N then yM (yN N f l) x.1.toNat x.2 else yN N f l:=by
 unfold yN;rw[MV];by_cases h:0<=x.1/\x.1<N;.rw[iP h,show List.filter (λ x:Int×Int=>decide (0<=x.1/\x.1<N)) [x]=[x]by simp[h],YW,aM];exact aNG _ _ _
 rw[iN h,show List.filter (λ x:Int×Int=>decide (0<=x.1/\x.1<N)) [x]=[]by simpa using h,cZ]
def pre{α:Type}(v:Nat->α)(i:Nat):List α:=(aN i).map v
theorem OA{α:Type}(v:Nat->α)(i:Nat):pre v (i+1)=pre v i++[v i]:=by simp[pre,List.range_succ]
theorem a5P(n:Nat)(f:Nat->Int)(nv:Nat)(v:Nat->Int×Int)(hn:n<=100000)(hv:nv<=100000)(k id:Nat)(hid:id<k):
 AM.Tr aD Γ 62 k [.sl id 0 n,.rd 2 nv (λ i=>[.lit (.int .i64 (v i).1),.lit (.int .i64 (v i).2)])] [(id,⟨1,aB,jP n f⟩)]
  (λ k1 r1 H1=>k1=k/\r1= .tup []/\H1=[(id,⟨1,aB,jP n (yN n f (pre v nv))⟩)]):=by
 have i0:¬id=k:=oO;have i4:∀q,id<k+q:=λ q=>oO;have i1:∀q,¬id=k+q:=λ q=>oO;have i2:¬k=id:=oO;have i3:∀q,¬k+q=id:=λ q=>oO;refine cN Tryz.func62 rfl 29 rfl bB ?_;have kp:Kp [0,1,5,6,7,8,9,21] (λ i=>if k<=i then i-k+1 else 0):=jZ;have uU:=rA hid i0 i1 i2 i3 i4;refine fC ?_;refine cA ?_;refine bY (X:=Nat) rfl [0,1,5,6,7,8,9,21] k (λ i=>[(8,i)]) (λ i=>[(id,⟨1,aB,jP n (yN n f (pre v i))⟩)]) (λ i=>i<=nv) (λ i=>nv-i) 0 ?_ (aZ _) ?_;.rw[show yN n f (pre v 0)=f from rfl];refine fJ ?_;apply zN;exact gM
 intro i hi;obtain⟨F,eF⟩:∃F,F=yN n f (pre v i):=⟨_,rfl⟩;have hnx:yN n f (pre v (i+1))=if 0<=(v i).1/\(v i).1<n then yM F (v i).1.toNat (v i).2 else F:=by rw[OA,SX,<-eF]
 rw[<-eF];by_cases hlt:i<nv
 .obtain⟨x,ex⟩:∃x,x=(v i).1:=⟨_,rfl⟩;obtain⟨y,ey⟩:∃y,y=(v i).2:=⟨_,rfl⟩;rw[<-ex,<-ey]at hnx;have hl:=rD n F;by_cases h0:0<=x
  .by_cases h1:x<n;.rw[iP ⟨h0,h1⟩]at hnx;have g1:=xI (n:=n) (f:=F) (i:=x.toNat) oO;have gs:=aMX (n:=n) (f:=F) (i:=x.toNat) (v:=y);obtain⟨R,eR⟩:∃R,R=jP n F:=⟨_,rfl⟩;rw[<-eR]at hl g1 gs;rw[<-eR];have b1:x.toNat<n:=oO;have ex':=ex.symm;have ey':=ey.symm;have uU:=fP hid i0 i1 i2 i3 i4 hl g1 (ID h0 h1 b1 ex' ey');refine fJ ?_;apply zN;refine fC ?_;refine oU ⟨λ ht ht=>zN ?_⟩;refine⟨i+1,oO,oO,?_⟩;rw[hnx,<-gs,(oO:((i+1:Nat):Int)=(i:Int)+1)];exact gM
   rw[iN (λ h=>h1 h.2)]at hnx;have ex':=ex.symm;have ey':=ey.symm;have uU:=fP hid i0 i1 i2 i3 i4 hl h0 (tZ h1 ex' ey');refine fJ ?_;apply zN;refine fC ?_;refine oU ⟨λ ht ht=>zN ?_⟩;refine⟨i+1,oO,oO,?_⟩;rw[hnx,(oO:((i+1:Nat):Int)=(i:Int)+1)];exact gM
  rw[iN (λ h=>h0 h.1)]at hnx;have ex':=ex.symm;have ey':=ey.symm;have uU:=fP hid i0 i1 i2 i3 i4 hl h0 (zA ex' ey');refine fJ ?_;apply zN;refine fC ?_;refine oU ⟨λ ht ht=>zN ?_⟩;refine⟨i+1,oO,oO,?_⟩;rw[hnx,(oO:((i+1:Nat):Int)=(i:Int)+1)];exact gM
 have hin:i=nv:=oO;subst hin;refine fJ ?_;apply zN;refine fC ?_;refine dI λ ht=>?_;refine⟨_,rfl,rfl,?_⟩;rw[eF]
end Go.Proofs.T
end
section
namespace Go.Proofs
open Go.Shelf
def Tryz.sortI_ren:Go.Shelf.Ren:=⟨λ |53=>58|64=>119|63=>118|78=>206|79=>207|70=>197|71=>198|72=>199|73=>200|74=>201|75=>202|59=>203|76=>204|77=>205|88=>248|89=>249|90=>250|91=>251|92=>252|68=>212|96=>284|n=>n,λ |22=>26|23=>3|3=>3|51=>189|0=>0|67=>50|69=>22|4=>4|61=>261|60=>260|44=>204|5=>5|9=>9|75=>300|79=>303|83=>326|84=>285|n=>n,λ |n=>n⟩
theorem Tryz.sortI:Go.Proofs.SlLaysN.n53 aD Tryz.sortI_ren:={
 mixed:=by kernel_rfl
 f53:=⟨Tryz.f58.name,by decide,Tryz.func58.trans AM.iA⟩
 f59:=⟨Tryz.f203.name,by decide,Tryz.func203.trans AM.iA⟩
 f63:=⟨Tryz.f118.name,by decide,Tryz.func118.trans AM.iA⟩
 f64:=Tryz.func119.trans AM.iA
 f68:=⟨Tryz.f212.name,by decide,Tryz.func212.trans AM.iA⟩
 f70:=⟨Tryz.f197.name,by decide,Tryz.func197.trans AM.iA⟩
 f71:=⟨Tryz.f198.name,by decide,Tryz.func198.trans AM.iA⟩
 f72:=⟨Tryz.f199.name,by decide,Tryz.func199.trans AM.iA⟩
 f73:=⟨Tryz.f200.name,by decide,Tryz.func200.trans AM.iA⟩
 f74:=⟨Tryz.f201.name,by decide,Tryz.func201.trans AM.iA⟩
 f75:=⟨Tryz.f202.name,by decide,Tryz.func202.trans AM.iA⟩
 f76:=⟨Tryz.f204.name,by decide,Tryz.func204.trans AM.iA⟩
 f77:=⟨Tryz.f205.name,by decide,Tryz.func205.trans AM.iA⟩
 f78:=Tryz.func206.trans AM.iA
 f79:=Tryz.func207.trans AM.iA
 f88:=⟨Tryz.f248.name,by decide,Tryz.func248.trans AM.iA⟩
 f89:=Tryz.func249.trans AM.iA
 f90:=Tryz.func250.trans AM.iA
 f91:=⟨Tryz.f251.name,by decide,Tryz.func251.trans AM.iA⟩
 f92:=⟨Tryz.f252.name,by decide,Tryz.func252.trans AM.iA⟩
 f96:=⟨Tryz.f284.name,by decide,Tryz.func284.trans AM.iA⟩
 t0:=JN
 a0:=Tryz.isAgg0
 z0:=bKO
 v0:=RP
 t3:=jT
 a3:=RU
 z3:=FN
 v3:=qV
 t4:=mB
 a4:=aPV
 z4:=RS
 v4:=wA
 t5:=dH
 a5:=aPU
 z5:=RR
 v5:=vZ
 t9:=jC
 a9:=aPT
 z9:=RQ
 v9:=vY
 t22:=Tryz.underlying26
 a22:=Tryz.isAgg26
 z22:=Tryz.sizeOf26
 v22:=Tryz.zeroValue26
 t23:=jT
 a23:=RU
 z23:=FN
 v23:=qV
 t44:=Tryz.underlying204
 a44:=Tryz.isAgg204
 z44:=Tryz.sizeOf204
 v44:=Tryz.zeroValue204
 t51:=nZ
 a51:=HU
 z51:=AU
 v51:=pT
 t60:=Tryz.underlying260
 a60:=Tryz.isAgg260
 z60:=Tryz.sizeOf260
 v60:=Tryz.zeroValue260
 t61:=Tryz.underlying261
 a61:=Tryz.isAgg261
 z61:=Tryz.sizeOf261
 v61:=Tryz.zeroValue261
 t67:=lD
 a67:=RT
 z67:=HT
 v67:=sO
 t69:=YC
 a69:=Tryz.isAgg22
 z69:=Tryz.sizeOf22
 v69:=aLQ
 t75:=Tryz.underlying300
 a75:=Tryz.isAgg300
 z75:=Tryz.sizeOf300
 v75:=Tryz.zeroValue300
 t79:=Tryz.underlying303
 a79:=Tryz.isAgg303
 z79:=Tryz.sizeOf303
 v79:=Tryz.zeroValue303
 t83:=Tryz.underlying326
 a83:=Tryz.isAgg326
 z83:=Tryz.sizeOf326
 v83:=Tryz.zeroValue326
 t84:=Tryz.underlying285
 a84:=Tryz.isAgg285
 z84:=Tryz.sizeOf285
 v84:=Tryz.zeroValue285}
end Go.Proofs
end
section
namespace Go.Proofs.T
open Go Go.AM Go.Proofs Go.Shelf Go.RowKit Go.Lib Go.Sort
variable{Γ:dL}
theorem VW{α:Type} [Inhabited α]{enc:α->Value}{w:World}{b:Nat}{C:Array Value}{ty:TypeId}(n:Nat)(F:Array α)(hC:w.heap[b]? =aA (Obj.cells C ty (0,0))):
 (putRow enc (Sort.ahead w n) b 0 F).heap[b]? =aA (.cells (putCells enc 0 F C) ty (0,0))/\(∀j,j≠b->(putRow enc (Sort.ahead w n) b 0 F).heap[j]? =w.heap[j]?)/\(putRow enc (Sort.ahead w n) b 0 F).heap.size=w.heap.size:=by
 refine⟨?_,λ j hj=>?_,?_⟩;.simp only[putRow,mapBlock,Sort.ahead,SE,if_true];rw[hC];rfl
 .simp only[putRow,mapBlock,Sort.ahead,SE];rw[iN (λ h=>hj h.symm)]
 simp[putRow,mapBlock,Sort.ahead]
theorem QZ{α:Type} [Inhabited α]{enc:α->Value}(F:Array α)(C:Array Value)(j:Nat)(hj:j<F.size)(hC:j<C.size):(putCells enc 0 F C)[j]? =aA (enc F[j]!):=by simp only[putCells,Array.getElem?_mapIdx,aQ hC,bU,aZ,fH,hj,and_self,if_true,iV]
theorem aTJ(l R:List Int)(hp:R.Perm l)(hs:R.Pairwise (λ x y=>x<=y)):(l.mergeSort λ x y=>decide (x<=y))=R:=by refine gQ.eq_of_pairwise (le:=λ x y:Int=>x<=y) (λ a b _ _ h1 h2=>oO) ?_ hs ((List.mergeSort_perm l _).trans hp.symm);have:=List.pairwise_mergeSort (le:=λ x y:Int=>decide (x<=y)) (λ a b c h1 h2=>by simp only[dTt]at*;omega) (λ a b=>by simp only[bL,dTt];omega) l;simpa only[dTt]using this
theorem a0A(k F:Nat)(l R:List Int)(hp:R.Perm l)(hs:R.Pairwise (λ x y=>x<=y))(hl:l.length<=100000):
 Tr aD Γ 58 k [dG F (l.map nR)] (cL F 1 (l.map nR) []) (λ k1 r1 H1=>k1=k/\r1= .tup []/\H1=cL F 1 (R.map nR) []):=by
 intro A hA w G ρ cargs hr hvs;obtain⟨hlen,hv⟩:=hvs;have h0:=hv 0 _ rfl
 have hc2:cargs= #[cargs.getD 0 undef]:=by
  have hsz:cargs.size=1:=hlen.symm;apply aIG;.simp[hsz]
  intro i hi1 hi2
  match i with
  |0=>simp[Array.getD,hsz]
  |i+1=>omega
 cases l with
 |nil=>
  have hR:R=[]:=hp.eq_nil;subst hR;have e0:cargs.getD 0 undef= .slice aC 0 0:=by generalize cargs.getD 0 undef=x at h0;cases h0;rfl
  rw[hc2,e0];have hnone:Calls aD 58 #[.slice aC 0 0] w λ e w'=>e= .returned (.tuple #[])/\w'=w:=AnyG.slices_Sort_int_none Tryz.sortI aC 0 w;refine hnone.mono ?_;rintro e w' ⟨rfl,rfl⟩;refine⟨.tuple #[],G,ρ,k,.tup [],[],rfl,⟨rfl,rfl,rfl⟩,aF _,?_,.tup rfl (λ j v hj=>by simp at hj),kQ _ _ _ _⟩;exact⟨λ id _=>hr.dom id rfl,λ id B A' hid=>by simp[bK,AM.look]at hid,hr.inj,hr.ro,hr.glob⟩
 |cons x t=>
  obtain⟨l,el⟩:∃l,l=x::t:=⟨_,rfl⟩;have hne:l.length≠0:=by rw[el];simp
  have eV:dG F ((x::t).map nR)= .sl F 0 l.length:=by rw[el];simp[dG]
  have eH:∀q:List Int,q.length≠0->cL F 1 (q.map nR) []=[(F,⟨1,aB,q.map nR⟩)]:=λ q hq=>by
   cases q with
   |nil=>simp at hq
   |cons a b=>rfl
  rw[eV]at h0;rw[<-el,eH l hne]at hr;rw[<-el]at hp hl;clear eV;have hRne:R.length≠0:=by rw[hp.length_eq];exact hne
  rw[eH R hRne];have hid:bK [(F,⟨1,aB,l.map nR⟩)] A F=aA (⟨1,aB,l.map nR⟩,A):=by simp[bK,AM.look]
  obtain⟨hAF,b,hρ,hgb,hBRF⟩:=hr.blk F _ _ hid;simp only at hρ
  obtain⟨cap,e0,sh,hsh⟩:∃cap,cargs.getD 0 undef= .slice (aA ⟨b,0,aC⟩) l.length cap/\∃sh,w.shape? b=aA sh:=by
   generalize cargs.getD 0 undef=x at h0;generalize hll:l.length=ll at h0⊢
   cases h0 with
   |dangs _ hn=>rw[hρ]at hn;cases hn
   |sl0=>exact absurd hll hne
   |sl _ hs hsh _ hnc _ ho=>
    rw[hρ]at hs;cases hs;rcases ho with ho|ho;.omega
    rw[ho,qW];exact⟨_,rfl,_,hsh⟩
  obtain⟨⟨C,ty,hC,hrow⟩,hrl⟩:=hBRF.old hsh;simp only[if_true]at hrow;have hblt:b<w.heap.size:=hr.owned_lt ⟨F,1,hρ⟩;have hget:∀(q:List Int) j,j<q.length->(q.map nR)[j]? =aA [.lit (.int .i64 q[j]!)]:=λ q j hj=>by rw[aP,aJ hj,getElem!_pos q j hj];rfl
  have hH:Holds (bA .i64) w b 0 l.toArray:=by
   intro j hj;have hj':j<l.length:=by simpa using hj
   obtain⟨cv,h3,h4⟩:=hrow j _ 0 _ (hget l j hj') rfl;cases h4;refine⟨?_,?_⟩;.unfold World.cell?;simp only[hC];rw[HW,jL]at h3;simp[h3,hj']
   unfold World.frozen?;simp[hC]
  have hcon:=AnyG.slices_Sort_int Tryz.sortI b 0 cap l w hH hblt oO;change Calls aD 58 _ _ _ at hcon;rw[aTJ l R hp hs]at hcon;rw[hc2,e0];refine hcon.mono ?_;rintro e w' ⟨rfl,n,os,rfl⟩;obtain⟨p1,p2,p3⟩:=VW (enc:=bA .i64) n R.toArray hC
  have hrows:∀r row c v,(R.map nR)[r]? =aA row->row[c]? =aA v->∃cv,(putCells (bA .i64) 0 R.toArray C)[r*1+c]? =aA cv/\V w G bS cI v cv:=by
   intro r row c v hrw hcv
   have hrlt:r<R.length:=by
    by_cases h:r<R.length;.exact h
    rw[aX (by simp;omega)]at hrw;cases hrw
   rw[hget R r hrlt]at hrw;cases hrw
   match c with
   | 0=>
     simp only[lF,aA.injEq]at hcv
     subst hcv
     have hll:r<l.length:=by rw[<-hp.length_eq];exact hrlt
     have hCs:r<C.size:=by
      obtain⟨cv,hcv1,_⟩:=hrow r _ 0 _ (hget l r hll) rfl;by_cases h:r<C.size;.exact h
      rw[iD oO]at hcv1;cases hcv1
     refine⟨.int .i64 R[r]!,?_,.lit⟩
     rw[HW,jL,QZ _ _ _ (by simpa using hrlt) hCs]
     simp
   |c+1=>simp at hcv
  have hHF:∀i,bK [(F,(⟨1,aB,R.map nR⟩:Blk))] A i=if i=F then aA ((⟨1,aB,R.map nR⟩:Blk),A)else bK [(F,(⟨1,aB,l.map nR⟩:Blk))] A i:=λ i=>by
   by_cases h:i=F;.subst h;simp[bK,AM.look]
   have h':¬F=i:=λ e=>h e.symm;rw[iN h];simp[bK,AM.look,h']
  obtain⟨q1,q2⟩:=HRel.rows (S:=lC k) (H':=bK [(F,⟨1,aB,R.map nR⟩)] A) (B':=⟨1,aB,R.map nR⟩) hr hid hρ rfl hHF hC p1 (by simp[putCells]) p2 p3 rfl rfl rfl
   (λ i B A' hi j hj=>by
     have:A'=A:=by simp only[bK,AM.look]at hi;split at hi<;>simp at hi;exact hi.2.symm
     subst this;exact hA j hj)
   (λ r row hrw=>by
     rw[aP]at hrw
     cases hR:R[r]? with
     |none=>rw[hR]at hrw;cases hrw
     |some f=>rw[hR]at hrw;cases hrw;rfl)
   hrows rfl
  refine⟨.tuple #[],G,ρ,k,.tup [],[(F,⟨1,aB,R.map nR⟩)],rfl,⟨rfl,rfl,rfl⟩,aF _,?_,.tup rfl (λ j v hj=>by simp at hj),?_⟩
  .refine(q1.grow os).allow _ ?_ ?_;.intro i hi;simp only[bK,dO]at hi⊢;exact hi
   intro i B A' hi;simp only[bK]at hi⊢
   cases hlk:AM.look [(F,(⟨1,aB,R.map nR⟩:Blk))] i with
   |none=>rw[hlk]at hi;cases hi
   |some B1=>rw[hlk]at hi;cases hi;exact⟨A,rfl,λ i hi=> .inl hi⟩
  exact q2.trans (IK (lC k) os) (λ _ h=>h)
end Go.Proofs.T
end
section
namespace Go.AM
open Go
structure Xt where
 op:Oper->(Operand->Option AVal)->(Nat->Option Blk)->Nat->Option Out
 nx:Oper->(Operand->Option AVal)->(Nat->Option Blk)->Nat->Option Out
 tab:FuncId->Nat->List AVal->aO->Option (Nat×AVal×aO)
structure XtOk (P:Program) (Γ:dL) (x:Xt):Prop where
 op:∀o ev get k out,x.op o ev get k=aA out->Good P Γ o ev get k out
 nx:∀o ev get k out,x.nx o ev get k=aA out->∃rds,GoodN P Γ o ev get k rds (λ out'=>out'=out)
 tab:∀f k args H k' v H',x.tab f k args H=aA (k',v,H')->Tr P Γ f k args H (λ k1 r1 H1=>k1=k'/\r1=v/\H1=H')
def EY(x:Xt)(e:Ev)(P:Program)(Γ:dL)(all:Array Oper):List Oper->Nat->Fr->aO->Option (List Foot×Nat×Fr×aO)
 |[],k,fr,H=>aA ([],k,fr,H)
 | o::r,k,fr,H=>match mO all fr o with
   |none=>aC
   | some aE=>match EY x e P Γ all r k (jE fr o.dst (.lit undef)) H with
     |none=>aC
     |some (tr,y)=>aA (⟨[],[],k,k⟩::tr,y)
   | some aB=>match(match uZ o with|true=>XC e P o (kV Γ fr) H k|false=>match x.op o (kV Γ fr) (look H) k with|some out=>aA out|none=>AT P Γ o (kV Γ fr) (look H) k)with
     |none=>aC
     | some out=>match EY x e P Γ all r out.k (jE fr o.dst out.v) (lK H out.upd)with
       |none=>aC
       |some (tr,y)=>aA (⟨out.rds,out.upd.map (·.1),k,out.k⟩::tr,y)
def a8B(x:Xt)(Γ:dL)(ops:Array Oper)(d:Bool)(k:Nat)(fr:Fr)(H:aO):Option (Oper×List Oper×Out):=
 match d,ops.toList with
 | false,o::r=>match o.guard,x.nx o (kV Γ fr) (look H) k with
   |none,aA out=>aA (o,r,out)
   |_,_=>aC
 |_,_=>aC
def fI(x:Xt)(e:Ev)(P:Program)(Γ:dL)(nt:Nat):Code->Nat->Fr->aO->Option (Exit×Nat×Fr×aO)
 | .skip,k,fr,H=>aA (.normal,k,fr,H)
 | .ret,k,fr,H=>aA (.ret,k,fr,H)
 | .exit id,k,fr,H=>aA (.exit id,k,fr,H)
 | .seq a b,k,fr,H=>match fI x e P Γ nt a k fr H with
   |some (.normal,k1,fr1,H1)=>fI x e P Γ nt b k1 fr1 H1
   |r=>r
 | .cond c a b,k,fr,H=>match kV Γ fr c with
   |some (.lit (.bool aB))=>fI x e P Γ nt a k fr H
   |some (.lit (.bool aE))=>fI x e P Γ nt b k fr H
   |_=>aC
 | .block id c,k,fr,H=>match fI x e P Γ nt c k fr H with
   | some (.exit id',k1,fr1,H1)=>match sP id' id with
     |true=>aA (.normal,k1,fr1,H1)
     |false=>aA (.exit id',k1,fr1,H1)
   |r=>r
 | .loop c,k,fr,H=>match fI x e P Γ nt c k fr H with
   |some (.normal,k1,fr1,H1)=>e.loop nt c k1 fr1 H1
   |r=>r
 | .region _ ops d,k,fr,H=>match mQ nt ops with
   |false=>aC
   | true=>match a8B x Γ ops d k fr H with
     | some (o,r,out)=>match EY x e P Γ ops r k (jE fr o.dst out.v) (lK H out.upd)with
       |none=>aC
       |some (_,k1,fr1,H1)=>aA (.normal,k1,fr1,H1)
     | none=>match EY x e P Γ ops ops.toList k fr H with
       |none=>aC
       | some (tr,k1,fr1,H1)=>match(!d)||(P.follows .mixedOrders&&kP ops tr)with
         |true=>aA (.normal,k1,fr1,H1)
         |false=>aC
 |_,_,_,_=>aC
def XB(x:Xt)(e:Ev)(P:Program)(Γ:dL)(f:FuncId)(k:Nat)(args:List AVal)(H:aO):Option (Nat×AVal×aO):=
 match x.tab f k args H with
 |some r=>aA r
 | none=>match P.funcs[f]? with
   |none=>aC
   | some fn=>match fn.body with
     |none=>aC
     | some c=>match Nat.ble args.length fn.ntmps with
       |false=>aC
       | true=>match fI x e P Γ fn.ntmps c k (vS 0 args) H with
         | some (.normal,k1,fr1,H1)=>match KZ P fn fr1 H1 with
           |some r=>aA (k1,r,vX (pO H1 100000 (nm2 r++aAL k H1) []) H1)
           |none=>aC
         | some (.ret,k1,fr1,H1)=>match KZ P fn fr1 H1 with
           |some r=>aA (k1,r,vX (pO H1 100000 (nm2 r++aAL k H1) []) H1)
           |none=>aC
         |_=>aC
def XA(x:Xt)(e:Ev)(P:Program)(Γ:dL)(nt:Nat)(c:Code)(k:Nat)(fr:Fr)(H:aO):Option (Exit×Nat×Fr×aO):=
 match fI x e P Γ nt c k fr H with
 |some (.normal,k1,fr1,H1)=>e.loop nt c k1 fr1 H1
 |r=>r
def UE(x:Xt)(P:Program)(Γ:dL):Nat->Ev
 |0=>⟨λ _ _ _ _=>aC,λ _ _ _ _ _=>aC⟩
 |n+1=>⟨λ f k args H=>XB x (UE x P Γ n) P Γ f k args H,λ nt c k fr H=>XA x (UE x P Γ n) P Γ nt c k fr H⟩
section
variable{P:Program}{Γ:dL}{nt kb:Nat}{k:Nat}{fr:Fr}{H:aO}{e:Ev}{x:Xt}
theorem EX(hx:XtOk P Γ x)(he:EvOk P Γ e){all:Array Oper}:∀(l:List Oper) (k:Nat) (fr:Fr) (H:aO) (tr:List Foot) (k':Nat) (fr':Fr) (H':aO) (K:List Foot->Nat->Fr->aO->Prop),EY x e P Γ all l k fr H=aA (tr,k',fr',H')->K tr k' fr' H'->Run P Γ all l k fr H K:=by
 intro l
 induction l with
 |nil=>intro k fr H tr k' fr' H' K h hK;simp only[EY]at h;cases h;exact hK
 |cons o r ih=>
  intro k fr H tr k' fr' H' K h hK;simp only[EY]at h;split at h;.cases h
  .rename_i hg;split at h;.cases h
   rename_i tr1 y hy;obtain⟨k1,fr1,H1⟩:=y;cases h;exact .inl ⟨hg,ih _ _ _ _ _ _ _ _ hy hK⟩
  rename_i hg;split at h;.cases h
  rename_i out ho;split at h;.cases h
  rename_i tr1 y hy;obtain⟨k1,fr1,H1⟩:=y;cases h;refine .inr ⟨hg,out,?_,ih _ _ _ _ _ _ _ _ hy hK⟩;split at ho;.exact KI he ho
  split at ho;.rename_i ho';cases ho;exact hx.op _ _ _ _ _ ho'
  exact sM ho
theorem aNM{ops:Array Oper}{d:Bool}{o:Oper}{r:List Oper}{out:Out}(h:a8B x Γ ops d k fr H=aA (o,r,out)):d=aE/\ops.toList=o::r/\o.guard=aC/\x.nx o (kV Γ fr) (look H) k=aA out:=by
 unfold a8B at h;split at h
 .rename_i o' r' hl;split at h;.rename_i h1 h2;cases h;exact⟨rfl,hl,h1,h2⟩
  cases h
 cases h
theorem zD(hX:XtOk P Γ x)(he:EvOk P Γ e):∀(c:Code) (k:Nat) (fr:Fr) (H:aO) (ex:Exit) (k':Nat) (fr':Fr) (H':aO),fI x e P Γ nt c k fr H=aA (ex,k',fr',H')->W P Γ nt kb c (isQ ex k' fr' H') k fr H:=by
 intro c
 induction c with
 |skip=>intro k fr H ex k' fr' H' h;simp only[fI]at h;cases h;exact aHT ⟨rfl,rfl,rfl,rfl⟩
 |ret=>intro k fr H ex k' fr' H' h;simp only[fI]at h;cases h;exact aYF ⟨rfl,rfl,rfl,rfl⟩
 |exit id=>intro k fr H ex k' fr' H' h;simp only[fI]at h;cases h;exact aHU ⟨rfl,rfl,rfl,rfl⟩
 |seq a b iha ihb=>
  intro k fr H ex k' fr' H' h;simp only[fI]at h
  cases hx:fI x e P Γ nt a k fr H with
  |none=>rw[hx]at h;cases h
  |some r=>
   obtain⟨e1,k1,fr1,H1⟩:=r;rw[hx]at h;refine aYE (lI (iha _ _ _ _ _ _ _ hx) ?_);rintro e2 k2 fr2 H2 ⟨rfl,rfl,rfl,rfl⟩
   cases e2 with
   |normal=>exact ihb _ _ _ _ _ _ _ h
   |_=>cases h;exact⟨rfl,rfl,rfl,rfl⟩
 |cond c a b iha ihb=>
  intro k fr H ex k' fr' H' h;simp only[fI]at h;split at h;.rename_i hc;exact QN aB hc (λ _=>iha _ _ _ _ _ _ _ h) (λ hh=>by cases hh)
  .rename_i hc;exact QN aE hc (λ hh=>by cases hh) (λ _=>ihb _ _ _ _ _ _ _ h)
  cases h
 |block id c ih=>
  intro k fr H ex k' fr' H' h;simp only[fI]at h
  cases hx:fI x e P Γ nt c k fr H with
  |none=>rw[hx]at h;cases h
  |some r=>
   obtain⟨e1,k1,fr1,H1⟩:=r;rw[hx]at h;refine XZ (lI (ih _ _ _ _ _ _ _ hx) ?_);rintro e2 k2 fr2 H2 ⟨rfl,rfl,rfl,rfl⟩
   cases e2 with
   |exit id'=>
    simp only[FC];by_cases hid:id'=id;.subst hid;simp only[Nat.beq_refl]at h;cases h;rw[iP rfl];exact⟨rfl,rfl,rfl,rfl⟩
    have hb:sP id' id=aE:=by rw[gB];exact λ hb=>hid (cH hb)
    simp only[hb]at h;cases h;rw[iN hid];exact⟨rfl,rfl,rfl,rfl⟩
   |_=>cases h;exact⟨rfl,rfl,rfl,rfl⟩
 |loop c ih=>
  intro k fr H ex k' fr' H' h;simp only[fI]at h
  cases hx:fI x e P Γ nt c k fr H with
  |none=>rw[hx]at h;cases h
  |some r=>
   obtain⟨e1,k1,fr1,H1⟩:=r;rw[hx]at h
   cases e1 with
   |normal=>obtain⟨n,hn⟩:=he.loop _ _ _ _ _ _ _ _ _ h kb;refine HQ (n+1) (lI (ih _ _ _ _ _ _ _ hx) ?_);rintro e2 k2 fr2 H2 ⟨rfl,rfl,rfl,rfl⟩;exact hn
   |_=>cases h;refine HQ 1 (lI (ih _ _ _ _ _ _ _ hx) ?_);rintro e2 k2 fr2 H2 ⟨rfl,rfl,rfl,rfl⟩;exact⟨rfl,rfl,rfl,rfl⟩
 |region id ops d=>
  intro k fr H ex k' fr' H' h;simp only[fI]at h;split at h;.cases h
  rename_i hd;split at h
  .rename_i o r out hnx;obtain⟨rfl,h1,h2,h3⟩:=aNM hnx;obtain⟨rds,h4⟩:=hX.nx _ _ _ _ _ h3;split at h;.cases h
   rename_i tr k1 fr1 H1 hx;cases h;refine UX h1 hd h2 h4 λ out' ho'=>?_;subst ho';exact EX hX he _ _ _ _ _ _ _ _ _ hx (λ _=>⟨rfl,rfl,rfl,rfl⟩)
  split at h;.cases h
  rename_i tr k1 fr1 H1 hx;split at h
  .rename_i hdr;cases h
   cases d with
   |false=>exact QM hd (EX hX he _ _ _ _ _ _ _ _ _ hx (λ _=>⟨rfl,rfl,rfl,rfl⟩))
   |true=>simp only[Bool.not_true,AE,aH]at hdr;exact aHV hdr.1 hd (EX hX he _ _ _ _ _ _ _ _ _ hx ⟨hdr.2,λ _=>⟨rfl,rfl,rfl,rfl⟩⟩)
  cases h
 |_=>intro k fr H ex k' fr' H' h;simp[fI]at h
theorem aGF(hX:XtOk P Γ x)(he:EvOk P Γ e){c:Code}{ex:Exit}{k':Nat}{fr':Fr}{H':aO}(h:XA x e P Γ nt c k fr H=aA (ex,k',fr',H')):∃n,rN P Γ nt kb c (isQ ex k' fr' H') n k fr H:=by
 unfold XA at h
 cases hx:fI x e P Γ nt c k fr H with
 |none=>rw[hx]at h;cases h
 |some r=>
  obtain⟨e1,k1,fr1,H1⟩:=r;rw[hx]at h
  cases e1 with
  |normal=>obtain⟨n,hn⟩:=he.loop _ _ _ _ _ _ _ _ _ h kb;refine⟨n+1,lI (zD hX he c _ _ _ _ _ _ _ hx) ?_⟩;rintro e2 k2 fr2 H2 ⟨rfl,rfl,rfl,rfl⟩;exact hn
  |_=>cases h;refine⟨1,lI (zD hX he c _ _ _ _ _ _ _ hx) ?_⟩;rintro e2 k2 fr2 H2 ⟨rfl,rfl,rfl,rfl⟩;exact⟨rfl,rfl,rfl,rfl⟩
theorem aGH(hX:XtOk P Γ x)(he:EvOk P Γ e){f:FuncId}{args:List AVal}{k':Nat}{v:AVal}{H':aO}(h:XB x e P Γ f k args H=aA (k',v,H')):Tr P Γ f k args H (λ k1 r1 H1=>k1=k'/\r1=v/\H1=H'):=by
 unfold XB at h;split at h;.rename_i r hr;cases h;exact hX.tab _ _ _ _ _ _ _ hr
 split at h;.cases h
 rename_i fn hfn;split at h;.cases h
 rename_i c hc;split at h;.cases h
 rename_i hn
 have main:∀ex k1 fr1 H1 r,(ex= .normal\/ex= .ret)->fI x e P Γ fn.ntmps c k (vS 0 args) H=aA (ex,k1,fr1,H1)->KZ P fn fr1 H1=aA r→
  aA (k1,r,vX (pO H1 100000 (nm2 r++aAL k H1) []) H1)=aA (k',v,H')->Tr P Γ f k args H (λ k1 r1 H1=>k1=k'/\r1=v/\H1=H'):=by
  intro ex k1 fr1 H1 r hex hev hr hq
  cases hq
  refine(MR (Q:=λ k2 r2 H2=>k2=k'/\r2=v/\H2=H1) hfn hc (qY hn) (lI (zD hX he c _ _ _ _ _ _ _ hev) ?_)).weaken ?_
  · rintro e2 k2 fr2 H2 ⟨rfl,rfl,rfl,rfl⟩
    rcases hex with rfl|rfl
    · exact⟨_,hr,rfl,rfl,rfl⟩
    · exact⟨_,hr,rfl,rfl,rfl⟩
  · rintro k2 r2 H2 hk ⟨rfl,rfl,rfl⟩
    exact⟨_,_,_,hk,bJ _,λ id B hB=>⟨B,xP _ _ _ _ hB,pG B⟩,.inl rfl,rfl,rfl,rfl⟩
 split at h
 .rename_i k1 fr1 H1 hev;split at h;.rename_i r hr;exact main _ _ _ _ _ (.inl rfl) hev hr h
  cases h
 .rename_i k1 fr1 H1 hev;split at h;.rename_i r hr;exact main _ _ _ _ _ (.inr rfl) hev hr h
  cases h
 cases h
theorem aGE(hX:XtOk P Γ x):∀n,EvOk P Γ (UE x P Γ n)
 |0=>⟨λ _ _ _ _ _ _ _ h=>(by simp[UE]at h),λ _ _ _ _ _ _ _ _ _ h=>(by simp[UE]at h)⟩
 |n+1=>⟨λ _ _ _ _ _ _ _ h=>aGH hX (aGE hX n) h,λ _ _ _ _ _ _ _ _ _ h _=>aGF hX (aGE hX n) h⟩
end
def a9P(q:IntKind):List AVal->Option (Int×Value×Nat)
 |[.lit (.int q' n),.lit v,.lit (.int .i64 s)]=>if q'=q/\0<=s then aA (n,v,s.toNat)else aC
 |_=>aC
theorem a3G{q:IntKind}{r:List AVal}{e:Int×Value×Nat}(h:a9P q r=aA e):r=aOP q e:=by
 unfold a9P at h;split at h
 .split at h;.rename_i hc;cases h;obtain⟨rfl,h2⟩:=hc;simp[aOP,gA h2]
  cases h
 cases h
def aLE(q:IntKind):List (List AVal)->Option lV
 |[]=>aA []
 | r::l=>match a9P q r,aLE q l with
   |some e,aA m=>aA (e::m)
   |_,_=>aC
theorem aCC{q:IntKind}:∀ {rs:List (List AVal)} {l:lV},aLE q rs=aA l->rs=l.map (aOP q)
 |[],l,h=>by cases h;rfl
 |r::rs,l,h=>by
  simp only[aLE]at h;split at h;.rename_i e m h1 h2;cases h;rw[bI,<-a3G h1,<-aCC h2]
  cases h
def aWF(q:IntKind)(B:Blk):Option (lV×Nat):=
 match B.rows with
 | [.lit (.int .i64 c),.lit (.int .i64 n),.lit (.int .i64 m)]::rs=>match aLE q rs with
   |some l=>if sP B.sz 3=aB/\B.pure=aB/\0<=c/\n=l.length/\m=1 then aA (l,c.toNat)else aC
   |none=>aC
 |_=>aC
theorem XI{q:IntKind}{B:Blk}{l:lV}{c:Nat}(h:aWF q B=aA (l,c)):B=mS q l c:=by
 unfold aWF at h;split at h
 .rename_i c' n m rs hr;split at h
  .rename_i l' hl;split at h;.rename_i hc;cases h;obtain⟨h1,h2,h3,h4,h5⟩:=hc;cases B;simp only at hr h1 h2;rw[hr,h2,cH h1,aCC hl];simp[mS,gA h3,h4,h5]
   cases h
  cases h
 cases h
def OI(P:Program)(t:TypeId):Option (TypeId×IntKind×Value):=
 match P.underlying t with
 | some (.map kt et)=>match P.underlying kt,(P.info? et).bind (·.zero)with
   |some (.int q),aA z=>aA (kt,q,z)
   |_,_=>aC
 |_=>aC
theorem GG{P:Program}{t kt:TypeId}{q:IntKind}{z:Value}(h:OI P t=aA (kt,q,z)):∃et,MapT P t kt et q z:=by
 unfold OI at h;split at h
 .rename_i kt' et h1;split at h;.rename_i q' z' h2 h3;cases h;exact⟨et,h1,h2,h3⟩
  cases h
 cases h
def unl:Value->AVal
 | .agg cs=> .agg (cs.toList.map .lit)
 |v=> .lit v
theorem a6H{w:World}{G:Nat->Prop}{ρ:cY}{A:bZ}(v:Value):V w G ρ A (unl v) v:=by
 unfold unl;split;.rename_i cs;refine .agg sS λ j u hj=>?_;rw[aP,aG]at hj;obtain⟨y,hy,rfl⟩:=hj;rw[bF]at hy;rw[aI,hy];exact .lit
 exact .lit
theorem Good.outV {P:Program}{Γ:dL}{o:Oper}{ev:Operand->Option AVal}{get:Nat->Option Blk}{k k':Nat}{v v':AVal}{u:List (Nat×Option Blk)}{r:List Nat}(h:Good P Γ o ev get k ⟨v,k',u,r⟩)
 (hv:∀w G ρ A cv,V w G ρ A v cv->V w G ρ A v' cv):Good P Γ o ev get k ⟨v',k',u,r⟩:=
 ⟨λ w G ρ H A a hr hA hf hrd hop next Q hn=>h.ok w G ρ H A a hr hA hf hrd hop next Q λ w' G' ρ' cv hrel hV hst=>hn w' G' ρ' cv hrel (hv _ _ _ _ _ hV) hst,h.rds,h.le⟩
def ON(q:IntKind)(n:Int)(l:lV):Bool:=wfK q n&&l.all (λ e=>wfK q e.1)
def ukB:List Int->Bool
 |[]=>aB
 |a::l=>l.all (λ b=> !(b==a))&&ukB l
theorem aDS:∀ {l:List Int},ukB l=aB->l.Nodup
 |[],_=>List.nodup_nil
 |a::l,h=>by simp only[ukB,aH,aW,bD,beq_eq_false_iff_ne]at h;exact a5A.2 ⟨λ hm=>h.1 a hm rfl,aDS h.2⟩
def aAV(ev:Operand->Option AVal)(q:IntKind)(x:Operand):Option Int:=
 match ev x with
 |some (.lit (.int q' n))=>if q'=q then aA n else aC
 |_=>aC
theorem OO{ev:Operand->Option AVal}{q:IntKind}{x:Operand}{n:Int}(h:aAV ev q x=aA n):ev x=aA (.lit (.int q n)):=by
 unfold aAV at h;split at h
 .rename_i h1;split at h;.rename_i h2;cases h;rw[<-h2];exact h1
  cases h
 cases h
def TH(ev:Operand->Option AVal)(get:Nat->Option Blk)(q:IntKind)(m:Operand):Option (Nat×lV×Nat):=
 match ev m with
 | some (.mp id)=>match get id with
   | some B=>match aWF q B with
     |some (l,c)=>aA (id,l,c)
     |none=>aC
   |none=>aC
 |_=>aC
theorem GH{ev:Operand->Option AVal}{get:Nat->Option Blk}{q:IntKind}{m:Operand}{id:Nat}{l:lV}{c:Nat}(h:TH ev get q m=aA (id,l,c)):ev m=aA (.mp id)/\get id=aA (mS q l c):=by
 unfold TH at h;split at h
 .rename_i i h1;split at h
  .rename_i B h2;split at h;.rename_i h3;cases h;exact⟨h1,by rw[h2,XI h3]⟩
   cases h
  cases h
 cases h
def a3F(B:Blk):Option (Nat×Nat×List Nat×Nat):=
 match B.rows with
 | [.lit (.int .i64 c),.lit (.int .i64 n),.lit (.int .i64 m)]::[.mp mid,.lit (.int .i64 s),.lit (.int .i64 z)]::rs=>
   match rs with
   |[]=>if sP B.sz 3=aB/\B.pure=aE/\0<=c/\n=0/\m=2/\0<=s/\z=0 then aA (mid,s.toNat,[],c.toNat)else aC
   |[[.lit (.int .i64 y),.lit (.int .i64 z1),.lit (.int .i64 z2)]]=>if sP B.sz 3=aB/\B.pure=aE/\0<=c/\n=1/\m=2/\0<=s/\z=0/\0<=y/\z1=0/\z2=0 then aA (mid,s.toNat,[y.toNat],c.toNat)else aC
   |_=>aC
 |_=>aC
theorem aLD{B:Blk}{mid s:Nat}{l:List Nat}{c:Nat}(h:a3F B=aA (mid,s,l,c)):B=kM mid s l c:=by
 unfold a3F at h;split at h
 .rename_i c' n m mid' s' z rs hr;split at h
  .split at h;.rename_i hc;cases h;obtain⟨h1,h2,h3,h4,h5,h6,h7⟩:=hc;cases B;simp only at hr h1 h2;rw[hr,h2,cH h1];simp[kM,gA h3,gA h6,h4,h5,h7]
   cases h
  .split at h;.rename_i hc;cases h;obtain⟨h1,h2,h3,h4,h5,h6,h7,h8,h9,h10⟩:=hc;cases B;simp only at hr h1 h2;rw[hr,h2,cH h1];simp[kM,gA h3,gA h6,gA h8,h4,h5,h7,h9,h10]
   cases h
  cases h
 cases h
def aTO(P:Program)(o:Oper)(ev:Operand->Option AVal)(get:Nat->Option Blk)(k:Nat):Option Out:=
 match o.op with
 | .makeMap t aC=>match OI P t with
   |some (_,q,_)=>aA ⟨.mp k,k+1,[(k,aA (mS q [] 0))],[]⟩
   |none=>aC
 | .lookup t m x aB=>match OI P t with
   | some (_,q,z)=>match aAV ev q x,TH ev get q m with
     | some n,aA (id,l,_)=>match ON q n l&&ukB (l.map (·.1))with
       |true=>aA ⟨.tup [unl ((AH l n).getD z),.lit (.bool (AH l n).isSome)],k,[],[id]⟩
       |false=>aC
     |_,_=>aC
   |none=>aC
 | .mapUpdate t m x y=>match OI P t with
   | some (_,q,_)=>match aAV ev q x,TH ev get q m,(ev y).bind UW with
     | some n,aA (id,l,c),aA v=>match ON q n l&&l.all (λ e=> !(e.1==n))with
       |true=>aA ⟨.junk,k,[(id,aA (mS q (l++[(n,v,c)]) (c+1)))],[id]⟩
       |false=>aC
     |_,_,_=>aC
   |none=>aC
 | .call {callee:= .builtin .delete,args:=args,argTypes:=ty}=>match args.toList,ty.toList with
   | [m,x],[t,kt]=>match OI P t with
     | some (kt',q,_)=>match aAV ev q x,TH ev get q m with
       | some n,aA (id,l,c)=>match sP kt kt'&&(ON q n l&&ukB (l.map (·.1)))with
         |true=>aA ⟨.lit (.tuple #[]),k,[(id,aA (mS q (PP l n) c))],[id]⟩
         |false=>aC
       |_,_=>aC
     |none=>aC
   |_,_=>aC
 | .range t m=>match OI P t with
   | some (_,q,_)=>match TH ev get q m with
     |some (id,_,c)=>aA ⟨.it k,k+1,[(k,aA (kM id c [] c))],[id]⟩
     |none=>aC
   |none=>aC
 | .entry x=>match ev x with
   | some (.it it)=>match(get it).bind a3F with
     | some (mid,_,[s],c0)=>match(get mid).bind (aWF .i64)with
       | some ([e],c)=>match sP c c0&&sP e.2.2 s with
         |true=>aA ⟨.tup [.lit (.int .i64 e.1),.lit e.2.1],k,[],[it,mid]⟩
         |false=>aC
       |_=>aC
     |_=>aC
   |_=>aC
 |_=>aC
theorem JA{q:IntKind}{n:Int}{l:lV}(h:ON q n l=aB):wfK q n=aB/\∀e∈l,wfK q e.1=aB:=by simpa [ON,aW]using h
section
variable{P:Program}{Γ:dL}{o:Oper}{ev:Operand->Option AVal}{get:Nat->Option Blk}{k:Nat}
theorem aFE{out:Out}(h:aTO P o ev get k=aA out):Good P Γ o ev get k out:=by
 unfold aTO at h;split at h
 .rename_i t ho;split at h;.rename_i kt q z ht;cases h;exact OJ q ho
  cases h
 .rename_i t m x ho;split at h
  .rename_i kt q z ht;obtain⟨et,hT⟩:=GG ht;split at h
   .rename_i n id l c h1 h2;split at h
    .rename_i hc;cases h;simp only[aH]at hc;obtain⟨h3,h4⟩:=GH h2;obtain⟨h5,h6⟩:=JA hc.1;refine(TL ho hT h3 (OO h1) h4 h6 h5 (aDS hc.2)).outV λ w G ρ A cv hV=>?_
     cases hV with
     |tup hl hv=>
      refine .tup hl λ j v hj=>?_
      match j,hj with
      | 0,hj=>
        cases hj
        have:=hv 0 _ rfl
        generalize Array.getD _ 0 undef=cv at this⊢
        cases this
        exact a6H _
      |1,hj=>cases hj;exact hv 1 _ rfl
      |j+2,hj=>simp at hj
    cases h
   cases h
  cases h
 .rename_i t m x y ho;split at h
  .rename_i kt q z ht;obtain⟨et,hT⟩:=GG ht;split at h
   .rename_i n id l c v h1 h2 h3;split at h;.rename_i hc;cases h;simp only[aH,aW,bD,beq_eq_false_iff_ne]at hc;obtain⟨h4,h5⟩:=GH h2;obtain⟨h6,h7⟩:=JA hc.1;obtain⟨av,h8,h9⟩:=cE.1 h3;exact ZN ho hT h4 (OO h1) h8 h9 h5 h7 h6 hc.2
    cases h
   cases h
  cases h
 .rename_i args ty ho;split at h
  .rename_i m x t kt ha hty;split at h
   .rename_i kt' q z ht;obtain⟨et,hT⟩:=GG ht;split at h
    .rename_i n id l c h1 h2;split at h;.rename_i hc;cases h;simp only[aH]at hc;obtain⟨h3,h4⟩:=GH h2;obtain⟨h5,h6⟩:=JA hc.2.1;obtain rfl:=cH hc.1;obtain rfl:args= #[m,x]:=bGD ha;obtain rfl:ty= #[t,kt]:=bGD hty;exact aCA ho hT h3 (OO h1) h4 h6 h5 (aDS hc.2.2)
     cases h
    cases h
   cases h
  cases h
 .rename_i t m ho;split at h
  .rename_i kt q z ht;obtain⟨et,hT⟩:=GG ht;split at h;.rename_i id l c h2;cases h;obtain⟨h3,h4⟩:=GH h2;exact NT ho hT h3 h4
   cases h
  cases h
 .rename_i x ho;split at h
  .rename_i it hx;split at h
   .rename_i mid since s c0 h1;obtain⟨B,h2,h3⟩:=cE.1 h1;obtain rfl:=aLD h3;split at h
    .rename_i e c h4;obtain⟨B',h5,h6⟩:=cE.1 h4;obtain rfl:=XI h6;split at h;.rename_i hc;cases h;simp only[aH]at hc;obtain rfl:=cH hc.1;obtain rfl:=cH hc.2;exact PJ (seen:=[]) ho hx h2 h5 sS sS
     cases h
    cases h
   cases h
  cases h
 cases h
def aTP(o:Oper)(ev:Operand->Option AVal)(get:Nat->Option Blk)(k:Nat):Option Out:=
 match o.op with
 | .next x aE=>match ev x with
   | some (.it it)=>match(get it).bind a3F with
     | some (mid,since,seen,c0)=>match(get mid).bind (aWF .i64)with
       | some (l,clock)=>match l.all (λ e=>Nat.blt e.2.2 since)&&Nat.ble since c0 with
         | true=>match lP l seen with
           |[]=>aA ⟨.tup [.lit (.bool aE)],k,[],[it,mid]⟩
           |[e]=>aA ⟨.tup [.lit (.bool aB),.lit (.int .i64 e.1),.lit e.2.1],k,[(it,aA (kM mid since (seen++[e.2.2]) clock))],[it,mid]⟩
           |_=>aC
         |false=>aC
       |none=>aC
     |none=>aC
   |_=>aC
 |_=>aC
theorem aFF{out:Out}(h:aTP o ev get k=aA out):∃rds,GoodN P Γ o ev get k rds (λ out'=>out'=out):=by
 unfold aTP at h;split at h
 .rename_i x ho;split at h
  .rename_i it hx;split at h
   .rename_i mid since seen c0 h1;obtain⟨B,h2,h3⟩:=cE.1 h1;obtain rfl:=aLD h3;split at h
    .rename_i l clock h4;obtain⟨B',h5,h6⟩:=cE.1 h4;obtain rfl:=XI h6;split at h
     .rename_i hc;simp only[aH,aW,Nat.blt_eq]at hc;have key:=TE (P:=P) (Γ:=Γ) (k:=k) ho hx h2 h5 hc.1 (qY hc.2);refine⟨_,⟨λ w G ρ H A a hr hA hrd hop next Q hN=>key.ok w G ρ H A a hr hA hrd hop next Q λ out' ho'=>hN out' ?_,key.rds,λ out' ho'=>?_⟩⟩
      .split at h
       .rename_i ht;cases h;rcases ho' with⟨_,rfl⟩|⟨e,he,rfl⟩;.rfl
        rw[ht]at he;simp at he
       .rename_i e0 ht;cases h;rcases ho' with⟨h7,rfl⟩|⟨e,he,rfl⟩;.rw[ht]at h7;cases h7
        rw[ht]at he;obtain rfl:e=e0:=by simpa using he
        rfl
       cases h
      subst ho';split at h;.cases h;rfl
      .cases h;rfl
      cases h
     cases h
    cases h
   cases h
  cases h
 cases h
end
end Go.AM
end
section
namespace Go.AM
def aEO(id j:Nat)(row:List AVal):Bool:=(row.set j .junk).all (iM (IU id))
theorem aEN{id j:Nat}{row:List AVal}(h:aEO id j row=aB){c:Nat}{u:AVal}(hc:c≠j)(hu:row[c]? =aA u):iM (IU id) u=aB:=by
 have h1:(row.set j .junk)[c]? =aA u:=by rw[bOV (Ne.symm hc)];exact hu
 exact aW.1 h u (iG h1)
theorem aVB{id:Nat}{B:Blk}{u:AVal}(hu:iM (IU id) u=aB):kH id B u=u:=by
 cases u with
 |ptr i r c=>simp only[iM,IU,dTt]at hu;simp[kH,hu]
 |sl i r c=>simp only[iM,IU,dTt]at hu;simp[kH,hu]
 |_=>rfl
theorem uG {kb k:Nat}{fr:Fr}{H:aO}{id s D sz:Nat}{l:List (List AVal)}{row:List AVal}(j:Nat)(v:AVal)(fr1:Fr)(H1:aO)(hne:D≠id)(hD:look H D=aA ⟨sz,aE,[row]⟩)(hj:row[j]? =aA (dG id l))
 (hH:lX H id s l) (hv:VLe (rows s l) v) (hoff:aEO id j row=aB) (h1:aAX fr id fr1) (h2:aAW H id H1):Mv kb k fr H k fr1 ((D,⟨sz,aE,[row.set j v]⟩)::H1):=by
 have hvle:∀u u',VLe u u'->VLe u' v->VLe u v:=λ u u' a b w G ρ A cv h=>b w G ρ A cv (a w G ρ A cv h);have hjl:=(aK.1 hj).1
 cases l with
 |nil=>
  refine λ hk=>nV ⟨hk,λ t' u hu=>⟨u,(uY h1 t' u hu).1,bJ u⟩,λ i B hB=>?_,.inl rfl⟩ hk;simp only[look]at hB;split at hB
  .rename_i he;subst he;cases hB;refine⟨_,hD,rfl,λ q row' hq=>?_,λ h=>by cases h⟩
   cases q with
   |zero=>
    cases hq;refine⟨row,rfl,sS,λ c u w hu hw=>?_⟩;by_cases hc:c=j;.subst hc;rw[fW hjl]at hw;rw[hj]at hu;cases hu;cases hw;exact hvle _ _ (VLe.nil s _) hv
    rw[bOV (Ne.symm hc),hu]at hw;cases hw;exact bJ _
   |succ q=>simp at hq
  exact⟨B,(uX h2 i B hB).2.1,pG B⟩
 |cons x r=>
  have h3:=hH sS;refine Mv.trans (gK id h3 rfl) (λ hk=>nV ⟨hk,λ t' u hu=>?_,λ i B hB=>?_,.inl rfl⟩ hk);.obtain⟨h4,h5⟩:=uY h1 t' u hu;refine⟨u,?_,bJ u⟩;unfold pS;rw[lQ,h4,bU,aKN h5]
  simp only[look]at hB;split at hB
  .rename_i he;subst he;cases hB;refine⟨⟨sz,aE,[row.map (kH id ⟨s,aB,x::r⟩)]⟩,by unfold yZ;rw[lQ,gU,iN hne,hD];rfl,rfl,λ q row' hq=>?_,λ h=>by cases h⟩
   cases q with
   |zero=>
    cases hq;refine⟨row.map (kH id ⟨s,aB,x::r⟩),rfl,sS,λ c u w hu hw=>?_⟩;rw[aP]at hu;by_cases hc:c=j;.subst hc;rw[fW hjl]at hw;rw[hj]at hu;cases hw;simp only[bU,dG,kH,fH,aF,and_self,if_true,aA.injEq]at hu;subst hu;exact hv
    rw[bOV (Ne.symm hc)]at hw;rw[hw,bU,aVB (aEN hoff hc hw)]at hu;cases hu;exact bJ _
   |succ q=>simp[LG]at hq
  obtain⟨h4,h5,h6⟩:=uX h2 i B hB;refine⟨B,?_,pG B⟩;unfold yZ;rw[lQ,gU,iN h4,h5];simp[LG,h6]
attribute [go_sem] aEO
end Go.AM
end
section
namespace Go.Proofs.T
open Go Go.AM Go.Proofs
variable{Γ:dL}
def a1E:ByteArray:=⟨#[111,116,104,101,114]⟩
def aER:ByteArray:=⟨#[98,97,99,107]⟩
def aEQ:ByteArray:=⟨#[102,101,108,108]⟩
theorem bHS:AM.Pure aD Γ 52 [.lit (.int .u8 17)] (.lit (.string a1E)):=YF (k':=1) 20 rfl rfl iF
theorem bHU:AM.Pure aD Γ 52 [.lit (.int .u8 15)] (.lit (.string aER)):=YF (k':=1) 20 rfl rfl iF
theorem bHT:AM.Pure aD Γ 52 [.lit (.int .u8 16)] (.lit (.string aEQ)):=YF (k':=1) 20 rfl rfl iF
theorem aEY(a b:St):∀f∈tC a b,f.r=15\/f.r=16:=λ x hx=>by
 unfold tC at hx;rcases dC.1 hx with hx|hx;.obtain⟨c,hc,hx⟩:=mem_flats.1 hx;obtain⟨_,rfl⟩:=mem_iff1.1 hx;exact .inl rfl
 obtain⟨g,hg,hx⟩:=mem_flats.1 hx;obtain⟨c,hc,hx⟩:=mem_flats.1 hx;obtain⟨_,rfl⟩:=mem_iff1.1 hx;exact .inr rfl
def zF:Flt:=⟨0,0,0⟩
theorem a7M(l:List Flt):VLe (rows 3 (l.map Flt.row)) (.rd 3 l.length (λ j=>Flt.row (l.getD j zF))):=by rw[rows,cX];exact VLe.rd λ i hi=>by simp[aR,hi]
theorem aDH{P:Program}{f:FuncId}{args:List AVal}{r r':AVal}(h:AM.Pure P Γ f args r)(hle:VLe r r'):AM.Pure P Γ f args r':=λ k A hA w G ρ cargs h1 h2=>
 (h k A hA w G ρ cargs h1 h2).mono λ _ _ ⟨cv,G',ρ',k',r1,H',he,⟨e1,e2,e3⟩,a,b,c,d⟩=>⟨cv,G',ρ',k',r',H',he,⟨e1,rfl,e3⟩,a,b,hle _ _ _ _ _ (e2▸c),d⟩
theorem bFR(a b:St)(hq:PreOk a)(hq':PreOk b)(hk:Kinds a)(hk':Kinds b):AM.Pure aD Γ 51 [.agg a.cells,.agg b.cells] (.tup [.rd 3 (uM a b).length (λ j=>Flt.row ((uM a b).getD j zF)),(AZ a b)]):=
 aDH (step a b hq hq' hk hk') (HR (.cons (a7M _) (.cons (bJ _) .nil)))
theorem aWA(k D:Nat)(hD:D<k)(a b:Nat->Int)(n m:Nat)(hm:m=n)(hn:n<=1000)(c1 c2 c3 c4 c5:AVal)(e1:∀p,iM p c1=aB)(e2:∀p,iM p c2=aB)(e3:∀p,iM p c3=aB)(e4:∀p,iM p c4=aB)(e5:∀p,iM p c5=aB)(L:List (Int×Int))(eL:L=gH (kD a b) n):
 Tr aD Γ 53 k [.rd 1 n (λ i=>[(a i)]),.rd 1 m (λ i=>[(b i)]),.fn 54 [.ptr D 0 0]] ([(D,⟨6,aE,[[(),c1,c2,c3,c4,c5]]⟩)]) (λ k1 r1 H1=>k1=k+1/\r1= .tup []/\H1=cL k 2 (L.map mK) [(D,⟨6,aE,[[dG k (L.map mK),c1,c2,c3,c4,c5]]⟩)]):=by subst hm eL;exact a3D k D hD a b _ hn c1 c2 c3 c4 c5 e1 e2 e3 e4 e5
theorem aVZ(k D:Nat)(hD:D<k)(a b:Nat->Int)(n m:Nat)(hm:m=n)(hn:n<=1000)(c1 c2 c3 c4 c5:AVal)(e1:∀p,iM p c1=aB)(e2:∀p,iM p c2=aB)(e3:∀p,iM p c3=aB)(e4:∀p,iM p c4=aB)(e5:∀p,iM p c5=aB)(L:List (Int×Int))(eL:L=gH (kD a b) n):
 Tr aD Γ 53 k [.rd 1 n (λ i=>[(a i)]),.rd 1 m (λ i=>[(b i)]),.fn 55 [.ptr D 0 0]] ([(D,⟨6,aE,[[c1,(),c2,c3,c4,c5]]⟩)]) (λ k1 r1 H1=>k1=k+1/\r1= .tup []/\H1=cL k 2 (L.map mK) [(D,⟨6,aE,[[c1,dG k (L.map mK),c2,c3,c4,c5]]⟩)]):=by subst hm eL;exact a3C k D hD a b _ hn c1 c2 c3 c4 c5 e1 e2 e3 e4 e5
theorem aVY(k D:Nat)(hD:D<k)(a b:St)(n m:Nat)(hm:m=n)(hn:n<=1000)(c1 c2 c3 c4 c5:AVal)(e1:∀p,iM p c1=aB)(e2:∀p,iM p c2=aB)(e3:∀p,iM p c3=aB)(e4:∀p,iM p c4=aB)(e5:∀p,iM p c5=aB)(L:List (Int×Int))(eL:L=gH (vE a b) n):
 Tr aD Γ 56 k [.rd 2 n (gf a),.rd 2 m (gf b),.fn 57 [.ptr D 0 0]] ([(D,⟨6,aE,[[c1,c2,(),c3,c4,c5]]⟩)]) (λ k1 r1 H1=>k1=k+1/\r1= .tup []/\H1=cL k 2 (L.map mK) [(D,⟨6,aE,[[c1,c2,dG k (L.map mK),c3,c4,c5]]⟩)]):=by subst hm eL;exact a3B k D hD a b _ hn c1 c2 c3 c4 c5 e1 e2 e3 e4 e5
theorem bHR{F:List Flt}(h:∀f∈F,f.r=15\/f.r=16){i:Nat}(hi:i<F.length):∃s:ByteArray,(s=aER\/s=aEQ)/\AM.Pure aD Γ 52 [.lit (.int .u8 (F.getD i zF).r)] (.lit (.string s)):=by
 have hm:F.getD i zF∈F:=by rw[aR,aJ hi];exact JR hi
 rcases h _ hm with e|e;.rw[e];exact⟨aER,.inl rfl,bHU⟩
 rw[e];exact⟨aEQ,.inr rfl,bHT⟩
theorem aPC{a b:St}(h1:¬tV a b)(h2:QU a b a.ng=aE):btw a b=noDl/\DX a b=351:=by unfold btw DX;simp[h1,h2]
theorem a3W{a b:St}(h1:tV a b):btw a b=noDl/\DX a b=350:=by unfold btw DX;simp[h1]
theorem a9Z{a b:St}(h1:¬tV a b)(h2:QU a b a.ng=aB):btw a b=AS a b/\DX a b=0:=by unfold btw DX;simp[h1,h2]
theorem aJH{x:List AVal}(h:x=noDl.cells):VLes [(),(),(),(),(),()] x:=by subst h;exact .cons (VLe.nil _ _) (.cons (VLe.nil _ _) (.cons (VLe.nil _ _) (.cons (VLe.nil _ _) (.cons (VLe.nil _ _) (.cons (VLe.nil _ _) .nil)))))
theorem aHN{loc:aO}{D id sz:Nat}{l:List (List AVal)}{B B':Blk}(h1:AM.look loc D=aC)(h2:AM.look loc id=aC):rL loc [(D,B)] (cL id sz l [(D,B')]):=λ i hi=>by
 by_cases hD:i=D;.subst hD;exact h1
 by_cases hI:i=id;.subst hI;exact h2
 exfalso;rcases hi with h|h;.simp[eQ,AM.look,Ne.symm hD]at h
 cases l<;>simp[cL,eQ,AM.look,Ne.symm hD,Ne.symm hI]at h
theorem aXO(p:Nat->Bool)(s:Nat)(l:List (List AVal)):iM p (rows s l)=aB:=rfl
attribute [go_sem] aXO
theorem m_2{p:Nat->Bool}{i:Nat}:bd p (.mp i)=p i:=rfl
theorem m_3{p:Nat->Bool}{i:Nat}:LJ p (.mp i)=p i:=rfl
theorem m_5{a b i:Nat}:sw2 a b (.mp i)= .mp (sw a b i):=rfl
theorem m_9{p:Nat->Bool}{i:Nat}:bd p (.it i)=p i:=rfl
theorem bHX{a b i:Nat}:sw2 a b (.it i)= .it (sw a b i):=rfl
attribute [go_sem] m_2 m_3 m_5 m_9 bHX
def DU(l:lV)(clock:Nat):List (List AVal):=(mS .i64 l clock).rows
def KF(mid since:Nat)(seen:List Nat)(c0:Nat):List (List AVal):=(kM mid since seen c0).rows
theorem a2A(mid since:Nat)(seen:List Nat)(c0:Nat):kM mid since seen c0=⟨3,aE,KF mid since seen c0⟩:=rfl
theorem aPM(p:Nat->Bool)(mid since:Nat)(seen:List Nat)(c0:Nat):((KF mid since seen c0).all λ row=>row.all (iM p))=p mid:=by
 have h:(seen.map λ(x:Nat)=>[AVal.lit (.int .i64 (x:Int)),(0:Int),(0:Int)]).all (λ row=>row.all (iM p))=aB:=by rw[aW];intro row hr;obtain⟨x,_,rfl⟩:=dB.1 hr;rfl
 simp only[KF,kM,fU,AA,iM,h,iC,lG]
theorem aQU(a b mid since:Nat)(seen:List Nat)(c0:Nat):((KF mid since seen c0).map λ row=>row.map (AP a b))=KF (sw a b mid) since seen c0:=by
 have h:(seen.map λ(x:Nat)=>[AVal.lit (.int .i64 (x:Int)),(0:Int),(0:Int)]).map (λ row=>row.map (AP a b))=seen.map λ(x:Nat)=>[AVal.lit (.int .i64 (x:Int)),(0:Int),(0:Int)]:=by rw[jM];rfl
 simp only[KF,kM,bI,bQ,h,AP]
attribute [go_sem] aPM aQU
theorem aRS{i id s:Nat}{l:List (List AVal)}{H:aO}{B:Blk}(h:id≠i):xF (cL id s l H) i B=cL id s l (xF H i B):=by
 cases l with
 |nil=>rfl
 |cons x r=>simp only[cL,xF];rw[iN h]
attribute [go_sem] aRS
def zT:Tk:=⟨0,0,0,0,0,aE,0,0⟩
theorem aJR:MapT aD 131 3 89 .i64 (tkV zT):=⟨Tryz.underlying131,jT,by kernel_rfl⟩
section
variable{o:Oper}{ev:Operand->Option AVal}{get:Nat->Option Blk}{k id c:Nat}{m x y:Operand}{a b:St}{i:Nat}
theorem a7Q(ha:IdOk a)(hi:i<a.nt)(ho:o.op= .mapUpdate 131 m x y)(hm:ev m=aA (.mp id))(hx:ev x=aA (.lit (.int .i64 (a.tsk i).id)))(hy:ev y=aA (.agg (tR (a.tsk i))))(hB:get id=aA ⟨3,aB,DU (oK a i) i⟩):
 AM.Good aD Γ o ev get k ⟨.junk,k,[(id,aA ⟨3,aB,DU (oK a (i+1)) (i+1)⟩)],[id]⟩:=by rw[NC];exact ZN ho aJR hm hx hy rfl hB (YY ha oO) (VC (ha.lo i hi) (ha.hi i hi)) (aMF ha.st hi)
def aMD(a:St)(x:Int):Tk:=match AR a x with|none=>zT|some j=>a.tsk j
theorem aJU(ha:IdOk a)(hb:IdOk b)(hi:i<b.nt)(ho:o.op= .lookup 131 m x aB)(hm:ev m=aA (.mp id))(hx:ev x=aA (.lit (.int .i64 (b.tsk i).id)))(hB:get id=aA ⟨3,aB,DU (LF a b i) c⟩):
 AM.Good aD Γ o ev get k ⟨.tup [.agg (tR (aMD a (b.tsk i).id)),.lit (.bool (AR a (b.tsk i).id).isSome)],k,[],[id]⟩:=by
 have h:=TL (P:=aD) (Γ:=Γ) (k:=k) ho aJR hm hx hB (aTZ ha) (VC (hb.lo i hi) (hb.hi i hi)) (OK ha.st);rw[aUB ha.st hb.st hi]at h;have e:(Option.map (λ j=>tkV (a.tsk j)) (AR a (b.tsk i).id)).getD (tkV zT)=tkV (aMD a (b.tsk i).id):=by unfold aMD;cases AR a (b.tsk i).id<;>rfl
 have e2:(Option.map (λ j=>tkV (a.tsk j)) (AR a (b.tsk i).id)).isSome=(AR a (b.tsk i).id).isSome:=by cases AR a (b.tsk i).id<;>rfl
 rw[e,e2]at h;refine h.outV λ w G ρ A cv hV=>?_
 cases hV with
 |tup hl hv=>
  refine .tup hl λ j v hj=>?_
  match j,hj with
  | 0,hj=>
    cases hj
    have:=hv 0 _ rfl
    generalize Array.getD _ 0 undef=cv at this⊢
    cases this
    exact a6H (tkV (aMD a (b.tsk i).id))
  |1,hj=>cases hj;exact hv 1 _ rfl
  |j+2,hj=>simp at hj
theorem aGU(ha:IdOk a)(hb:IdOk b)(hi:i<b.nt)(ho:o.op= .call {callee:= .builtin .delete,args:= #[m,x],argTypes:= #[131,3]})(hm:ev m=aA (.mp id))(hx:ev x=aA (.lit (.int .i64 (b.tsk i).id)))(hB:get id=aA ⟨3,aB,DU (LF a b i) c⟩):
 AM.Good aD Γ o ev get k ⟨.lit (.tuple #[]),k,[(id,aA ⟨3,aB,DU (LF a b (i+1)) c⟩)],[id]⟩:=by rw[aUA];exact aCA ho aJR hm hx hB (aTZ ha) (VC (hb.lo i hi) (hb.hi i hi)) (OK ha.st)
end
theorem IV(a b:St)(i:Nat):(mN a b i).length<=1:=GM _ _
end Go.Proofs.T
end
section
namespace Go.AM
open Go
inductive Fld where
 |one (off g:Nat)
 |sub (off n:Nat) (l:List (Nat×Nat))
def aKQ(P:Program)(f:Field):Option Fld:=
 match EE P f.type with
 |some g=>aA (.one f.offset g)
 | none=>match tD P f.type,(P.info? f.type).map (·.size)with
   |some l,aA n=>aA (.sub f.offset n l)
   |_,_=>aC
def KK(xs ys:List Value):List Fld->Option Bool
 |[]=>aA aB
 | .one off g::r=>match xs[off]?,ys[off]? with
   | some a,aA b=>match KJ g a b,KK xs ys r with
     |some p,aA q=>aA (p&&q)
     |_,_=>aC
   |_,_=>aC
 | .sub off n l::r=>match tQ ((xs.drop off).take n) ((ys.drop off).take n) l,KK xs ys r with
   |some p,aA q=>aA (p&&q)
   |_,_=>aC
section
variable{P:Program}{Γ:dL}{o:Oper}{ev:Operand->Option AVal}{get:Nat->Option Blk}{k:Nat}
theorem aGO{t d:Nat}{offs:List (Nat×Nat)}{xs ys:List Value}{p:Bool}(ht:tD P t=aA offs)(he:tQ xs ys offs=aA p)(w:World):(Op.equalIn (d+2) t (.agg xs.toArray) (.agg ys.toArray)).run P w= .ok p w:=by
 unfold tD at ht;split at ht
 .rename_i fs hu;split at ht;.cases ht
  rename_i hc;simp only[bL,not_or,bNZ]at hc;obtain⟨⟨h1,h2⟩,h3⟩:=hc;have hfs:P.fieldsOf t=fs:=by simp[Program.fieldsOf,hu]
  have hnm:∀f∈fs.toList,f.name≠ "_":=λ f hf he=>by have:=Array.any_eq_false'.1 h3 f (by simpa using hf);simp[he]at this
  have hrun:=GX (P:=P) (d:=d) xs ys fs.toList offs p hnm ht he w;have hstr:=run_equalIn_struct (P:=P) w (d+1) t xs.toArray ys.toArray (by rw[hfs];exact hu) h1;rw[hfs,hrun]at hstr;exact hstr
 cases ht
theorem aGP{t:Nat}{offs:List (Nat×Nat)}(ht:tD P t=aA offs)(w:World):(isAgg t).run P w= .ok aB w:=by
 unfold tD at ht;split at ht;.rename_i fs hu;unfold isAgg;rw[bN,run_underlying hu w];rfl
 cases ht
theorem aRN{t n:Nat}(h:(P.info? t).map (·.size)=aA n)(w:World):(sizeOf t).run P w= .ok n w:=by simp only[aG]at h;obtain⟨i,h1,h2⟩:=h;simp[sizeOf,typeInfo,h1,h2]
theorem aGQ{d:Nat}(xs ys:List Value):∀(fs:List Field) (offs:List Fld) (p:Bool),(∀f∈fs,f.name≠ "_")->(fs.mapM (aKQ P))=aA offs->KK xs ys offs=aA p→
 ∀w,(Op.eqFields (d+2) xs.toArray ys.toArray fs).run P w= .ok p w:=by
 intro fs
 induction fs with
 |nil=>intro offs p _ hm he w;simp at hm;subst hm;simp[KK]at he;subst he;simp[Op.eqFields]
 |cons f fs ih=>
  intro offs p hn hm he w;rw[List.mapM_cons]at hm;simp only[Option.bind_eq_bind,cE]at hm;obtain⟨x,hx,offs',hm',hp⟩:=hm;cases hp;unfold aKQ at hx;split at hx
  .rename_i g hg;cases hx;simp only[KK]at he;split at he
   .rename_i a b ha hb;split at he;.rename_i p1 q1 h1 h2;cases he;have r1:=FQ hg (cs:=xs.toArray) (by rw[cJ];exact ha) w;have r2:=FQ hg (cs:=ys.toArray) (by rw[cJ];exact hb) w;have r3:=JH (d:=d+1) hg h1 w;have r4:=ih offs' q1 (λ f hf=>hn f (dM _ hf)) hm' h2 w;simp only[Op.eqFields,iP (hn f sS),bN,r1,r2,r3,bG];cases p1<;>simp[r4]
    cases he
   cases he
  split at hx
  .rename_i l n hl hs;cases hx;simp only[KK]at he;split at he
   .rename_i p1 q1 h1 h2;cases he;have e:∀zs:List Value,zs.toArray.extract f.offset (f.offset+n)=((zs.drop f.offset).take n).toArray:=λ zs=>by simp
    have r0:∀zs:List Value,(part f.type zs.toArray f.offset).run P w= .ok (.agg ((zs.drop f.offset).take n).toArray) w:=λ zs=>by unfold part;rw[bN,aGP hl w,bG];simp only[if_true,bN,aRN hs,bG,e];rfl
    have r3:=aGO (d:=d) hl h1 w;have r4:=ih offs' q1 (λ f hf=>hn f (dM _ hf)) hm' h2 w;simp only[Op.eqFields,iP (hn f sS),bN,r0,r3,bG];cases p1<;>simp[r4]
   cases he
  cases hx
theorem aBU{t ty:Nat}{x y:Operand}{xc yc:List AVal}{xs ys:List Value}{fs:Array Field}{offs:List Fld}{p neg:Bool}(ho:o.op= .binOp (if neg then .neq else .eql) t x y ty)(hu:P.underlying t=aA (.struct fs))
 (h1:P.stoodInHeld t=aE) (h2:P.eqGuardType P.depth t=aE) (h3:fs.any (·.name== "_")=aE) (hm:fs.toList.mapM (aKQ P)=aA offs)
 (hx:ev x=aA (.agg xc)) (hy:ev y=aA (.agg yc)) (hxs:nE xc=aA xs) (hys:nE yc=aA ys) (he:KK xs ys offs=aA p):Good P Γ o ev get k ⟨.lit (.bool (if neg then !p else p)),k,[],[]⟩:=by
 refine .quiet (cF λ w G ρ H A a hr hrd hop=>⟨.bool (if neg then !p else p),?_,.lit⟩);have hmx:x∈o.op.operands:=by cases neg<;>simp[ho,Op.operands]
 have hmy:y∈o.op.operands:=by cases neg<;>simp[ho,Op.operands]
 have ex:a.eval x= .agg xs.toArray:=LO (hop x hmx _ hx) (by simp[SK,hxs]);have ey:a.eval y= .agg ys.toArray:=LO (hop y hmy _ hy) (by simp[SK,hys]);have hfs:P.fieldsOf t=fs:=by simp[Program.fieldsOf,hu]
 have hnm:∀f∈fs.toList,f.name≠ "_":=λ f hf he=>by have:=Array.any_eq_false'.1 h3 f (by simpa using hf);simp[he]at this
 have hrun:=aGQ (P:=P) (d:=9997) xs ys fs.toList offs p hnm hm he w;have hstr:=run_equalIn_struct (P:=P) w 9999 t xs.toArray ys.toArray (by rw[hfs];exact hu) h1;rw[hfs,hrun]at hstr;have hg:=λ op=>run_eqGuard_agg (P:=P) w op t x y xs.toArray ys.toArray h2;cases neg;.simp only[execOp,ho,ex,ey,aS,if_false,bN,hg,bG,run_eql_struct,hstr,dE]
 simp only[execOp,ho,ex,ey,if_true,bN,hg,bG,run_neq_struct,hstr,dE]
end
end Go.AM
end
section
namespace Go.Proofs.T
open Go Go.AM Go.Proofs
variable{Γ:dL}
attribute [local irreducible] jE del
def oL(n m:Nat)(c:Nat->Bool):Bool:=decide (n=m)&& !(mM (λ i=> !(c i)) n)
theorem qG{n m:Nat}{c:Nat->Bool}(h:¬n=m):oL n m c=aE:=by unfold oL;rw[decide_eq_false h];rfl
theorem qH{n m:Nat}{c:Nat->Bool}{i:Nat}(hi:i<n)(h:c i=aE):oL n m c=aE:=by unfold oL;rw[UU (i:=i) (by rw[h];rfl) hi,Bool.not_true,KV]
theorem jY{n m:Nat}{c:Nat->Bool}(h:n=m)(hc:∀i,i<n->c i=aB):oL n m c=aB:=by unfold oL;rw[decide_eq_true h,zV (λ i hi=>by rw[hc i hi];rfl)];rfl
theorem aKX{n m:Nat}{c:Nat->Bool}:oL n m c=aB↔n=m/\∀i,i<n->c i=aB:=by
 constructor
 .intro h;by_cases h1:n=m
  .refine⟨h1,λ i hi=>?_⟩
   cases hc:c i with
   |true=>rfl
   |false=>rw[qH hi hc]at h;cases h
  rw[qG h1]at h;cases h
 rintro⟨h1,h2⟩;exact jY h1 h2
def cV(x y:Int×Int):Bool:=x.1==y.1&&x.2==y.2
def cT(x y:Tk):Bool:=x.id==y.id&&(x.group==y.group&&(x.weight==y.weight&&(x.cpu==y.cpu&&(x.mask==y.mask&&(x.ready==y.ready&&(x.v==y.v&&x.r==y.r))))))
def cP(x y:Int×Int×Sp):Bool:=x.1==y.1&&(x.2.1==y.2.1&&(x.2.2.v==y.2.2.v&&(x.2.2.r==y.2.2.r&&x.2.2.floor==y.2.2.floor)))
theorem cV_iff{x y:Int×Int}:cV x y=aB↔x=y:=by obtain⟨a,b⟩:=x;obtain⟨c,d⟩:=y;simp[cV]
theorem cT_iff{x y:Tk}:cT x y=aB↔x=y:=by cases x;cases y;simp[cT]
theorem cP_iff{x y:Int×Int×Sp}:cP x y=aB↔x=y:=by obtain⟨a,b,⟨v,r,f⟩⟩:=x;obtain⟨a',b',⟨v',r',f'⟩⟩:=y;simp[cP]
theorem a8K(n m:Nat)(hn:n<=100000)(hm:m<=100000)(f g:Nat->Int):AM.Pure aD Γ 72 [.rd 1 n (λ i=>[(f i)]),.rd 1 m (λ i=>[(g i)])] (oL n m (λ i=>f i==g i)):=by
 refine bT Tryz.func72 rfl 26 rfl bB rfl λ k=>?_;obtain⟨E,eE⟩:∃E,E=oL n m (λ i=>f i==g i):=⟨_,rfl⟩;rw[<-eE];have kp:=gZ k [0,1,4,5,10,12,13,14,24];refine wl ?_;refine oT (λ ht=>?_) λ ht=>?_;.refine bV rfl ⟨_,rfl,bC ?_⟩;rw[eE,qG oO]
 refine bY (X:=Nat) rfl [0,1,4,5,10,12,13,14,24] k (λ i=>[(13,i)]) (λ i=>[]) (λ i=>i<=n/\∀j,j<i->(f j==g j)=aB) (λ i=>n-i) 0 ?_ ⟨aZ _,λ j hj=>absurd hj (bO _)⟩ ?_;.refine rR ?_;apply zN;exact pQ
 rintro i ⟨hi,hall⟩;refine rR ?_;apply zN;refine wl ?_;refine jV ⟨λ ht ht=>zN ?_⟩ ⟨λ ht ht=>zN ?_⟩ ⟨λ ht=>zN ?_⟩;.refine bV rfl ⟨_,rfl,bC ?_⟩;rw[eE,qH (i:=i) oO (by first|(rw[gB];simp at ht⊢;omega)|(simpa using ht))]
 .refine⟨i+1,⟨oO,λ j hj=>?_⟩,oO,?_⟩
  .by_cases he:j=i;.subst he;first|(simp;omega)|(simpa using ht)
   exact hall j oO
  exact pQ
 refine bV rfl ⟨_,rfl,bC ?_⟩;rw[eE,jY oO (λ j hj=>hall j oO)]
section
attribute [local go_sem] mK tR pR
theorem aFI(n m:Nat)(hn:n<=100000)(hm:m<=100000)(f g:Nat->Int×Int):AM.Pure aD Γ 71 [.rd 2 n (λ i=>mK (f i)),.rd 2 m (λ i=>mK (g i))] (oL n m (λ i=>cV (f i) (g i))):=by
 refine bT Tryz.func71 rfl 26 rfl bB rfl λ k=>?_;obtain⟨E,eE⟩:∃E,E=oL n m (λ i=>cV (f i) (g i)):=⟨_,rfl⟩;rw[<-eE];have kp:=gZ k [0,1,4,5,10,12,13,14,24];refine wl ?_;refine oT (λ ht=>?_) λ ht=>?_;.refine bV rfl ⟨_,rfl,bC ?_⟩;rw[eE,qG oO]
 refine bY (X:=Nat) rfl [0,1,4,5,10,12,13,14,24] k (λ i=>[(13,i)]) (λ i=>[]) (λ i=>i<=n/\∀j,j<i->(cV (f j) (g j))=aB) (λ i=>n-i) 0 ?_ ⟨aZ _,λ j hj=>absurd hj (bO _)⟩ ?_;.refine rR ?_;apply zN;exact pQ
 rintro i ⟨hi,hall⟩;refine rR ?_;apply zN;refine wl ?_;refine jV ⟨λ ht ht=>zN ?_⟩ ⟨λ ht ht=>zN ?_⟩ ⟨λ ht=>zN ?_⟩;.refine bV rfl ⟨_,rfl,bC ?_⟩;rw[eE,qH (i:=i) oO (by first|(rw[gB];simp[cV]at ht⊢;omega)|(simpa [cV]using ht))]
 .refine⟨i+1,⟨oO,λ j hj=>?_⟩,oO,?_⟩
  .by_cases he:j=i;.subst he;first|(simp[cV];omega)|(simpa [cV]using ht)
   exact hall j oO
  exact pQ
 refine bV rfl ⟨_,rfl,bC ?_⟩;rw[eE,jY oO (λ j hj=>hall j oO)]
theorem a8I(n m:Nat)(hn:n<=100000)(hm:m<=100000)(f g:Nat->Tk):AM.Pure aD Γ 73 [.rd 8 n (λ i=>tR (f i)),.rd 8 m (λ i=>tR (g i))] (oL n m (λ i=>cT (f i) (g i))):=by
 refine bT Tryz.func73 rfl 26 rfl bB rfl λ k=>?_;obtain⟨E,eE⟩:∃E,E=oL n m (λ i=>cT (f i) (g i)):=⟨_,rfl⟩;rw[<-eE];have kp:=gZ k [0,1,4,5,10,12,13,14,24];refine wl ?_;refine oT (λ ht=>?_) λ ht=>?_;.refine bV rfl ⟨_,rfl,bC ?_⟩;rw[eE,qG oO]
 refine bY (X:=Nat) rfl [0,1,4,5,10,12,13,14,24] k (λ i=>[(13,i)]) (λ i=>[]) (λ i=>i<=n/\∀j,j<i->(cT (f j) (g j))=aB) (λ i=>n-i) 0 ?_ ⟨aZ _,λ j hj=>absurd hj (bO _)⟩ ?_;.refine rR ?_;apply zN;exact pQ
 rintro i ⟨hi,hall⟩;refine rR ?_;apply zN;refine wl ?_;refine jV ⟨λ ht ht=>zN ?_⟩ ⟨λ ht ht=>zN ?_⟩ ⟨λ ht=>zN ?_⟩;.refine bV rfl ⟨_,rfl,bC ?_⟩;rw[eE,qH (i:=i) oO (by first|(rw[gB];simp[cT]at ht⊢;omega)|(simpa [cT]using ht))]
 .refine⟨i+1,⟨oO,λ j hj=>?_⟩,oO,?_⟩
  .by_cases he:j=i;.subst he;first|(simp[cT];omega)|(simpa [cT]using ht)
   exact hall j oO
  exact pQ
 refine bV rfl ⟨_,rfl,bC ?_⟩;rw[eE,jY oO (λ j hj=>hall j oO)]
def eP(x y:Int×Int×Sp):Bool:=x.1==y.1&&(x.2.1==y.2.1&&((x.2.2.v==y.2.2.v&&(x.2.2.r==y.2.2.r&&(x.2.2.floor==y.2.2.floor&&aB)))&&aB))
theorem bFD(x y:Int×Int×Sp):eP x y=cP x y:=by simp[eP,cP]
theorem ZT{o:Oper}{ev:Operand->Option AVal}{get:Nat->Option Blk}{k ty:Nat}{x y:Operand}{u v:Int×Int×Sp}(ho:o.op= .binOp .neq 93 x y ty)(hx:ev x=aA (.agg (pR u)))(hy:ev y=aA (.agg (pR v))):
 AM.Good aD Γ o ev get k ⟨.lit (.bool (!(cP u v))),k,[],[]⟩:=by rw[<-bFD];exact aBU (neg:=aB) (offs:=[.one 0 0,.one 1 0,.sub 2 3 [(0,0),(1,0),(2,0)]]) ho Tryz.underlying93 iF iF iF iF hx hy rfl rfl rfl
theorem a8J(n m:Nat)(hn:n<=100000)(hm:m<=100000)(f g:Nat->Int×Int×Sp):AM.Pure aD Γ 74 [.rd 5 n (λ i=>pR (f i)),.rd 5 m (λ i=>pR (g i))] (oL n m (λ i=>cP (f i) (g i))):=by
 refine bT Tryz.func74 rfl 26 rfl bB rfl λ k=>?_;obtain⟨E,eE⟩:∃E,E=oL n m (λ i=>cP (f i) (g i)):=⟨_,rfl⟩;rw[<-eE];have kp:=gZ k [0,1,4,5,10,12,13,14,24];refine wl ?_;refine oT (λ ht=>?_) λ ht=>?_;.refine bV rfl ⟨_,rfl,bC ?_⟩;rw[eE,qG oO]
 refine bY (X:=Nat) rfl [0,1,4,5,10,12,13,14,24] k (λ i=>[(13,i)]) (λ i=>[]) (λ i=>i<=n/\∀j,j<i->(cP (f j) (g j))=aB) (λ i=>n-i) 0 ?_ ⟨aZ _,λ j hj=>absurd hj (bO _)⟩ ?_;.refine rR ?_;apply zN;exact pQ
 rintro i ⟨hi,hall⟩;refine rR ?_;apply zN;obtain⟨z,ez⟩:∃z,z=cP (f i) (g i):=⟨_,rfl⟩;refine gW rfl ?_;(refine pN rfl [0,1,4,5,10,12,13,14,24] rfl rfl (λ K hK=>?_));refine sT ?_;(refine hK _ _ _ _ (λ hx=>?_));clear hx hK;refine sT ?_;clear K;refine gW rfl ?_;refine tK rfl _ rfl (λ ht=>?_) (λ ht=>?_)
 .simp only[nf]at ht;refine AB rfl ?_;refine rR ?_;apply zN;refine gW rfl ?_;refine AC rfl ?_;refine gW rfl ?_;(refine pN rfl [0,1,4,5,10,12,13,14,24] rfl rfl (λ K hK=>?_));refine sT ?_;(refine hK _ _ _ _ (λ hx=>?_));clear hx hK;refine sT ?_;clear K;refine gW rfl ?_;refine dl [.raw (aA 24) ⟨.lit (.bool (!z)),k,[],[]⟩] ?_;refine iE ?_ ?_;.rw[ez];exact ZT rfl rfl rfl
  refine wl ?_;refine oT (λ ht=>?_) λ ht=>?_;.refine bV rfl ⟨_,rfl,bC ?_⟩;rw[eE,qH (i:=i) oO (by rw[<-ez];simp_all)]
  refine⟨i+1,⟨oO,λ j hj=>?_⟩,oO,?_⟩
  .by_cases he:j=i;.subst he;rw[<-ez];simp_all
   exact hall j oO
  exact pQ
 simp only[nf]at ht;refine FK rfl ?_;refine rR ?_;apply zN;refine wl ?_;refine cA ?_;refine bV rfl ⟨_,rfl,bC ?_⟩;rw[eE,jY oO (λ j hj=>hall j oO)]
end
structure DE where
 (n0 n1 n2 n3 n4 n5:Nat)
 (ck cu wg:Nat->Int×Int)
 (gn:Nat->Int)
 (tk:Nat->Tk)
 (sp:Nat->Int×Int×Sp)
def DE.f0 (d:DE)(i:Nat):List AVal:=[.lit (.int .i64 (d.ck i).1),.lit (.int .i64 (d.ck i).2)]
def DE.f1 (d:DE)(i:Nat):List AVal:=[.lit (.int .i64 (d.cu i).1),.lit (.int .i64 (d.cu i).2)]
def DE.f2 (d:DE)(i:Nat):List AVal:=[.lit (.int .i64 (d.wg i).1),.lit (.int .i64 (d.wg i).2)]
def DE.f3 (d:DE)(i:Nat):List AVal:=[.lit (.int .i64 (d.gn i))]
def DE.f4 (d:DE)(i:Nat):List AVal:=[.lit (.int .i64 (d.tk i).id),.lit (.int .i64 (d.tk i).group),.lit (.int .i64 (d.tk i).weight),.lit (.int .i64 (d.tk i).cpu),.lit (.int .u64 (d.tk i).mask),.lit (.bool (d.tk i).ready),.lit (.int .u64 (d.tk i).v),.lit (.int .u32 (d.tk i).r)]
def DE.f5 (d:DE)(i:Nat):List AVal:=[.lit (.int .i64 (d.sp i).1),.lit (.int .i64 (d.sp i).2.1),.lit (.int .u64 (d.sp i).2.2.v),.lit (.int .u32 (d.sp i).2.2.r),.lit (.int .u64 (d.sp i).2.2.floor)]
attribute [go_sem] DE.f0 DE.f1 DE.f2 DE.f3 DE.f4 DE.f5
def DE.cells (d:DE):List AVal:=[.rd 2 d.n0 d.f0,.rd 2 d.n1 d.f1,.rd 2 d.n2 d.f2,.rd 1 d.n3 d.f3,.rd 8 d.n4 d.f4,.rd 5 d.n5 d.f5]
def DE.size (d:DE):Nat:=d.n0+d.n1+d.n2+d.n3+d.n4+d.n5
attribute [go_sem] DE.cells
def eqD(d e:DE):Bool:=oL d.n0 e.n0 (λ i=>cV (d.ck i) (e.ck i))&&(oL d.n1 e.n1 (λ i=>cV (d.cu i) (e.cu i))&&(oL d.n2 e.n2 (λ i=>cV (d.wg i) (e.wg i))&&(oL d.n3 e.n3 (λ i=>d.gn i==e.gn i)&&(oL d.n4 e.n4 (λ i=>cT (d.tk i) (e.tk i))&&oL d.n5 e.n5 (λ i=>cP (d.sp i) (e.sp i))))))
theorem aKW(d e:DE)(hd:d.size<=100000)(he:e.size<=100000):AM.Pure aD Γ 23 [.agg d.cells,.agg e.cells] (eqD d e):=by
 unfold DE.size at hd he;refine bT Tryz.func23 rfl 45 rfl bB rfl λ k=>?_;obtain⟨E,eE⟩:∃E,E=eqD d e:=⟨_,rfl⟩;rw[<-eE];obtain⟨z0,h0⟩:∃z,z=oL d.n0 e.n0 (λ i=>cV (d.ck i) (e.ck i)):=⟨_,rfl⟩;obtain⟨z1,h1⟩:∃z,z=oL d.n1 e.n1 (λ i=>cV (d.cu i) (e.cu i)):=⟨_,rfl⟩;obtain⟨z2,h2⟩:∃z,z=oL d.n2 e.n2 (λ i=>cV (d.wg i) (e.wg i)):=⟨_,rfl⟩;obtain⟨z3,h3⟩:∃z,z=oL d.n3 e.n3 (λ i=>d.gn i==e.gn i):=⟨_,rfl⟩;obtain⟨z4,h4⟩:∃z,z=oL d.n4 e.n4 (λ i=>cT (d.tk i) (e.tk i)):=⟨_,rfl⟩;obtain⟨z5,h5⟩:∃z,z=oL d.n5 e.n5 (λ i=>cP (d.sp i) (e.sp i)):=⟨_,rfl⟩;rw[eqD,<-h0,<-h1,<-h2,<-h3,<-h4,<-h5]at eE;have kp:=gZ k [0,1,2,3,4];refine wl ?_;refine cA ?_;refine cl [.ret z0,.ret z1,.ret z2,.ret z3,.ret z4,.ret z5] ?_;refine bBL (zs ?_) ⟨⟨λ hg=>⟨?_⟩⟩⟩ ⟨⟨λ hg hg=>⟨?_⟩⟩⟩ ⟨⟨λ hg hg hg=>⟨?_⟩⟩⟩ ⟨⟨λ hg hg hg hg=>⟨?_⟩⟩⟩ ⟨⟨λ hg hg hg hg hg=>⟨?_⟩⟩⟩ ⟨⟨λ hg hg hg hg hg=>⟨?_⟩⟩⟩ ⟨⟨λ hg hg hg hg hg=>⟨?_⟩⟩⟩ ⟨⟨λ hg hg hg hg=>⟨?_⟩⟩⟩ ⟨⟨λ hg hg hg=>⟨?_⟩⟩⟩ ⟨⟨λ hg hg=>⟨?_⟩⟩⟩ ⟨⟨λ hg=>⟨?_⟩⟩⟩;all_goals(first|(rw[h0];exact aFI d.n0 e.n0 oO oO d.ck e.ck)|(rw[h1];exact aFI d.n1 e.n1 oO oO d.cu e.cu)|(rw[h2];exact aFI d.n2 e.n2 oO oO d.wg e.wg)|(rw[h3];exact a8K d.n3 e.n3 oO oO d.gn e.gn)|(rw[h4];exact a8I d.n4 e.n4 oO oO d.tk e.tk)|(rw[h5];exact a8J d.n5 e.n5 oO oO d.sp e.sp)|skip)
 all_goals(refine bV rfl ⟨_,rfl,bC ?_⟩;rw[eE];simp_all)
theorem a2B(n:Nat)(hn:n<=100000)(g:Nat->Int)(x:Int):AM.Pure aD Γ 126 [.rd 1 n (λ i=>[(g i)]),x] (idx (λ i=>decide (x=g i)) n):=by
 obtain⟨z,ez⟩:∃z,z=idx (λ i=>decide (x=g i)) n:=⟨_,rfl⟩;rw[<-ez];refine bT Tryz.func126 rfl 19 rfl bB rfl λ k=>?_;have kp:=gZ k [0,1,4,5,7,8,9,16];refine fC ?_;refine cA ?_;refine bY (X:=Nat) rfl [0,1,4,5,7,8,9,16] k (λ i=>[(8,i)]) (λ i=>[]) (λ i=>i<=n/\∀j,j<i->¬x=g j) (λ i=>n-i) 0 ?_ ⟨aZ _,λ j hj=>absurd hj (bO _)⟩ ?_;.refine fJ ?_;apply zN;exact gM
 rintro i ⟨hi,hall⟩;have hall':∀j,j<i->decide (x=g j)=aE:=λ j hj=>decide_eq_false (hall j hj);refine fJ ?_;apply zN;by_cases hlt:i<n
 .by_cases he:x=g i
  .obtain⟨y,ey⟩:∃y,y=g i:=⟨_,rfl⟩;have ey':=ey.symm;have hxy:x=y:=he.trans ey';have hz:z=(i:Int):=by rw[ez,idx,zC hall' (decide_eq_true he) hlt]
   have uU:=tZ hlt ey' hxy;refine fC ?_;refine oU ⟨λ ht ht=>zN ?_⟩;refine bV rfl ⟨_,rfl,bC ?_⟩;rw[hz]
  have he':¬x=g i:=he;have uU:=zA hlt he';refine fC ?_;refine oU ⟨λ ht ht=>zN ?_⟩;refine⟨i+1,⟨oO,λ j hj=>?_⟩,oO,?_⟩
  .by_cases hj2:j=i;.subst hj2;exact he
   exact hall j oO
  rw[(oO:((i+1:Nat):Int)=(i:Int)+1)];exact gM
 have hin:i=n:=oO;subst hin;have hz:z= -1:=by rw[ez,idx,wU hall']
 refine fC ?_;refine dI λ ht=>?_;refine bV rfl ⟨_,rfl,bC ?_⟩;rw[hz]
theorem aGY(n:Nat)(hn:n<=100000)(g:Nat->Int)(x:Int):AM.Pure aD Γ 65 [.rd 1 n (λ i=>[(g i)]),x] (mM (λ i=>decide (x=g i)) n):=by
 have h:=a2B (Γ:=Γ) n hn g x;rw[<-ME];obtain⟨z,ez⟩:∃z,z=idx (λ i=>decide (x=g i)) n:=⟨_,rfl⟩;rw[<-ez]at h⊢
 refine bT Tryz.func65 rfl 9 rfl bB rfl λ k=>?_;have kp:=gZ k [0,1,4];refine fC ?_;refine cA ?_;refine pP [.ret z] ?_;refine cA ?_;all_goals(try exact h)
 refine fC ?_;refine cA ?_;refine bV rfl ⟨_,rfl,bC ?_⟩;rfl
theorem aRW(x t:Tk):AM.Pure aD Γ 67 [.agg (tR x),.rp (tR t)] (decide (x.id=t.id)):=by unfold tR;refine bT Tryz.func67 rfl 9 rfl bB rfl λ k=>?_;have kp:=gZ k [0,1,2,3];refine fC ?_;refine cA ?_;refine bV rfl ⟨_,rfl,bC ?_⟩;rfl
theorem aUS(n:Nat)(hn:n<=100000)(g:Nat->Tk)(t:Tk):AM.Pure aD Γ 125 [.rd 8 n (λ i=>tR (g i)),.fn 67 [.rp (tR t)]] (idx (λ i=>decide ((g i).id=t.id)) n):=by
 obtain⟨z,ez⟩:∃z,z=idx (λ i=>decide ((g i).id=t.id)) n:=⟨_,rfl⟩;rw[<-ez];simp only[tR];refine bT Tryz.func125 rfl 19 rfl bB rfl λ k=>?_;have kp:=gZ k [0,1,4,5,7,8,9,16];refine fC ?_;refine cA ?_;refine bY (X:=Nat) rfl [0,1,4,5,7,8,9,16] k (λ i=>[(8,i)]) (λ i=>[]) (λ i=>i<=n/\∀j,j<i->¬(g j).id=t.id) (λ i=>n-i) 0 ?_ ⟨aZ _,λ j hj=>absurd hj (bO _)⟩ ?_;.refine fJ ?_;apply zN;exact gM
 rintro i ⟨hi,hall⟩;have hall':∀j,j<i->decide ((g j).id=t.id)=aE:=λ j hj=>decide_eq_false (hall j hj);refine fJ ?_;apply zN;by_cases hlt:i<n
 .have hc:=aRW (Γ:=Γ) (g i) t;obtain⟨y,ey⟩:∃y,y=decide ((g i).id=t.id):=⟨_,rfl⟩;rw[<-ey]at hc;simp only[tR]at hc;have uU:=hlt;refine fC ?_;refine dI λ ht=>?_;refine pP [.ret y] ?_;refine cA ?_
  cases y with
  |true=>
   have hz:z=(i:Int):=by rw[ez,idx,zC hall' ey.symm hlt]
   refine fC ?_;refine dI λ ht=>?_;refine bV rfl ⟨_,rfl,bC ?_⟩;rw[hz]
  |false=>
   refine fC ?_;refine dI λ ht=>?_;refine⟨i+1,⟨oO,λ j hj=>?_⟩,oO,?_⟩
   .by_cases hj2:j=i;.subst hj2;exact of_decide_eq_false ey.symm
    exact hall j oO
   rw[(oO:((i+1:Nat):Int)=(i:Int)+1)];exact gM
 have hin:i=n:=oO;subst hin;have hz:z= -1:=by rw[ez,idx,wU hall']
 refine fC ?_;refine dI λ ht=>?_;refine bV rfl ⟨_,rfl,bC ?_⟩;rw[hz]
theorem aCF(n:Nat)(hn:n<=100000)(g:Nat->Tk)(t:Tk):AM.Pure aD Γ 66 [.rd 8 n (λ i=>tR (g i)),.fn 67 [.rp (tR t)]] (mM (λ i=>decide ((g i).id=t.id)) n):=by
 have h:=aUS (Γ:=Γ) n hn g t;rw[<-ME];obtain⟨z,ez⟩:∃z,z=idx (λ i=>decide ((g i).id=t.id)) n:=⟨_,rfl⟩;rw[<-ez]at h⊢
 refine bT Tryz.func66 rfl 9 rfl bB rfl λ k=>?_;have kp:=gZ k [0,1,4];refine fC ?_;refine cA ?_;refine pP [.ret z] ?_;refine cA ?_;all_goals(try exact h)
 refine fC ?_;refine cA ?_;refine bV rfl ⟨_,rfl,bC ?_⟩;rfl
def tH(d:DE)(t:Tk):Bool:=mM (λ i=>decide (t.id=d.gn i)) d.n3||mM (λ i=>decide ((d.tk i).id=t.id)) d.n4
theorem a6C(d:DE)(hd:d.size<=100000)(t:Tk):AM.Pure aD Γ 64 [.agg (tR t),.rp d.cells] (tH d t):=by
 unfold DE.size at hd;have h1:AM.Pure aD Γ 65 [.rd 1 d.n3 d.f3,t.id] (mM (λ i=>decide (t.id=d.gn i)) d.n3):=aGY d.n3 oO d.gn t.id;have h2:AM.Pure aD Γ 66 [.rd 8 d.n4 d.f4,.fn 67 [.rp (tR t)]] (mM (λ i=>decide ((d.tk i).id=t.id)) d.n4):=aCF d.n4 oO d.tk t;obtain⟨x,ex⟩:∃x,x=mM (λ i=>decide (t.id=d.gn i)) d.n3:=⟨_,rfl⟩;obtain⟨y,ey⟩:∃y,y=mM (λ i=>decide ((d.tk i).id=t.id)) d.n4:=⟨_,rfl⟩;rw[tH,<-ex,<-ey];rw[<-ex]at h1;rw[<-ey]at h2;simp only[tR]at h2⊢
 refine bT Tryz.func64 rfl 15 rfl bB rfl λ k=>?_;refine gW rfl ?_;(refine pN rfl [0,1,2,3] rfl rfl (λ K hK=>?_));simp-dsimp-implicitDefEqProofs (disch:=omega)only[go_sem,gY,eq_self,↓reduceIte];(refine hK _ _ _ _ (λ hx=>?_));clear hx hK;simp-dsimp-implicitDefEqProofs (disch:=omega)only[go_sem,gY,eq_self,↓reduceIte];clear K;refine gL (gK (k) (by simp-dsimp-implicitDefEqProofs (disch:=omega)only[go_sem,gY,eq_self,↓reduceIte];rfl) rfl) ?_;simp-dsimp-implicitDefEqProofs only[pS,jA,go_sem,eq_self,↓reduceIte]
 cases x with
 |true=>have kp:=gZ k [0,1,2,3];refine fC ?_;refine cA ?_;refine pP [.ret aB] ?_;refine cA ?_;refine bV rfl ⟨_,rfl,bC ?_⟩;rfl
 |false=>have kp:=gZ k [0,1,2,3];refine fC ?_;refine cA ?_;refine pP [.ret aE,.ret y] ?_;refine cA ?_;refine bV rfl ⟨_,rfl,bC ?_⟩;rfl
attribute [local go_sem] tR
theorem aVX(k D id E:Nat)(hD:D<k)(hid:id<k)(hne:D≠id)(hE:E<k)(hDE:D≠E)(hEi:E≠id)(l0:List (Int×Int×Sp))(hl0:l0.length<=10000)(a b:St)(g n m p:Nat)(hm:m=n)(hp:p=n)(hn:n<=1000)(c1 c2 c3 c4 c5:AVal)(e1:∀p,iM p c1=aB)(e2:∀p,iM p c2=aB)(e3:∀p,iM p c3=aB)(e4:∀p,iM p c4=aB)(e5:∀p,iM p c5=aB)(L:List (Int×Int×Sp))(eL:L=l0++gH (mA a b g) n):
 Tr aD Γ 59 k [.rd 3 m (sf a g),.rd 3 p (sf b g),.fn 60 [.ptr D 0 0,.ptr E 0 0]] (cL id 5 (l0.map pR) [(D,⟨6,aE,[[c1,c2,c3,c4,c5,dG id (l0.map pR)]]⟩),(E,⟨1,aB,[[g]]⟩)]) (λ k1 r1 H1=>k1=k+1/\r1= .tup []/\H1=cL k 5 (L.map pR) [(D,⟨6,aE,[[c1,c2,c3,c4,c5,dG k (L.map pR)]]⟩),(E,⟨1,aB,[[g]]⟩)]):=by subst hm hp eL;exact a3A k D hD id hid hne E hE hDE hEi l0 hl0 a b g _ hn c1 c2 c3 c4 c5 e1 e2 e3 e4 e5
theorem bAE{loc:aO}{D E i0 id sz sz':Nat}{l l':List (List AVal)}{B B' C:Blk}(h1:AM.look loc D=aC)(h2:AM.look loc id=aC)(h3:AM.look loc i0=aC)(h4:AM.look loc E=aC):rL loc (cL i0 sz l [(D,B),(E,C)]) (cL id sz' l' [(D,B'),(E,C)]):=λ i hi=>by
 by_cases hD:i=D;.subst hD;exact h1
 by_cases hI:i=id;.subst hI;exact h2
 by_cases hJ:i=i0;.subst hJ;exact h3
 by_cases hE:i=E;.subst hE;exact h4
 exfalso;rcases hi with h|h;.cases l<;>simp[cL,eQ,AM.look,Ne.symm hD,Ne.symm hJ,Ne.symm hE]at h
 cases l'<;>simp[cL,eQ,AM.look,Ne.symm hD,Ne.symm hI,Ne.symm hE]at h
theorem OZ(a b:St)(n:Nat):∀g,(gH (λ g=>gH (mA a b g) n) g).length<=g*n:=kR λ g=>by have:=kR (aBW a b g) n;omega
theorem aXI(a b:St)(hns:a.ns<=12)(gns:b.ns=a.ns)(hnk:a.nk<=12)(hsp:∀g,g<a.ns->a.nsp g=a.nk)(hsp':∀g,g<a.ns->b.nsp g=a.nk)(k:Nat)(R:List AVal)(n0 n1 n2 n3 n4:Nat)(f0 f1 f2 f3 f4:Nat->List AVal)
 (hR:R=[.rd 2 n0 f0,.rd 2 n1 f1,.rd 2 n2 f2,.rd 1 n3 f3,.rd 8 n4 f4,rows 5 ((gH (λ g=>gH (mA a b g) a.nk) a.ns).map pR)]):
 W aD Γ 139 k (hY (gN aLR) [1,1,1,1,1,1,1,1,1,1,1,1,1]) (EQ aD aLR λ _ r1 _=>VLe r1 (.tup [.agg R,(0:Int)])) (k+11) [(10,.ptr (k+3) 0 0),(5,(0:Int)),(4,.ptr (k+2) 0 0),(3,.ptr (k+1) 0 0),(2,.ptr k 0 0)] [(k+2,⟨6,aB,[[(),(),(),(),(),()]]⟩),(k+1,⟨7,aB,[b.cells]⟩),(k,⟨7,aB,[a.cells]⟩),(k+3,⟨6,aE,[[.rd 2 n0 f0,.rd 2 n1 f1,.rd 2 n2 f2,.rd 1 n3 f3,.rd 8 n4 f4,()]]⟩)]:=by
 obtain⟨n5,f5,e5⟩:∃n f,rows 5 ((gH (λ g=>gH (mA a b g) a.nk) a.ns).map pR)= .rd 5 n f:=⟨_,_,rfl⟩;rw[e5]at hR;refine a4X rfl [0,1,2,3,4,5,6,7,9,10,11,13,15,16,17,18,19,20,28,30,31,32,33,39,64,65,66,67,76,77,78,79,95,107,109,122,123,124,125] (k+12) [] [(k+3,⟨6,aE,[[.rd 2 n0 f0,.rd 2 n1 f1,.rd 2 n2 f2,.rd 1 n3 f3,.rd 8 n4 f4,.rd 5 n5 f5]]⟩),(k+2,⟨6,aB,[[(),(),(),(),(),()]]⟩),(k+1,⟨7,aB,[b.cells]⟩),(k,⟨7,aB,[a.cells]⟩)] ?_ ?_
 .have kp:=gZ k [0,1,2,3,4,5,6,7,9,10,11,13,15,16,17,18,19,20,28,30,31,32,33,39,64,65,66,67,76,77,78,79,95,107,109,122,123,124,125];refine wl ?_;refine cA ?_;refine bY (X:=Nat) rfl [0,1,2,3,4,5,6,7,9,10,11,13,15,16,17,18,19,20,28,30,31,32,33,39,64,65,66,67,76,77,78,79,95,107,109,122,123,124,125] (k+12) (λ i=>[(124,i)]) (λ i=>cL (k+11) 5 ((gH (λ g=>gH (mA a b g) a.nk) i).map pR) [(k+2,⟨6,aB,[[(),(),(),(),(),()]]⟩),(k+1,⟨7,aB,[b.cells]⟩),(k,⟨7,aB,[a.cells]⟩),(k+3,⟨6,aE,[[.rd 2 n0 f0,.rd 2 n1 f1,.rd 2 n2 f2,.rd 1 n3 f3,.rd 8 n4 f4,dG (k+11) ((gH (λ g=>gH (mA a b g) a.nk) i).map pR)]]⟩)]) (λ i=>i<=a.ns) (λ i=>a.ns-i) 0 ?_ (aZ _) ?_;.rw[xV,bQ];refine rR ?_;apply zN;exact pQ
  intro g hg;have hfl:=OZ a b a.nk g;have hgn:g*a.nk<=12*12:=Nat.mul_le_mul oO hnk;obtain⟨l,el,hl⟩:∃x,x=gH (λ g=>gH (mA a b g) a.nk) g/\x.length<=144:=⟨_,rfl,oO⟩;obtain⟨m,em⟩:∃x,x=gH (λ g=>gH (mA a b g) a.nk) (g+1):=⟨_,rfl⟩;have es:m=l++gH (mA a b g) a.nk:=by rw[em,vD,<-el]
  rw[<-el];refine rR ?_;apply zN;refine wl ?_;refine oT (λ ht=>?_) λ ht=>?_
  .refine gL (nV (k1:=k+13) (fr1:=[(19,.ptr (k+12) 0 0),(20,.rd 3 (b.nsp g) (sf b g)),(123,.lit (.int .i64 (b.ns:Int))),(122,.rd 1 b.ns (YK b)),(10,.ptr (k+3) 0 0),(5,.lit (.int .i64 0)),(4,.ptr (k+2) 0 0),(3,.ptr (k+1) 0 0),(2,.ptr k 0 0),(124,.lit (.int .i64 (g:Int)))]) (H1:=(k+2,⟨6,aB,[[(),(),(),(),(),()]]⟩)::(k+1,⟨7,aB,[b.cells]⟩)::(k,⟨7,aB,[a.cells]⟩)::cL (k+11) 5 (l.map pR) [(k+3,⟨6,aE,[[.rd 2 n0 f0,.rd 2 n1 f1,.rd 2 n2 f2,.rd 1 n3 f3,.rd 8 n4 f4,dG (k+11) (l.map pR)]]⟩),(k+12,⟨1,aB,[[g]]⟩)]) wL) ?_;refine cl [.far (.tup []) (k+14) [(k+2,⟨6,aB,[[(),(),(),(),(),()]]⟩),(k+1,⟨7,aB,[b.cells]⟩),(k,⟨7,aB,[a.cells]⟩)] (cL (k+11) 5 (l.map pR) [(k+3,⟨6,aE,[[.rd 2 n0 f0,.rd 2 n1 f1,.rd 2 n2 f2,.rd 1 n3 f3,.rd 8 n4 f4,dG (k+11) (l.map pR)]]⟩),(k+12,⟨1,aB,[[g]]⟩)]) (cL (k+13) 5 (m.map pR) [(k+3,⟨6,aE,[[.rd 2 n0 f0,.rd 2 n1 f1,.rd 2 n2 f2,.rd 1 n3 f3,.rd 8 n4 f4,dG (k+13) (m.map pR)]]⟩),(k+12,⟨1,aB,[[g]]⟩)])] ?_;refine CM (zs ?_) (zs ?_) (zs ?_) (zs ?_);.exact λ _=>rfl
   .exact bAE (by simp only[AM.look];repeat(rw[iN oO])) (by simp only[AM.look];repeat(rw[iN oO])) (by simp only[AM.look];repeat(rw[iN oO])) (by simp only[AM.look];repeat(rw[iN oO]))
   .exact aVX (k+13) (k+3) (k+11) (k+12) oO oO oO oO oO oO l oO a b g a.nk (a.nsp g) (b.nsp g) (hsp g oO) (hsp' g oO) oO _ _ _ _ _ (λ _=>rfl) (λ _=>rfl) (λ _=>rfl) (λ _=>rfl) (λ _=>rfl) m es
   refine wl ?_;refine cA ?_;refine⟨g+1,oO,oO,?_⟩;rw[<-em];refine rR ?_;apply zN;exact DZ (k+13) (k+11) wL
  have hgn:g=a.ns:=oO;subst hgn;rw[el];exact uG (id:=k+11) (s:=5) (D:=k+3) (sz:=6) (l:=((gH (λ g=>gH (mA a b g) a.nk) a.ns).map pR)) (row:=[.rd 2 n0 f0,.rd 2 n1 f1,.rd 2 n2 f2,.rd 1 n3 f3,.rd 8 n4 f4,dG (k+11) ((gH (λ g=>gH (mA a b g) a.nk) a.ns).map pR)]) 5 (.rd 5 n5 f5) [(10,.ptr (k+3) 0 0),(5,(0:Int)),(4,.ptr (k+2) 0 0),(3,.ptr (k+1) 0 0),(2,.ptr k 0 0)] [(k+2,⟨6,aB,[[(),(),(),(),(),()]]⟩),(k+1,⟨7,aB,[b.cells]⟩),(k,⟨7,aB,[a.cells]⟩)] oO sL rfl sL (by rw[e5];exact bJ _) sL sL sL
 refine rR ?_;apply zN;have kp:=gZ k [0,1,2,3,4,5,6,7,9,10,11,13,15,16,17,18,19,20,28,30,31,32,33,39,64,65,66,67,76,77,78,79,95,107,109,122,123,124,125];refine wl ?_;refine cA ?_;refine cR (zN ?_);rw[hR];exact bJ _
theorem bAW{P:Program}{nt kb k id d1 d2 t1 t2:Nat}{fr:Fr}{H:aO}{Q:AQ}{c:Code}{p:List Nat}{x:Operand}{p1 p2:String}{a1 a2:Array Edge}{ops:Array Oper}
 (hc:hY c p= .region id ops aE) (hops:ops.toList=[⟨aA d1,.next x aE,t1,p1,a1,aC⟩,⟨aA d2,.extract (.tmp d1) 0,t2,p2,a2,aC⟩]) (hd:mQ nt ops=aB) {rds:List Nat} {outs:Out->Prop}
 (hN:GoodN P Γ ⟨aA d1,.next x aE,t1,p1,a1,aC⟩ (kV Γ fr) (AM.look H) k rds outs)
 (h:∀out,outs out->∃bb vs,out.v= .tup (.lit (.bool bb)::vs)/\(Q .normal k (jE (jE fr (aA d1) out.v) (aA d2) (.lit (.bool bb))) (lK H out.upd))):W P Γ nt kb (hY c p) Q k fr H:=by
 rw[hc];refine UX hops hd rfl hN λ out ho=>?_;obtain⟨bb,vs,e,hq⟩:=h out ho;refine .inr ⟨rfl,⟨.lit (.bool bb),k,[],[]⟩,sM ?_,λ _=>hq⟩;have e1:kV Γ (jE fr (aA d1) out.v) (.tmp d1)=aA (.tup (.lit (.bool bb)::vs)):=by show AM.look (jE fr (aA d1) out.v) d1=_;rw[uD,iP rfl,e]
 rw[a6A,e1];rfl
theorem bAD{loc:aO}{id sz sz':Nat}{l l':List (List AVal)}(h:AM.look loc id=aC):rL loc (cL id sz l []) (cL id sz' l' []):=λ i hi=>by
 by_cases hI:i=id;.subst hI;exact h
 exfalso;rcases hi with h|h;.cases l<;>simp[cL,eQ,AM.look,Ne.symm hI]at h
 cases l'<;>simp[cL,eQ,AM.look,Ne.symm hI]at h
theorem aYA{id:Nat}{l m:List Int}(h:l.length=m.length):dG id (l.map nR)=dG id (m.map nR):=by cases l<;>cases m<;>simp_all [dG]
theorem a1T{a b:St}(i:Nat):(LF a b i).length<=a.nt:=by have h1:(LF a b i).length<=(oK a a.nt).length:=bKU _ _;simpa [oK]using h1
attribute [local go_sem] nR a2A
theorem aXJ(a b:St)(ha:IdOk a)(hb:IdOk b)(hnt:a.nt<=1000)(hns:a.ns<=12)(gns:b.ns=a.ns)(hnk:a.nk<=12)(hsp:∀g,g<a.ns->a.nsp g=a.nk)(hsp':∀g,g<a.ns->b.nsp g=a.nk)(k:Nat)(R:List AVal)(n0 n1 n2 n4:Nat)(f0 f1 f2 f4:Nat->List AVal)
 (hR:R=[.rd 2 n0 f0,.rd 2 n1 f1,.rd 2 n2 f2,rows 1 ((yW a b).map nR),.rd 8 n4 f4,rows 5 ((gH (λ g=>gH (mA a b g) a.nk) a.ns).map pR)]):
 W aD Γ 139 k (hY (gN aLR) [0,0,1,1,1,1,1,1,1,1,1,1,1]) (mX (W aD Γ 139 k (hY (gN aLR) [1,0,1,1,1,1,1,1,1,1,1,1,1]) (mX (W aD Γ 139 k (hY (gN aLR) [1,1,1,1,1,1,1,1,1,1,1,1]) (EQ aD aLR λ _ r1 _=>VLe r1 (.tup [.agg R,(0:Int)]))) (EQ aD aLR λ _ r1 _=>VLe r1 (.tup [.agg R,(0:Int)])))) (mX (W aD Γ 139 k (hY (gN aLR) [1,1,1,1,1,1,1,1,1,1,1,1]) (EQ aD aLR λ _ r1 _=>VLe r1 (.tup [.agg R,(0:Int)]))) (EQ aD aLR λ _ r1 _=>VLe r1 (.tup [.agg R,(0:Int)])))) (k+9) [(11,.mp (k+7)),(10,.ptr (k+3) 0 0),(5,(0:Int)),(4,.ptr (k+2) 0 0),(3,.ptr (k+1) 0 0),(2,.ptr k 0 0)] [(k+7,⟨3,aB,DU (LF a b b.nt) a.nt⟩),(k+2,⟨6,aB,[[(),(),(),(),(),()]]⟩),(k+1,⟨7,aB,[b.cells]⟩),(k,⟨7,aB,[a.cells]⟩),(k+3,⟨6,aE,[[.rd 2 n0 f0,.rd 2 n1 f1,.rd 2 n2 f2,(),.rd 8 n4 f4,()]]⟩)]:=by
 obtain⟨l,el⟩:∃x,x=LF a b b.nt:=⟨_,rfl⟩;have hst:(l.map (·.2.2)).Nodup:=by rw[el];exact aFJ
 have hold:∀e∈l,e.2.2<a.nt:=by rw[el];exact a1S
 have hlen:l.length<=1000:=by rw[el];have:=a1T (a:=a) (b:=b) b.nt;omega
 have hgo:l.map (·.1)=yW a b:=by rw[el];exact aAQ
 rw[<-el];have kp:=gZ k [0,1,2,3,4,5,6,7,9,10,11,13,15,16,17,18,19,20,28,30,31,32,33,39,64,65,66,67,76,77,78,79,95,107,109,122,123,124,125];refine cl [.raw (aA 107) ⟨.it (k+9),k+10,[(k+9,aA ⟨3,aE,KF (k+7) a.nt [] a.nt⟩)],[k+7]⟩] ?_;refine iE ?_ ?_;.exact NT (l:=l) (clock:=a.nt) rfl aJR rfl (by simp-dsimp-implicitDefEqProofs only[go_sem,aM,Flt.row,eq_self,↓reduceIte];rfl)
 refine AC rfl ?_;refine bY (X:=List Nat×List Int) rfl [0,1,2,3,4,5,6,7,9,10,11,13,15,16,17,18,19,20,28,30,31,32,33,39,64,65,66,67,76,77,78,79,95,107,109,122,123,124,125] (k+11) (λ x=>[]) (λ x=>cL (k+10) 1 (x.2.map nR) [(k+9,⟨3,aE,KF (k+7) a.nt x.1 a.nt⟩),(k+7,⟨3,aB,DU l a.nt⟩),(k+2,⟨6,aB,[[(),(),(),(),(),()]]⟩),(k+1,⟨7,aB,[b.cells]⟩),(k,⟨7,aB,[a.cells]⟩),(k+3,⟨6,aE,[[.rd 2 n0 f0,.rd 2 n1 f1,.rd 2 n2 f2,dG (k+10) (x.2.map nR),.rd 8 n4 f4,()]]⟩)]) (λ x=>IA l x) (λ x=>(lP l x.1).length) ([],[]) ?_ aFU ?_;.rw[bQ];refine rR ?_;apply zN;exact pQ
 rintro⟨seen,acc⟩ hF;have hal:=aOF hF;refine rR ?_;apply zN;refine gW rfl ?_;refine bAW rfl rfl rfl (TE (mid:=k+7) (it:=k+9) (since:=a.nt) (c0:=a.nt) (clock:=a.nt) (q:= .i64) (l:=l) (seen:=seen) rfl rfl (by first|(simp-dsimp-implicitDefEqProofs only[go_sem,aM,Flt.row,eq_self,↓reduceIte];done)|(simp-dsimp-implicitDefEqProofs only[go_sem,aM,Flt.row,eq_self,↓reduceIte];rfl)) (by first|(simp-dsimp-implicitDefEqProofs only[go_sem,aM,Flt.row,eq_self,↓reduceIte];done)|(simp-dsimp-implicitDefEqProofs only[go_sem,aM,Flt.row,eq_self,↓reduceIte];rfl)) hold (aF _)) ?_;rintro out (⟨hnil,rfl⟩|⟨e,he,rfl⟩)
 .refine⟨aE,_,rfl,?_⟩;refine rR ?_;apply zN;refine wl ?_;refine dI λ ht=>?_;have hpg:(yW a b).Perm acc:=by rw[<-hgo];exact aOG hF hnil
  have eA:dG (k+10) (acc.map nR)=dG (k+10) ((yW a b).map nR):=aYA hpg.length_eq.symm;obtain⟨n3,f3,e3⟩:∃n f,rows 1 ((yW a b).map nR)= .rd 1 n f:=⟨_,_,rfl⟩;rw[e3]at hR;refine gL (nV (k1:=k+11) (fr1:=[(10,.ptr (k+3) 0 0),(5,.lit (.int .i64 0)),(4,.ptr (k+2) 0 0),(3,.ptr (k+1) 0 0),(2,.ptr k 0 0)]) (H1:=(k+2,⟨6,aB,[[(),(),(),(),(),()]]⟩)::(k+1,⟨7,aB,[b.cells]⟩)::(k,⟨7,aB,[a.cells]⟩)::(k+3,⟨6,aE,[[.rd 2 n0 f0,.rd 2 n1 f1,.rd 2 n2 f2,dG (k+10) (acc.map nR),.rd 8 n4 f4,()]]⟩)::cL (k+10) 1 (acc.map nR) []) wL) ?_;refine cl [.far (.tup []) (k+11) [(k+2,⟨6,aB,[[(),(),(),(),(),()]]⟩),(k+1,⟨7,aB,[b.cells]⟩),(k,⟨7,aB,[a.cells]⟩),(k+3,⟨6,aE,[[.rd 2 n0 f0,.rd 2 n1 f1,.rd 2 n2 f2,dG (k+10) (acc.map nR),.rd 8 n4 f4,()]]⟩)] (cL (k+10) 1 (acc.map nR) []) (cL (k+10) 1 ((yW a b).map nR) [])] ?_;refine CM (zs ?_) (zs ?_) (zs ?_) (zs ?_);.exact λ _=>rfl
  .exact bAD (by simp only[AM.look];repeat(rw[iN oO]))
  .exact a0A (k+11) (k+10) acc (yW a b) hpg (aBE ha.st) oO
  rw[eA];refine gL (uG (id:=k+10) (s:=1) (D:=k+3) (sz:=6) (l:=(yW a b).map nR) (row:=[.rd 2 n0 f0,.rd 2 n1 f1,.rd 2 n2 f2,dG (k+10) ((yW a b).map nR),.rd 8 n4 f4,.lit (.slice aC 0 0)]) 3 (.rd 1 n3 f3) [(10,.ptr (k+3) 0 0),(5,(0:Int)),(4,.ptr (k+2) 0 0),(3,.ptr (k+1) 0 0),(2,.ptr k 0 0)] [(k+2,⟨6,aB,[[(),(),(),(),(),()]]⟩),(k+1,⟨7,aB,[b.cells]⟩),(k,⟨7,aB,[a.cells]⟩)] oO sL rfl sL (by rw[e3];exact bJ _) sL sL sL) ?_;refine gL (nV (k1:=k+11) (fr1:=[(10,.ptr (k+3) 0 0),(5,.lit (.int .i64 0)),(4,.ptr (k+2) 0 0),(3,.ptr (k+1) 0 0),(2,.ptr k 0 0)]) (H1:=[(k+2,⟨6,aB,[[.lit (.slice aC 0 0),.lit (.slice aC 0 0),.lit (.slice aC 0 0),.lit (.slice aC 0 0),.lit (.slice aC 0 0),.lit (.slice aC 0 0)]]⟩),(k+1,⟨7,aB,[b.cells]⟩),(k,⟨7,aB,[a.cells]⟩),(k+3,⟨6,aE,[[.rd 2 n0 f0,.rd 2 n1 f1,.rd 2 n2 f2,.rd 1 n3 f3,.rd 8 n4 f4,.lit (.slice aC 0 0)]]⟩)]) wL) ?_;exact aXI a b hns gns hnk hsp hsp' k R n0 n1 n2 n3 n4 f0 f1 f2 f3 f4 hR
 refine⟨aB,_,rfl,?_⟩;refine rR ?_;apply zN;refine wl ?_;refine dI λ ht=>?_;obtain⟨q,eq⟩:∃q,q=e.1:=⟨_,rfl⟩;obtain⟨v,ev⟩:∃v,v=e.2.1:=⟨_,rfl⟩;obtain⟨T,eT⟩:∃T,T=acc.map nR:=⟨_,rfl⟩;have hTl:T.length<=1000:=by rw[eT,cX];omega
 rw[<-eT];refine cl [.raw (aA 110) ⟨.tup [q,.lit v],k+11,[],[k+9,k+7]⟩] ?_;refine iE ?_ ?_;.rw[eq,ev];exact PJ (l:=l) (seen:=seen) (e:=e) (since:=a.nt) (clock:=a.nt) rfl rfl (by first|(simp-dsimp-implicitDefEqProofs only[go_sem,aM,Flt.row,eq_self,↓reduceIte];done)|(simp-dsimp-implicitDefEqProofs only[go_sem,aM,Flt.row,eq_self,↓reduceIte];rfl)) (by first|(simp-dsimp-implicitDefEqProofs only[go_sem,aM,Flt.row,eq_self,↓reduceIte];done)|(simp-dsimp-implicitDefEqProofs only[go_sem,aM,Flt.row,eq_self,↓reduceIte];rfl)) (lW.1 he).1 hst
 refine wl ?_;refine cA ?_;refine⟨(seen++[e.2.2],acc++[e.1]),aFV hst hF he,aWR hst he,?_⟩;rw[aM,<-eT,bI,bQ,<-eq];refine rR ?_;apply zN;exact DZ (k+12) (k+10) wL
theorem aQQ(x y:Tk):aDU x y= !(x.id==y.id&&(x.group==y.group&&(x.weight==y.weight&&(x.cpu==y.cpu&&(x.mask==y.mask&&(x.ready==y.ready&&(x.v==y.v&&x.r==y.r))))))):=by simp only[aDU,decide_not,Bool.decide_and];rfl
theorem aTA{a b:St}{i j:Nat}(hf:AR a (b.tsk i).id=aA j)(h:aDU (a.tsk j) (b.tsk i)=aB):mN a b i=[b.tsk i]:=by rw[mN,aTC,hf];simp only[h];rfl
theorem aTB{a b:St}{i j:Nat}(hf:AR a (b.tsk i).id=aA j)(h:aDU (a.tsk j) (b.tsk i)=aE):mN a b i=[]:=by rw[mN,aTC,hf];simp only[h];rfl
theorem a1R{o:Oper}{ev:Operand->Option AVal}{get:Nat->Option Blk}{k id:Nat}{a b:St}{i:Nat}{v:AVal}(hf:AR a (b.tsk i).id=aC)(h:AM.Good aD Γ o ev get k ⟨.tup [v,.lit (.bool (AR a (b.tsk i).id).isSome)],k,[],[id]⟩):AM.Good aD Γ o ev get k ⟨.tup [v,aE],k,[],[id]⟩:=by rw[hf]at h;exact h
theorem aTR{o:Oper}{ev:Operand->Option AVal}{get:Nat->Option Blk}{k id:Nat}{a b:St}{i j:Nat}{v:AVal}(hf:AR a (b.tsk i).id=aA j)(h:AM.Good aD Γ o ev get k ⟨.tup [v,.lit (.bool (AR a (b.tsk i).id).isSome)],k,[],[id]⟩):AM.Good aD Γ o ev get k ⟨.tup [v,aB],k,[],[id]⟩:=by rw[hf]at h;exact h
attribute [local go_sem] tR
theorem aXK(a b:St)(ha:IdOk a)(hb:IdOk b)(hnt:a.nt<=1000)(hnt':b.nt<=1000)(hns:a.ns<=12)(gns:b.ns=a.ns)(hnk:a.nk<=12)(hsp:∀g,g<a.ns->a.nsp g=a.nk)(hsp':∀g,g<a.ns->b.nsp g=a.nk)(k:Nat)(R:List AVal)(n0 n1 n2:Nat)(f0 f1 f2:Nat->List AVal)
 (hR:R=[.rd 2 n0 f0,.rd 2 n1 f1,.rd 2 n2 f2,rows 1 ((yW a b).map nR),rows 8 ((gH (mN a b) b.nt).map tR),rows 5 ((gH (λ g=>gH (mA a b g) a.nk) a.ns).map pR)]):
 W aD Γ 139 k (hY (gN aLR) [1,1,1,1,1,1,1,1]) (EQ aD aLR λ _ r1 _=>VLe r1 (.tup [.agg R,(0:Int)])) (k+7) [(10,.ptr (k+3) 0 0),(5,(0:Int)),(4,.ptr (k+2) 0 0),(3,.ptr (k+1) 0 0),(2,.ptr k 0 0)] [(k+2,⟨6,aB,[[(),(),(),(),(),()]]⟩),(k+1,⟨7,aB,[b.cells]⟩),(k,⟨7,aB,[a.cells]⟩),(k+3,⟨6,aE,[[.rd 2 n0 f0,.rd 2 n1 f1,.rd 2 n2 f2,(),(),()]]⟩)]:=by
 have kp:=gZ k [0,1,2,3,4,5,6,7,9,10,11,13,15,16,17,18,19,20,28,30,31,32,33,39,64,65,66,67,76,77,78,79,95,107,109,122,123,124,125];refine wl ?_;refine cA ?_;refine cl [.raw (aA 62) ⟨.mp (k+7),k+8,[(k+7,aA ⟨3,aB,DU (oK a 0) 0⟩)],[]⟩] ?_;refine iE ?_ ?_;.exact OJ .i64 rfl
 refine wl ?_;refine cA ?_;refine bY (X:=Nat) rfl [0,1,2,3,4,5,6,7,9,10,11,13,15,16,17,18,19,20,28,30,31,32,33,39,64,65,66,67,76,77,78,79,95,107,109,122,123,124,125] (k+8) (λ i=>[(66,i)]) (λ i=>[(k+7,⟨3,aB,DU (oK a i) i⟩),(k+2,⟨6,aB,[[(),(),(),(),(),()]]⟩),(k+1,⟨7,aB,[b.cells]⟩),(k,⟨7,aB,[a.cells]⟩),(k+3,⟨6,aE,[[.rd 2 n0 f0,.rd 2 n1 f1,.rd 2 n2 f2,(),(),()]]⟩)]) (λ i=>i<=a.nt) (λ i=>a.nt-i) 0 ?_ (aZ _) ?_;.refine rR ?_;apply zN;exact pQ
 intro i hi;refine rR ?_;apply zN;refine wl ?_;refine oT (λ ht=>?_) λ ht=>?_
 .refine cl [.raw aC ⟨.junk,k+9,[(k+7,aA ⟨3,aB,DU (oK a (i+1)) (i+1)⟩)],[k+7]⟩] ?_;refine iE ?_ ?_;.exact a7Q ha oO rfl rfl rfl rfl sL
  refine wl ?_;refine cA ?_;refine⟨i+1,oO,oO,?_⟩;exact pQ
 have hin:i=a.nt:=oO;subst hin;rw[<-aTY (b:=b)];refine bY (X:=Nat) rfl [0,1,2,3,4,5,6,7,9,10,11,13,15,16,17,18,19,20,28,30,31,32,33,39,64,65,66,67,76,77,78,79,95,107,109,122,123,124,125] (k+9) (λ i=>[(78,i)]) (λ i=>cL (k+8) 8 ((gH (mN a b) i).map tR) [(k+7,⟨3,aB,DU (LF a b i) a.nt⟩),(k+2,⟨6,aB,[[(),(),(),(),(),()]]⟩),(k+1,⟨7,aB,[b.cells]⟩),(k,⟨7,aB,[a.cells]⟩),(k+3,⟨6,aE,[[.rd 2 n0 f0,.rd 2 n1 f1,.rd 2 n2 f2,(),dG (k+8) ((gH (mN a b) i).map tR),()]]⟩)]) (λ i=>i<=b.nt) (λ i=>b.nt-i) 0 ?_ (aZ _) ?_;.rw[xV,bQ];refine rR ?_;apply zN;exact pQ
 intro i hi;have hfl:=kR (IV a b) i;obtain⟨l,el,hl⟩:∃x,x=((gH (mN a b) i).map tR)/\x.length<=i:=⟨_,rfl,by simp;omega⟩;have es:((gH (mN a b) (i+1)).map tR)=l++(mN a b i).map tR:=by rw[vD,aM,<-el]
 rw[<-el];refine rR ?_;apply zN;refine wl ?_;refine oT (λ ht=>?_) λ ht=>?_
 .obtain⟨T,eT⟩:∃T,T=aMD a (b.tsk i).id:=⟨_,rfl⟩
  cases hf:AR a (b.tsk i).id with
  |none=>
   have hn:mN a b i=[b.tsk i]:=by rw[mN,aTC,hf];rfl
   refine cl [.raw (aA 86) ⟨.tup [.agg (tR T),aE],k+10,[],[k+7]⟩] ?_;refine iE ?_ ?_;.rw[eT];refine a1R hf ?_;exact aJU (c:=a.nt) ha hb oO rfl rfl rfl sL
   refine wl ?_;refine dI λ ht=>?_;refine cl [.raw aC ⟨.lit (.tuple #[]),k+13,[(k+7,aA ⟨3,aB,DU (LF a b (i+1)) a.nt⟩)],[k+7]⟩] ?_;refine iE ?_ ?_;.exact aGU (c:=a.nt) ha hb oO rfl rfl rfl sL
   refine wl ?_;refine cA ?_;refine⟨i+1,oO,oO,?_⟩;rw[es,hn,bI,bQ];refine rR ?_;apply zN;exact DZ (k+12) (k+8) wL
  |some j=>
   obtain⟨hj,hid⟩:=MI hf;have eT2:T=a.tsk j:=by rw[eT,aMD,hf]
   refine cl [.raw (aA 86) ⟨.tup [.agg (tR T),aB],k+10,[],[k+7]⟩] ?_;refine iE ?_ ?_;.rw[eT];refine aTR hf ?_;exact aJU (c:=a.nt) ha hb oO rfl rfl rfl sL
   refine wl ?_;refine oT (λ ht=>?_) λ ht=>?_
   .have hn:mN a b i=[b.tsk i]:=aTA hf (by rw[aQQ,<-eT2,ht];rfl);refine cl [.raw aC ⟨.lit (.tuple #[]),k+13,[(k+7,aA ⟨3,aB,DU (LF a b (i+1)) a.nt⟩)],[k+7]⟩] ?_;refine iE ?_ ?_;.exact aGU (c:=a.nt) ha hb oO rfl rfl rfl sL
    refine wl ?_;refine cA ?_;refine⟨i+1,oO,oO,?_⟩;rw[es,hn,bI,bQ];refine rR ?_;apply zN;exact DZ (k+12) (k+8) wL
   have hn:mN a b i=[]:=aTB hf (by rw[aQQ,<-eT2,ht];rfl);refine cl [.raw aC ⟨.lit (.tuple #[]),k+11,[(k+7,aA ⟨3,aB,DU (LF a b (i+1)) a.nt⟩)],[k+7]⟩] ?_;refine iE ?_ ?_;.exact aGU (c:=a.nt) ha hb oO rfl rfl rfl sL
   refine wl ?_;refine cA ?_;refine⟨i+1,oO,oO,?_⟩;rw[es,hn,bQ,cZ];refine rR ?_;apply zN;exact pQ
 have hin:i=b.nt:=oO;subst hin;rw[el];obtain⟨n4,f4,e4⟩:∃n f,rows 8 ((gH (mN a b) b.nt).map tR)= .rd 8 n f:=⟨_,_,rfl⟩;rw[e4]at hR;refine gL (uG (id:=k+8) (s:=8) (D:=k+3) (sz:=6) (l:=((gH (mN a b) b.nt).map tR)) (row:=[.rd 2 n0 f0,.rd 2 n1 f1,.rd 2 n2 f2,.lit (.slice aC 0 0),dG (k+8) ((gH (mN a b) b.nt).map tR),.lit (.slice aC 0 0)]) 4 (.rd 8 n4 f4) [(11,.mp (k+7)),(10,.ptr (k+3) 0 0),(5,(0:Int)),(4,.ptr (k+2) 0 0),(3,.ptr (k+1) 0 0),(2,.ptr k 0 0)] [(k+7,⟨3,aB,DU (LF a b b.nt) a.nt⟩),(k+2,⟨6,aB,[[(),(),(),(),(),()]]⟩),(k+1,⟨7,aB,[b.cells]⟩),(k,⟨7,aB,[a.cells]⟩)] oO sL rfl sL (by rw[e4];exact bJ _) sL sL sL) ?_;refine gL (nV (k1:=k+9) (fr1:=[(11,.mp (k+7)),(10,.ptr (k+3) 0 0),(5,.lit (.int .i64 0)),(4,.ptr (k+2) 0 0),(3,.ptr (k+1) 0 0),(2,.ptr k 0 0)]) (H1:=[(k+7,⟨3,aB,DU (LF a b b.nt) a.nt⟩),(k+2,⟨6,aB,[[.lit (.slice aC 0 0),.lit (.slice aC 0 0),.lit (.slice aC 0 0),.lit (.slice aC 0 0),.lit (.slice aC 0 0),.lit (.slice aC 0 0)]]⟩),(k+1,⟨7,aB,[b.cells]⟩),(k,⟨7,aB,[a.cells]⟩),(k+3,⟨6,aE,[[.rd 2 n0 f0,.rd 2 n1 f1,.rd 2 n2 f2,.lit (.slice aC 0 0),.rd 8 n4 f4,.lit (.slice aC 0 0)]]⟩)]) wL) ?_;exact aXJ a b ha hb hnt hns gns hnk hsp hsp' k R n0 n1 n2 n4 f0 f1 f2 f4 hR
attribute [local go_sem] tR nR
theorem TX(a b:St)(i:Nat):(TY a b i).length<=1:=GM _ _
theorem a4A(a b:St)(hq:PreOk a)(hq':PreOk b)(hk:Kinds a)(hk':Kinds b):AM.Pure aD Γ 21 [.agg a.cells,.agg b.cells] (.tup [.agg (btw a b).cells,(DX a b)]):=by
 obtain⟨⟨hng,hnk,hnu,hnt,hns,hnsp⟩,h12,hp12⟩:=id hq;obtain⟨⟨hng',hnk',hnu',hnt',hns',hnsp'⟩,h12',hp12'⟩:=id hq';refine bT Tryz.func21 rfl 139 rfl bB rfl λ k=>?_;obtain⟨R,eR⟩:∃R,R=(btw a b).cells:=⟨_,rfl⟩;obtain⟨E,eE⟩:∃E,E=DX a b:=⟨_,rfl⟩;rw[<-eR,<-eE];obtain⟨F,eF⟩:∃F,F=uM a b:=⟨_,rfl⟩;obtain⟨S,eS⟩:∃S,S=AZ a b:=⟨_,rfl⟩;have kp:=gZ k [0,1,2,3,4,5,6,7,9,10,11,13,15,16,17,18,19,20,28,30,31,32,33,39,64,65,66,67,76,77,78,79,95,107,109,122,123,124,125];refine wl ?_;refine cA ?_;refine cl [.ret (.tup [.rd 3 F.length (λ j=>Flt.row (F.getD j zF)),S])] ?_;refine iE ?_ ?_;.rw[eF,eS];exact bFR a b hq hq' hk hk'
 by_cases hbad:tV a b
 .have hS:S=320:=by rw[eS,AZ,iP hbad]
  subst hS;refine wl ?_;refine dI λ ht=>?_;refine cR (zN ?_);obtain⟨h1,h2⟩:=a3W hbad;rw[eR,eE,h1,h2];exact HR (.cons (DP (aJH rfl)) (.cons (bJ _) .nil))
 have hS:S=0:=by rw[eS,AZ,iN hbad]
 subst hS;by_cases hal:QU a b a.ng=aE
 .obtain⟨h1,h2⟩:=aPC hbad hal;have hF:F=[⟨17,0,0⟩]:=by rw[eF,uM,iN hbad,iP hal]
  have hFl:F.length=1:=by rw[hF];rfl
  have hF0:(F.getD 0 zF).r=17:=by rw[hF];rfl
  have uU:= @Flt.row.eq_1;refine wl ?_;refine dI λ ht=>?_;refine bY (X:=Nat) rfl [0,1,2,3,4,5,6,7,9,10,11,13,15,16,17,18,19,20,28,30,31,32,33,39,64,65,66,67,76,77,78,79,95,107,109,122,123,124,125] (k+3) (λ i=>[(32,i)]) (λ i=>[(k+2,⟨6,aB,[[(),(),(),(),(),()]]⟩),(k+1,⟨7,aB,[b.cells]⟩),(k,⟨7,aB,[a.cells]⟩)]) (λ i=>i=0) (λ i=>0) 0 ?_ rfl ?_;.refine rR ?_;apply zN;exact nV wL
  rintro i rfl;refine rR ?_;apply zN;refine wl ?_;refine dI λ ht=>?_;refine cl [.ret (.lit (.string ⟨#[111,116,104,101,114]⟩))] ?_;refine iE ?_ ?_;.rw[hF0];exact bHS
  refine wl ?_;refine dI λ ht=>?_;have uU:= @Flt.row.eq_1;refine cR (zN ?_);rw[eR,eE,h1,h2];exact HR (.cons (DP (aJH rfl)) (.cons (bJ _) .nil))
 have hall:QU a b a.ng=aB:=by simpa using hal
 obtain⟨h1,h2⟩:=a9Z hbad hall;have hF:F=tC a b:=by rw[eF,uM,iN hbad,iN (by rw[hall];simp)]
 have hFr:∀f∈F,f.r=15\/f.r=16:=by rw[hF];exact aEY a b
 have hFl:F.length<=100000:=by rw[eF];exact aEB a b hq
 have hwa:(dQ a).length=0:=by unfold tV at hbad;omega
 have hwb:(dQ b).length=0:=by unfold tV at hbad;omega
 obtain⟨gnk,gns,gnsp⟩:=aCY hwa hwb hall;have gna:a.nu=a.nk/\b.nu=a.nk/\b.ng=a.ng/\a.ns=a.ng/\∀g,g<a.ns->a.nsp g=a.nk:=by obtain⟨_,ha⟩:=nG hwa;obtain⟨_,hb⟩:=nG hwb;obtain⟨h1,h2,h3,h4⟩:=shapes_nil ha;obtain⟨k1,k2,k3,k4⟩:=shapes_nil hb;simp only[QU,dTt]at hall;obtain⟨e1,_,e3,_⟩:=hall;exact⟨oO,oO,oO,oO,λ g hg=>by have:=h4 g hg;omega⟩
 obtain⟨gu,gu',gg,gsg,gsk⟩:=gna;have uU:= @Flt.row.eq_1;refine wl ?_;refine dI λ ht=>?_;refine bY (X:=Nat) rfl [0,1,2,3,4,5,6,7,9,10,11,13,15,16,17,18,19,20,28,30,31,32,33,39,64,65,66,67,76,77,78,79,95,107,109,122,123,124,125] (k+3) (λ i=>[(32,i)]) (λ i=>[(k+2,⟨6,aB,[[(),(),(),(),(),()]]⟩),(k+1,⟨7,aB,[b.cells]⟩),(k,⟨7,aB,[a.cells]⟩)]) (λ i=>i<=F.length) (λ i=>F.length-i) 0 ?_ (aZ _) ?_;.refine rR ?_;apply zN;exact nV wL
 intro i hi;refine rR ?_;apply zN;refine wl ?_;refine oT (λ ht=>?_) λ ht=>?_
 .obtain⟨s,hs,hnm⟩:=bHR (Γ:=Γ) hFr (i:=i) oO;refine cl [.ret (.lit (.string s))] ?_;refine cA ?_;refine wl ?_;refine oT (λ ht=>?_) λ ht=>?_;.rcases hs with rfl|rfl<;>exact absurd ht (by decide+kernel)
  refine⟨i+1,oO,oO,?_⟩;exact nV wL
 obtain⟨L0,e0⟩:∃L,L=gH (kD a.clk b.clk) a.nk:=⟨_,rfl⟩;obtain⟨L1,e1⟩:∃L,L=gH (kD a.cur b.cur) a.nu:=⟨_,rfl⟩;obtain⟨L2,e2⟩:∃L,L=gH (vE a b) a.ng:=⟨_,rfl⟩;refine gL (QQ (k+3) (by simp-dsimp-implicitDefEqProofs only[go_sem,Flt.row,eq_self,↓reduceIte];rfl)) ?_;refine gL (nV (k1:=k+4) (fr1:=[(10,.ptr (k+3) 0 0),(5,.lit (.int .i64 0)),(4,.ptr (k+2) 0 0),(3,.ptr (k+1) 0 0),(2,.ptr k 0 0)]) (H1:=[(k+2,⟨6,aB,[[.lit (.slice aC 0 0),.lit (.slice aC 0 0),.lit (.slice aC 0 0),.lit (.slice aC 0 0),.lit (.slice aC 0 0),.lit (.slice aC 0 0)]]⟩),(k+1,⟨7,aB,[b.cells]⟩),(k,⟨7,aB,[a.cells]⟩)]++[(k+3,⟨6,aE,[[.lit (.slice aC 0 0),.lit (.slice aC 0 0),.lit (.slice aC 0 0),.lit (.slice aC 0 0),.lit (.slice aC 0 0),.lit (.slice aC 0 0)]]⟩)]) wL) ?_;refine cl [.far (.tup []) (k+5) [(k+2,⟨6,aB,[[(),(),(),(),(),()]]⟩),(k+1,⟨7,aB,[b.cells]⟩),(k,⟨7,aB,[a.cells]⟩)] [(k+3,⟨6,aE,[[(),(),(),(),(),()]]⟩)] (cL (k+4) 2 (L0.map mK) [(k+3,⟨6,aE,[[dG (k+4) (L0.map mK),(),(),(),(),()]]⟩)])] ?_;refine CM (zs ?_) (zs ?_) (zs ?_) (zs ?_);.exact λ _=>rfl
 .exact aHN (by simp only[AM.look];repeat(rw[iN oO])) (by simp only[AM.look];repeat(rw[iN oO]))
 .exact aWA (k+4) (k+3) oO a.clk b.clk a.nk b.nk gnk hnk _ _ _ _ _ (λ _=>rfl) (λ _=>rfl) (λ _=>rfl) (λ _=>rfl) (λ _=>rfl) L0 e0
 refine gL (uG (id:=k+4) (s:=2) (D:=k+3) (sz:=6) (l:=L0.map mK) (row:=[dG (k+4) (L0.map mK),.lit (.slice aC 0 0),.lit (.slice aC 0 0),.lit (.slice aC 0 0),.lit (.slice aC 0 0),.lit (.slice aC 0 0)]) 0 (rows 2 (L0.map mK)) [(10,.ptr (k+3) 0 0),(5,(0:Int)),(4,.ptr (k+2) 0 0),(3,.ptr (k+1) 0 0),(2,.ptr k 0 0)] [(k+2,⟨6,aB,[[(),(),(),(),(),()]]⟩),(k+1,⟨7,aB,[b.cells]⟩),(k,⟨7,aB,[a.cells]⟩)] oO sL rfl sL (bJ _) sL sL sL) ?_;refine gL (nV (k1:=k+5) (fr1:=[(10,.ptr (k+3) 0 0),(5,.lit (.int .i64 0)),(4,.ptr (k+2) 0 0),(3,.ptr (k+1) 0 0),(2,.ptr k 0 0)]) (H1:=[(k+2,⟨6,aB,[[.lit (.slice aC 0 0),.lit (.slice aC 0 0),.lit (.slice aC 0 0),.lit (.slice aC 0 0),.lit (.slice aC 0 0),.lit (.slice aC 0 0)]]⟩),(k+1,⟨7,aB,[b.cells]⟩),(k,⟨7,aB,[a.cells]⟩)]++[(k+3,⟨6,aE,[[rows 2 (L0.map mK),.lit (.slice aC 0 0),.lit (.slice aC 0 0),.lit (.slice aC 0 0),.lit (.slice aC 0 0),.lit (.slice aC 0 0)]]⟩)]) wL) ?_;refine wl ?_;refine cA ?_;refine cl [.far (.tup []) (k+6) [(k+2,⟨6,aB,[[(),(),(),(),(),()]]⟩),(k+1,⟨7,aB,[b.cells]⟩),(k,⟨7,aB,[a.cells]⟩)] [(k+3,⟨6,aE,[[rows 2 (L0.map mK),(),(),(),(),()]]⟩)] (cL (k+5) 2 (L1.map mK) [(k+3,⟨6,aE,[[rows 2 (L0.map mK),dG (k+5) (L1.map mK),(),(),(),()]]⟩)])] ?_;refine CM (zs ?_) (zs ?_) (zs ?_) (zs ?_);.exact λ _=>rfl
 .exact aHN (by simp only[AM.look];repeat(rw[iN oO])) (by simp only[AM.look];repeat(rw[iN oO]))
 .exact aVZ (k+5) (k+3) oO a.cur b.cur a.nu b.nu oO hnu _ _ _ _ _ (λ _=>rfl) (λ _=>rfl) (λ _=>rfl) (λ _=>rfl) (λ _=>rfl) L1 e1
 refine gL (uG (id:=k+5) (s:=2) (D:=k+3) (sz:=6) (l:=L1.map mK) (row:=[rows 2 (L0.map mK),dG (k+5) (L1.map mK),.lit (.slice aC 0 0),.lit (.slice aC 0 0),.lit (.slice aC 0 0),.lit (.slice aC 0 0)]) 1 (rows 2 (L1.map mK)) [(10,.ptr (k+3) 0 0),(5,(0:Int)),(4,.ptr (k+2) 0 0),(3,.ptr (k+1) 0 0),(2,.ptr k 0 0)] [(k+2,⟨6,aB,[[(),(),(),(),(),()]]⟩),(k+1,⟨7,aB,[b.cells]⟩),(k,⟨7,aB,[a.cells]⟩)] oO sL rfl sL (bJ _) sL sL sL) ?_;refine gL (nV (k1:=k+6) (fr1:=[(10,.ptr (k+3) 0 0),(5,.lit (.int .i64 0)),(4,.ptr (k+2) 0 0),(3,.ptr (k+1) 0 0),(2,.ptr k 0 0)]) (H1:=[(k+2,⟨6,aB,[[.lit (.slice aC 0 0),.lit (.slice aC 0 0),.lit (.slice aC 0 0),.lit (.slice aC 0 0),.lit (.slice aC 0 0),.lit (.slice aC 0 0)]]⟩),(k+1,⟨7,aB,[b.cells]⟩),(k,⟨7,aB,[a.cells]⟩)]++[(k+3,⟨6,aE,[[rows 2 (L0.map mK),rows 2 (L1.map mK),.lit (.slice aC 0 0),.lit (.slice aC 0 0),.lit (.slice aC 0 0),.lit (.slice aC 0 0)]]⟩)]) wL) ?_;refine wl ?_;refine cA ?_;refine cl [.far (.tup []) (k+7) [(k+2,⟨6,aB,[[(),(),(),(),(),()]]⟩),(k+1,⟨7,aB,[b.cells]⟩),(k,⟨7,aB,[a.cells]⟩)] [(k+3,⟨6,aE,[[rows 2 (L0.map mK),rows 2 (L1.map mK),(),(),(),()]]⟩)] (cL (k+6) 2 (L2.map mK) [(k+3,⟨6,aE,[[rows 2 (L0.map mK),rows 2 (L1.map mK),dG (k+6) (L2.map mK),(),(),()]]⟩)])] ?_;refine CM (zs ?_) (zs ?_) (zs ?_) (zs ?_);.exact λ _=>rfl
 .exact aHN (by simp only[AM.look];repeat(rw[iN oO])) (by simp only[AM.look];repeat(rw[iN oO]))
 .exact aVY (k+6) (k+3) oO a b a.ng b.ng oO hng _ _ _ _ _ (λ _=>rfl) (λ _=>rfl) (λ _=>rfl) (λ _=>rfl) (λ _=>rfl) L2 e2
 refine gL (uG (id:=k+6) (s:=2) (D:=k+3) (sz:=6) (l:=L2.map mK) (row:=[rows 2 (L0.map mK),rows 2 (L1.map mK),dG (k+6) (L2.map mK),.lit (.slice aC 0 0),.lit (.slice aC 0 0),.lit (.slice aC 0 0)]) 2 (rows 2 (L2.map mK)) [(10,.ptr (k+3) 0 0),(5,(0:Int)),(4,.ptr (k+2) 0 0),(3,.ptr (k+1) 0 0),(2,.ptr k 0 0)] [(k+2,⟨6,aB,[[(),(),(),(),(),()]]⟩),(k+1,⟨7,aB,[b.cells]⟩),(k,⟨7,aB,[a.cells]⟩)] oO sL rfl sL (bJ _) sL sL sL) ?_;refine gL (nV (k1:=k+7) (fr1:=[(10,.ptr (k+3) 0 0),(5,.lit (.int .i64 0)),(4,.ptr (k+2) 0 0),(3,.ptr (k+1) 0 0),(2,.ptr k 0 0)]) (H1:=[(k+2,⟨6,aB,[[.lit (.slice aC 0 0),.lit (.slice aC 0 0),.lit (.slice aC 0 0),.lit (.slice aC 0 0),.lit (.slice aC 0 0),.lit (.slice aC 0 0)]]⟩),(k+1,⟨7,aB,[b.cells]⟩),(k,⟨7,aB,[a.cells]⟩)]++[(k+3,⟨6,aE,[[rows 2 (L0.map mK),rows 2 (L1.map mK),rows 2 (L2.map mK),.lit (.slice aC 0 0),.lit (.slice aC 0 0),.lit (.slice aC 0 0)]]⟩)]) wL) ?_;have ha:=yS hwa;have hb:=yS hwb;have hE:E=0:=by rw[eE,h2]
 have hg1:1<=a.ng:=(gT (nG hwa).1).1.2.2.2.1;subst hE;refine aXK a b ha hb hnt hnt' h12 gns (by rw[<-gsk 0 oO];exact hp12 0 oO) gsk (λ g hg=>by rw[gnsp g hg,gsk g hg]) k R _ _ _ _ _ _ ?_;rw[eR,h1];unfold AS Dl.cells;rw[e0,e1,e2,gu];rfl
theorem PI(d:DE):eqD d d=aB:=by unfold eqD;rw[jY rfl (λ i _=>cV_iff.2 rfl),jY rfl (λ i _=>cV_iff.2 rfl),jY rfl (λ i _=>cV_iff.2 rfl),jY rfl (λ i _=>sS),jY rfl (λ i _=>cT_iff.2 rfl),jY rfl (λ i _=>cP_iff.2 rfl)];rfl
def tI(x:Dl):DE:=⟨x.ck.length,x.cu.length,x.wg.length,x.gn.length,x.tk.length,x.sp.length,λ i=>x.ck.getD i (0,0),λ i=>x.cu.getD i (0,0),λ i=>x.wg.getD i (0,0),λ i=>x.gn.getD i 0,λ i=>x.tk.getD i zT,λ i=>x.sp.getD i (0,0,⟨0,0,0⟩)⟩
theorem CY{α:Type}(s:Nat)(f:α->List AVal)(z:α)(l:List α):VLe (rows s (l.map f)) (.rd s l.length (λ i=>f (l.getD i z))):=by rw[rows,cX];exact VLe.rd λ i hi=>by simp[aR,hi]
theorem a9R(x:Dl):VLe (.agg x.cells) (.agg (tI x).cells):=
 DP (.cons (CY _ _ _ _) (.cons (CY _ _ _ _) (.cons (CY _ _ _ _) (.cons (CY _ _ _ _) (.cons (CY _ _ _ _) (.cons (CY _ _ _ _) .nil))))))
theorem aXD{a b:St}(hq:PreOk a)(hq':PreOk b)(hnk:a.nk<=1000):(tI (btw a b)).size<=20000:=by
 obtain⟨⟨hng,_,hnu,hnt,hns,hnsp⟩,h12,hp12⟩:=id hq;have hnt':=hq'.sm.nt;have h0:∀x:Dl,(tI x).size=x.ck.length+x.cu.length+x.wg.length+x.gn.length+x.tk.length+x.sp.length:=λ _=>rfl;rw[h0];unfold btw;split;.simp[noDl]
 split;.simp[noDl]
 have l0:=kR (xX a.clk b.clk) a.nk;have l1:=kR (xX a.cur b.cur) a.nk;have l2:=kR (PM a b) a.ng;have l3:=kR (TX a b) a.nt;have l4:=kR (IV a b) b.nt;have l5:=OZ a b a.nk a.ns;have l6:a.ns*a.nk<=12*1000:=Nat.mul_le_mul h12 hnk;simp only[AS,yW];omega
theorem UP(a b:St)(hq:PreOk a)(hq':PreOk b)(hk:Kinds a)(hk':Kinds b):AM.Pure aD Γ 21 [.agg a.cells,.agg b.cells] (.tup [.agg (tI (btw a b)).cells,(DX a b)]):=
 aDH (a4A a b hq hq' hk hk') (HR (.cons (a9R _) (.cons (bJ _) .nil)))
theorem IOq(d:DE)(h:d.size<=100000):AM.Pure aD Γ 26 [.agg d.cells] d.size:=
 bFE ⟨d.n0,d.n1,d.n2,d.n3,d.n4,d.n5,d.f0,d.f1,d.f2,d.f3,d.f4,d.f5⟩ (by show d.n0+d.n1+d.n2+d.n3+d.n4+d.n5<_;have:d.size=d.n0+d.n1+d.n2+d.n3+d.n4+d.n5:=rfl;omega)
end Go.Proofs.T
end
section
namespace Go.Proofs.T
open Go Go.AM Go.Proofs
theorem VY{α:Type}(v:Nat->α)(n:Nat):(pre v n).length=n:=by simp[pre]
theorem a7U{α:Type}{v:Nat->α}{n i:Nat}{z:α}(h:i<n):(pre v n).getD i z=v i:=by simp[pre,aR,h]
theorem mem_pre{α:Type}{v:Nat->α}{n:Nat}{x:α}:x∈pre v n↔∃i,i<n/\v i=x:=by simp[pre]
theorem a7T{α:Type}(z:α){l:List α}{v:Nat->α}{n:Nat}:l=pre v n↔l.length=n/\∀i,i<n->l.getD i z=v i:=by
 constructor;.rintro rfl;exact⟨VY v n,λ i hi=>a7U hi⟩
 rintro⟨h1,h2⟩;refine dZ λ i=>?_;by_cases hi:i<n;.have:=h2 i hi;rw[yY oO]at this;rw[aJ oO,this];simp[pre,hi]
 rw[aX oO,aX (by rw[VY];omega)]
def CD(d:DE):Dl:=⟨pre d.ck d.n0,pre d.cu d.n1,pre d.wg d.n2,pre d.gn d.n3,pre d.tk d.n4,pre d.sp d.n5⟩
theorem DK{α:Type}(z:α){l:List α}{v:Nat->α}{n:Nat}{c:α->α->Bool}(hc:∀x y,c x y=aB↔x=y):oL l.length n (λ i=>c (l.getD i z) (v i))=aB↔l=pre v n:=by
 rw[aKX,a7T z];constructor;.rintro⟨h1,h2⟩;exact⟨h1,λ i hi=>(hc _ _).1 (h2 i oO)⟩
 rintro⟨h1,h2⟩;exact⟨h1,λ i hi=>(hc _ _).2 (h2 i oO)⟩
theorem aKY(x:Dl)(d:DE):eqD (tI x) d=aB↔x=CD d:=by obtain⟨ck,cu,wg,gn,tk,sp⟩:=x;unfold eqD tI CD;simp only[aH,Dl.mk.injEq];rw[DK (0,0) (λ _ _=>cV_iff),DK (0,0) (λ _ _=>cV_iff),DK (0,0) (λ _ _=>cV_iff),DK zT (λ _ _=>cT_iff),DK (0,0,⟨0,0,0⟩) (λ _ _=>cP_iff),DK (c:=λ a b=>a==b) (0:Int) (λ a b=>sS)]
theorem aXU{α:Type} [DecidableEq α]{f:Nat->α}{n:Nat}{x:α}:mM (λ i=>decide (x=f i)) n=decide (x∈pre f n):=by rw[bH,anyB_iff];simp only[dTt,mem_pre];exact⟨λ⟨i,h1,h2⟩=>⟨i,h1,h2.symm⟩,λ⟨i,h1,h2⟩=>⟨i,h1,h2.symm⟩⟩
theorem aNO(s:St)(d:DE):(mU s).filter (λ t=> !tH d t)=EF (mU s) (CD d).gn (CD d).tk:=by
 unfold EF;refine bGB λ t _=>?_;unfold tH;rw[Bool.not_or];congr 1;.rw[aXU];congr 1;rw[bH];simp[CD]
 congr 1
 have e:mM (λ i=>decide ((d.tk i).id=t.id)) d.n4=aB↔yT (CD d).tk t.id:=by
  rw[anyB_iff];constructor;.rintro⟨i,h1,h2⟩;exact⟨d.tk i,mem_pre.2 ⟨i,h1,rfl⟩,of_decide_eq_true h2⟩
  rintro⟨t',h1,h2⟩;obtain⟨i,h3,h4⟩:=mem_pre.1 h1;exact⟨i,h3,decide_eq_true (by rw[h4];exact h2)⟩
 rw[bH,e,dTt]
end Go.Proofs.T
end
section
namespace Go.Proofs.T
open Go Go.Lib
theorem TU:∀(a s:List UInt8),(32:UInt8)∉a->index (a++32::s) [32]=(a.length:Int)
 |[],s,_=>by simp[index]
 |c::a,s,h=>by have hc:c≠32:=λ e=>h (by simp[e]);have ih:=TU a s (λ e=>h (by simp[e]));simp only[aV,index];rw[iN (by simp[Ne.symm hc]),ih,iN sS];simp
theorem OV:∀(a:List UInt8),(32:UInt8)∉a->index a [32]= -1
 |[],_=>by simp[index]
 |c::a,h=>by have hc:c≠32:=λ e=>h (by simp[e]);have ih:=OV a (λ e=>h (by simp[e]));simp only[index];rw[iN (by simp[Ne.symm hc]),ih,iP sS]
theorem aMK{a:List UInt8}(h:(32:UInt8)∉a):split a [32]=[a]:=by unfold split;rw[count_miss (OV a h)];rfl
theorem aED{a s:List UInt8}(h:(32:UInt8)∉a):split (a++32::s) [32]=a::split s [32]:=by
 have hi:=TU a s h;have hd:(a++32::s).drop (a.length+[(32:UInt8)].length)=s:=by rw[<-List.drop_drop,List.drop_left];rfl
 unfold split;rw[count_hit sS hi,hd,bKT,splitK,hi,iN sS];simp only[bP,jL,List.take_left];rw[hd]
def aUE(b:Nat->Bool):Nat->Nat->Nat
 |0,c=>c
 |f+1,c=>if b (c+1)=aB then aUE b f (c+1)else c
def aRZ(b:Nat->Bool):Nat->Nat->List (Nat×Nat)
 |0,_=>[]
 |f+1,c=>if c<64 then(if b c=aB then(c,aUE b 64 c)::aRZ b f (aUE b 64 c+1)else aRZ b f (c+1))else []
end Go.Proofs.T
end
section
namespace Go.AM
open Go Go.RowKit Go.Proofs Go.Shelf
abbrev str(l:List UInt8):ByteArray:=⟨l.toArray⟩
theorem aQZ(b:ByteArray):str b.data.toList=b:=rfl
def aZX(l:List (List UInt8)):AVal:= .rd 1 l.length (λ i=>[.lit (.string (str (l.getD i [])))])
def QD(l:List UInt8):Int:=match Lib.atoiAll l with
 | .ok v=>v
 | .range=>Lib.atoiSat l
 |_=>0
section
variable{P:Program}{ρ:Ren}{Γ:dL}
theorem aPX(L:LaysM.n171 P ρ){g:Nat}(hg:P.globalNamed "internal/strconv.uint64pow10"=aA g)(hΓ:look Γ g=aA (Lib.pow10Tab.map λ z=> .lit (.int .u64 z)))(n:Int)
 (h0: -9223372036854775808<=n) (h1:n<=9223372036854775807):Pure P Γ (ρ.f 171) [.lit (.int .i64 n)] (.lit (.string (str (Lib.itoa n)))):=
 mC rfl λ w G args hG hv=>by rw[aHW hv];refine(Any.strconv_Itoa L n h0 h1 w ((hG g _ hΓ).tab hg)).mono ?_;rintro e w' ⟨rfl,k,os,rfl⟩;refine⟨_,rfl,⟨rfl,rfl,rfl,by first|(simp[Sort.grow];done)|(simp[Sort.grow];omega),λ i hi=>?_⟩,.lit⟩;show((w.drewN k).heap++os)[i]? =_;rw[fV (by show i<w.heap.size;omega)];rfl
theorem aHX{w:World}{G:Nat->Prop}{ρ:cY}{A:bZ}{n:Int}{x:Value}:V w G ρ A (.tup [.lit (.int .i64 n),.junk]) (.tuple #[.int .i64 n,x]):=by
 refine .tup rfl λ j v hj=>?_
 match j with
 |0=>cases hj;exact .lit
 |1=>cases hj;exact .junk
 |j+2=>simp at hj
theorem aPY(L:LaysC.n172 P ρ){te pe te' pe'}(hS:look Γ (ρ.g 15)=aA [.lit (.iface te pe)])(hR:look Γ (ρ.g 16)=aA [.lit (.iface te' pe')])(l:List UInt8)(hl:l.length<=281474976710656):
 Pure P Γ (ρ.f 172) [.lit (.string (str l))] (.tup [.lit (.int .i64 (QD l)),.junk]):=
 mC rfl λ w G args hG hv=>by
  rw[aHW hv];have hs:(str l).size<=281474976710656:=by simpa [ByteArray.size]using hl
  have hd:(str l).data.toList=l:=by simp
  cases h:Lib.atoiAll l
  .rename_i v;refine(Any.strconv_Atoi_ok L (str l) oO v (by rw[hd];exact h) w).mono ?_;rintro e w' ⟨rfl,hw⟩;refine⟨_,rfl,?_,by rw[QD,h];exact aHX⟩;rcases hw with rfl|⟨t,rfl⟩;.exact Below.refl _ _
   exact Lib.bytesWorld_below _ _ _
  .refine(Any.strconv_Atoi_syntax L (str l) hs (by rw[hd];exact h) (.iface te pe) w ((hG _ _ hS).cell rfl) (.inr ⟨_,_,rfl⟩)).mono ?_;rintro e w' ⟨N,rfl,_,_,hb⟩;exact⟨_,rfl,hb,by rw[QD,h];exact aHX⟩
  refine(Any.strconv_Atoi_range L (str l) hs (by rw[hd];exact h) (.iface te' pe') w ((hG _ _ hR).cell rfl) (.inr ⟨_,_,rfl⟩)).mono ?_;rintro e w' ⟨N,rfl,_,_,hb⟩;exact⟨_,rfl,hb,by rw[QD,h,hd];exact aHX⟩
theorem aIE(L:Lays.n146 P ρ)(hi9:(P.info? (ρ.t 9)).map (λ i=>(i.zero,i.size,i.bytes))=aA (aA (.string ByteArray.empty),1,16)){m:Int}(hM:look Γ (ρ.g 1)=aA [.lit (.int .i64 m)])(l sep:List UInt8)
 (hl:l.length<4294967281) (h1:1<=sep.length):Pure P Γ (ρ.f 146) [.lit (.string (str l)),.lit (.string (str sep))] (aZX (Lib.split l sep)):=
 mC rfl λ w G args hG hv=>by
  rw[YA hv];have hs:(str l).size<4294967281:=by simpa [ByteArray.size]using hl
  have h1':1<=(str sep).size:=by simpa [ByteArray.size]using h1
  refine(Any.strings_Split L hi9 (str l) (str sep) m w hs ((hG _ _ hM).cell rfl) h1').mono ?_;rintro e w' ⟨rfl,rfl⟩;have hlen:=Lib.splitB_all (str sep) h1' 0 _ (str l) rfl;have hle:=Lib.countB_le (str sep) h1' (str l).size (str l) (aF _);have hdat:=Lib.splitB_data (str sep) 0 (Lib.countB (str l) (str sep)) (str l);have hsp:Lib.split l sep=(Lib.splitB (str sep) 0 (Lib.countB (str l) (str sep)) (str l)).map (·.data.toList):=by rw[hdat];simp[Lib.split,Lib.countB]
  refine⟨_,rfl,(Below.refl _ _).alloc (aF _) _,?_⟩;unfold aZX;rw[hsp];generalize hq:Lib.splitB (str sep) 0 (Lib.countB (str l) (str sep)) (str l)=q at*
  rw[<-hlen,cX];refine .rd (λ i _=> .string (q.getD i default)) (.inr ⟨aF _,sS⟩) (aF _) (by unfold maxLen;omega) (λ i hi=>rfl) (λ i j v hi hj=>?_) (λ i j v hi hj=>?_)
  .match j with
   | 0=>
     have hi':i<q.length:=hi
     have e:0+i*1+0=i:=oO
     rw[e,World.cell?_alloc_at _ _ _ _ rfl,cJ,aP,aJ hi']
     simp[oH,hi']
   |j+1=>simp at hj
  match j with
  | 0=>
    simp only[lF,aA.injEq]at hj
    subst hj
    have e:str (oH (q.map (·.data.toList)) i [])=q.getD i default:=by simp[oH,hi]
    rw[e];exact .lit
  |j+1=>simp at hj
end
end Go.AM
end
section
namespace Go.Proofs.T
open Go Go.Lib Go.AM
def bCD(x:Nat×Nat):List UInt8:=decDigits x.1++(if x.1<x.2 then 45::decDigits x.2 else [])
def bDF:List (Nat×Nat)->List UInt8
 |[]=>[]
 |[x]=>bCD x
 |x::y::r=>bCD x++44::bDF (y::r)
def bCK(l:List (Nat×Nat)):List UInt8:=if l=[]then [45]else bDF l
def nmL:List (List UInt8):=[[],[99,111,110,102,105,103],[115,104,97,112,101],[99,108,111,99,107],[111,114,100,101,114],[105,100],[103,114,111,117,112],[99,112,117],[109,97,115,107],[112,108,97,99,101],[116,97,115,107],[115,112,111,116],[114,111,111,116],[99,117,114,114,101,110,116],[102,108,111,111,114],[98,97,99,107],[102,101,108,108],[111,116,104,101,114]]
def nm(r:Nat):List UInt8:=nmL.getD r []
end Go.Proofs.T
end
section
namespace Go.Proofs.T
open Go Go.AM Go.Lib
def jn:List (List UInt8)->List UInt8
 |[]=>[]
 |[w]=>w
 |w::v::r=>w++32::jn (v::r)
theorem aKG{w:List UInt8}{r:List (List UInt8)}(h:r≠[]):jn (w::r)=w++32::jn r:=by
 cases r with
 |nil=>exact absurd rfl h
 |cons v r=>rfl
theorem ZC:∀ {ws:List (List UInt8)},ws≠[]->(∀w∈ws,(32:UInt8)∉w)->split (jn ws) [32]=ws
 |[],h,_=>absurd rfl h
 |[w],_,hn=>aMK (hn w sS)
 |w::v::r,_,hn=>by rw[aKG sS,aED (hn w sS),ZC sS (λ x hx=>hn x (dM _ hx))]
def puV(B:Nat)(l:List UInt8):Int:=match parseUintB B l with
 | .ok n=>n
 | .range=>(2:Int)^B-1
 |_=>0
def a6Q:List UInt8:=[99,108,111,99,107]
def aQN:List UInt8:=[99,117,114,114,101,110,116]
def aZG:List UInt8:=[119,101,105,103,104,116]
def bBT:List UInt8:=[103,111,110,101]
def bBR:List UInt8:=[116,97,115,107]
def bBS:List UInt8:=[115,112,111,116]
def a6P:List UInt8:=[114,101,97,100,121]
inductive El where
 |ck (a t:Int)
 |cu (a t:Int)
 |wg (a t:Int)
 |gn (x:Int)
 |tk (t:Tk)
 |sp (g c:Int) (p:Sp)
def I64(x:Int):Prop:= -9223372036854775808<=x/\x<=9223372036854775807
def U64(x:Int):Prop:=0<=x/\x<=18446744073709551615
def U32(x:Int):Prop:=0<=x/\x<=4294967295
def El.rng:El->Prop
 | .ck a t=>I64 a/\I64 t
 | .cu a t=>I64 a/\I64 t
 | .wg a t=>I64 a/\I64 t
 | .gn x=>I64 x
 | .tk t=>I64 t.id/\I64 t.group/\I64 t.weight/\I64 t.cpu/\U64 t.mask/\U64 t.v/\U32 t.r
 | .sp g c p=>I64 g/\I64 c/\U64 p.v/\U32 p.r/\U64 p.floor
def El.ints:El->List Int
 | .ck a t=>[a,t]
 | .cu a t=>[a,t]
 | .wg a t=>[a,t]
 | .gn x=>[x]
 | .tk t=>[t.id,t.group,t.weight,t.cpu]
 | .sp g c p=>[g,c]
def El.plain (e:El):Prop:=∀x∈e.ints,0<=x
instance (e:El):Decidable e.plain:=by unfold El.plain;infer_instance
def El.kind:El->Int
 | .ck _ _=>0
 | .cu _ _=>1
 | .wg _ _=>2
 | .gn _=>3
 | .tk _=>4
 | .sp _ _ _=>5
section
variable(mT:Int->List UInt8)(pR:List UInt8->Int)(rR:List UInt8->Option Int)
def nW(ws:List (List UInt8))(i:Nat):Int:=match ws[i]? with
 |some w=>QD w
 |none=>0
def uW(B:Nat)(ws:List (List UInt8))(i:Nat):Int:=match ws[i]? with
 |some w=>puV B w
 |none=>0
def gu(ws:List (List UInt8)):Option El:=
 if ws.headD []=a6Q then aA (.ck (nW ws 1) (nW ws 2))
 else if ws.headD []=aQN then aA (.cu (nW ws 1) (nW ws 2))
 else if ws.headD []=aZG then aA (.wg (nW ws 1) (nW ws 2))
 else if ws.headD []=bBT then aA (.gn (nW ws 1))
 else if ws.headD []=bBR then aA (.tk ⟨nW ws 1,nW ws 2,nW ws 3,nW ws 4,if 6<ws.length then pR (ws.getD 5 [])else 0,if 6<ws.length then decide (ws.getD 6 []=a6P)else aE,uW 64 ws 7,uW 32 ws 8⟩)
 else if ws.headD []=bBS then aA (.sp (nW ws 1) (nW ws 2) ⟨uW 64 ws 3,uW 32 ws 4,uW 64 ws 5⟩)
 else aC
variable{mT pR rR}
end
def bHY(m:Int)(c:Nat):Bool:=m.toNat.testBit c
def bCL(m:Int):List (Nat×Nat):=aRZ (bHY m) 64 0
def mT(m:Int):List UInt8:=bCK (bCL m)
end Go.Proofs.T
end
section
namespace Go.AM
open Go Go.Lib
attribute [go_sem] fZ List.take_length List.drop_zero
end Go.AM
end
section
namespace Go.Proofs.T
open Go Go.AM Go.Proofs
section
variable{H:Type}{enc:TypeId×Value->H}{P:Program}{w:World}{base:Nat}{sp:Nat->Bool}{held:Bool}{fuel:Nat}{t:TypeId}{cs:List Value}{x:DataW H×List MemPlace}{G:Nat->Prop}
theorem UK{fs:Array Field}(ht:P.underlying t=aA (.struct fs))(h:DataW.trod enc P w base sp held fuel t cs=aA x):
 cs.length=P.cellsOf t/\∃n,∀(i:Nat) (f:Field),fs[i]? =aA f->∃y,DataW.trod enc P w base sp held n f.type ((cs.drop f.offset).take (P.cellsOf f.type))=aA y:=by
 obtain⟨xs,n,_,_,h1,h2,h3⟩:=DataW.trod_struct ht h;refine⟨h1,n,λ i f hf=>?_⟩;have hi:i<xs.length:=by rw[h2];exact(dA.1 hf).1
 exact⟨xs[i],by rw[h3 i f hf,aJ hi]⟩
def Tk.cells (k:Tk):List AVal:=[.lit (.int .i64 k.id),.lit (.int .i64 k.group),.lit (.int .i64 k.weight),.lit (.int .i64 k.cpu),.lit (.int .u64 k.mask),.lit (.bool k.ready),.lit (.int .u64 k.v),.lit (.int .u32 k.r)]
def Sp.cells (k:Sp):List AVal:=[.lit (.int .u64 k.v),.lit (.int .u32 k.r),.lit (.int .u64 k.floor)]
def Tk.ok (k:Tk):Prop:=0<=k.mask/\k.mask<18446744073709551616/\k.v<=18446744073709551615/\0<=k.r
def Sp.ok (k:Sp):Prop:=0<=k.v/\k.v<=18446744073709551615/\0<=k.r
theorem bIA{cs:List Value}(h:cs.length=8):∃a b c d e f g i,cs=[a,b,c,d,e,f,g,i]:=by
 match cs,h with
 |[a,b,c,d,e,f,g,i],_=>exact⟨a,b,c,d,e,f,g,i,rfl⟩
end
end Go.Proofs.T
end
section
namespace Go.Proofs.T
open Go Go.AM Go.Proofs Go.ChangeShapes Go.WideShapes Go.ChangeAt Go.WideMaps Go.WideElems Go.RowKit Go.Proofs.YteimiejbhhgljaaGreatDoor
theorem bCJ:ownKnob aD.godebug=aC:=by kernel_rfl
theorem MA:laidOutB aD=aB:=by kernel_rfl
end Go.Proofs.T
end
section
namespace Go.Proofs.T
open Go Go.AM Go.Proofs
structure Nrm (s:St):Prop where
 g:∀i,s.ng<=i->s.par i=0/\s.wt i=0
 k:∀i,s.nk<=i->s.clk i=0
 u:∀i,s.nu<=i->s.cur i=0
 t:∀i,s.nt<=i->s.tsk i=gX
 n:∀g,s.ns<=g->s.nsp g=0
 s:∀g c,s.nsp g<=c->s.sp g c=⟨0,0,0⟩
theorem qE{α:Type}{l:List α}{i:Nat}{d:α}(h:l.length<=i):l.getD i d=d:=by rw[aR,aX h];rfl
theorem vC{α:Type}{n i:Nat}{f:Nat->α}{d:α}(h:n<=i->f i=d):((aN n).map f).getD i d=f i:=by
 by_cases hi:i<n;.exact kZ hi
 rw[h oO,qE (by simp;omega)]
theorem aHY{a b:St}(h1:a.cpus=b.cpus)(h2:a.credit=b.credit)(h3:a.ng=b.ng)(h4:a.par=b.par)(h5:a.wt=b.wt)(h6:a.nk=b.nk)(h7:a.clk=b.clk)(h8:a.nu=b.nu)(h9:a.cur=b.cur)(h10:a.nt=b.nt)(h11:a.tsk=b.tsk)(h12:a.ns=b.ns)(h13:a.nsp=b.nsp)(h14:a.sp=b.sp):a=b:=by cases a;cases b;simp only at h1 h2 h3 h4 h5 h6 h7 h8 h9 h10 h11 h12 h13 h14;subst h1 h2 h3 h4 h5 h6 h7 h8 h9 h10 h11 h12 h13 h14;rfl
theorem a6V{s:St}(h:Nrm s):(tA s).st=s:=by
 have e6:∀g,(tA s).st.nsp g=s.nsp g:=λ g=>by
  show(((aN s.ns).map λ g=>(aN (s.nsp g)).map (s.sp g)).getD g []).length=_;by_cases hg:g<s.ns;.rw[kZ hg];simp
  rw[qE (by simp;omega),h.n g oO];rfl
 refine aHY rfl rfl (by simp[tA,LSt.st]) (funext λ i=>?_) (funext λ i=>?_) (by simp[tA,LSt.st]) (funext λ i=>?_) (by simp[tA,LSt.st]) (funext λ i=>?_) (by simp[tA,LSt.st]) (funext λ i=>?_) (by simp[tA,LSt.st]) (funext e6) (funext λ g=>funext λ c=>?_);.show(((aN s.ng).map λ g=>(s.par g,s.wt g)).getD i (0,0)).1=_;rw[vC λ hi=>by rw[(h.g i hi).1,(h.g i hi).2]]
 .show(((aN s.ng).map λ g=>(s.par g,s.wt g)).getD i (0,0)).2=_;rw[vC λ hi=>by rw[(h.g i hi).1,(h.g i hi).2]]
 .exact vC (h.k i)
 .exact vC (h.u i)
 .exact vC (h.t i)
 show(((aN s.ns).map λ g=>(aN (s.nsp g)).map (s.sp g)).getD g []).getD c default=_;by_cases hg:g<s.ns;.rw[kZ hg];exact vC (h.s g c)
 rw[qE (l:=(aN s.ns).map _) (by simp;omega),h.s g c (by rw[h.n g oO];omega)];rfl
theorem ZO{P:Sp->Prop}{S K:Nat}:∀(l:List (Int×Int×Sp)) (f:Nat->Nat->Sp),(∀g c,P (f g c))->(∀x∈l,P x.2.2)->∀g c,P (LA S K f l g c)
 |[],_,hf,_=>hf
 |x::l,f,hf,hl=>by
  show ∀g c,P (LA S K (if 0<=x.1/\x.1<S/\0<=x.2.1/\x.2.1<K then BC f x.1.toNat x.2.1.toNat x.2.2 else f) l g c);refine ZO l _ (λ g c=>?_) λ y hy=>hl y (dM _ hy);split
  .unfold BC;split;.exact hl x sS
   exact hf g c
  exact hf g c
def aTH(s:St)(d:DE):List Tk:=(mU s).filter λ t=> !tH d t
def mkT(s:St)(d:DE):List Tk:=IM gX iO (aTH s d++pre d.tk d.n4)
def IF(s:St)(d:DE):St:=WI s (CD d) (mkT s d)
theorem bBX(s:St):(mU s).length=s.nt:=by simp[mU]
theorem a1K(s:St)(d:DE):(mkT s d).length<=s.nt+d.n4:=by
 have h1:(mkT s d).length=(aTH s d++pre d.tk d.n4).length:=stab_perm.length_eq;have h2:(aTH s d).length<=s.nt:=by rw[<-bBX s];exact bKU _ _
 rw[h1,bM,VY];omega
theorem a1M{s:St}{d:DE}{t:Tk}(h:t∈mkT s d):(∃i,i<s.nt/\t=s.tsk i)\/∃i,t=d.tk i:=by
 rcases dC.1 (stab_perm.mem_iff.1 h)with h|h;.exact .inl (mem_tkL.1 (lW.1 h).1)
 obtain⟨i,_,e⟩:=mem_pre.1 h;exact .inr ⟨i,e.symm⟩
def bKS(s:St):Prop:=s.nu=s.nk/\∀g,g<s.ns->s.nsp g=s.nk
theorem a5H:TkR gX:=⟨bR _,by decide,bR _,by decide,bR _⟩
structure DSm (d:DE):Prop where
 tk:∀i,TkR (d.tk i)
 sp:∀i,SpR (d.sp i).2.2
theorem a4I{s:St}{d:DE}(h:PreW s)(hd:DSm d)(hn:s.nt+d.n4<=200):PreW (IF s d):=by
 have hl:=a1K s d;refine aYM ⟨h.sm.ng,h.sm.nk,h.sm.nu,by show(mkT s d).length<=_;omega,h.sm.ns,h.sm.nsp⟩ (by show(mkT s d).length<=_;omega) h.ns h.p1 h.c0 (λ i=>?_) (ZO _ _ (λ g c=>h.spr g c) λ x hx=>?_)
 .show TkR ((mkT s d).getD i gX);by_cases hi:i<(mkT s d).length
  .rcases a1M (xU (z:=gX) hi)with⟨j,_,e⟩|⟨j,e⟩;.rw[e];exact h.tkr j
   rw[e];exact hd.tk j
  rw[qE oO];exact a5H
 obtain⟨j,_,rfl⟩:=mem_pre.1 (show x∈pre d.sp d.n5 from hx);exact hd.sp j
theorem CZ{s:St}(h:dQ s=[]):bKS s/\0<s.nk/\s.nk<=64/\0<s.ng/\s.ng<=256/\s.ns=s.ng:=by obtain⟨h1,h2⟩:=nG (s:=s) (by rw[h];rfl);obtain⟨⟨r1,r2,r3,r4,r5,r6,r7⟩,_⟩:=gT h1;obtain⟨k1,k2,k3,k4⟩:=shapes_nil h2;exact⟨⟨oO,λ g hg=>by have:=k4 g hg;omega⟩,oO,oO,oO,r5,k3⟩
def aPL(s:St)(d:DE):Prop:=a4H s (CD d) (mkT s d)
def HN(s:St)(d:DE):Bool:=decide (DX s (IF s d)=0)&&eqD (tI (btw s (IF s d))) d
theorem apOkB_iff{s:St}{d:DE}:HN s d=aB↔aPL s d:=by rw[HN,aH,decide_eq_true_iff,aKY];rfl
def bAH(s:St)(d:DE):Int:=if(dQ s).isEmpty then(if HN s d then 0 else 352)else 350
def bAG(s:St)(d:DE):St:=if(dQ s).isEmpty&&HN s d then IF s d else zSt
theorem emp_iff{l:List Flt}:l.isEmpty=aB↔l=[]:=List.isEmpty_iff
theorem aXT{s:St}{d:DE}(h:dQ s=[])(h':aPL s d):bAH s d=0/\bAG s d=IF s d:=by have e:(dQ s).isEmpty=aB:=emp_iff.2 h;have e2:HN s d=aB:=apOkB_iff.2 h';simp[bAH,bAG,e,e2]
theorem bAF{s:St}{d:DE}{m:List Tk}(h:dQ s=[])(hm:FitD s (CD d)->qS (mU s) (CD d).gn (CD d).tk m):(aPL s d↔appR s (CD d) m)/\(aPL s d->IF s d=YN s (CD d) m):=by refine a4F h (CZ h).2.1 ?_ (λ hid=>aRB λ t ht=>hid t (stab_perm.mem_iff.2 ht)) hm;have e:aTH s d=EF (mU s) (CD d).gn (CD d).tk:=aNO s d;rw[mkT,e];exact stab_perm
end Go.Proofs.T
end
