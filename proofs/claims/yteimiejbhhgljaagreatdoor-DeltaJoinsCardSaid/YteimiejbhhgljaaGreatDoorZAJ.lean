import Derived.Test.YteimiejbhhgljaaGreatDoorZAI
import Derived.Laws.Bits64
import Derived.Shelf.SlGeneric
import Derived.Shelf.SlLaysF0
import Derived.Ground.SlsfProg
import Derived.Test.YteimiejbhhgljaaGreatDoorProg
set_option linter.unusedVariables false
set_option linter.unusedSimpArgs false
set_option maxHeartbeats 0
set_option maxRecDepth 100000
open Bool renaming and_eq_true->aH,and_false->KV,and_true->iC,eq_iff_iff->bH,false->aE,false_and->KU,false_eq_true->aS,not_eq_true'->bD,or_eq_true->bL,true->aB,true_and->lG,true_eq_false->bX
open Int renaming ediv_nonneg->a5D,emod_lt_of_pos->rU,emod_nonneg->RZ,le_refl->bR,toNat_natCast->bP,toNat_of_nonneg->gA
open Go.IntKind renaming i64->aL,u64->aY
open List renaming all_cons->fU,all_eq_true->aW,all_nil->AA,append_assoc->cM,append_nil->cZ,cons_append->aV,eq_nil_of_length_eq_zero->jU,ext_getElem?->dZ,getD->oH,getD_eq_getElem?_getD->aR,getElem?_replicate->oG,getElem?_set->dD,getElem?_set_self->fW,getElem_mem->JR,isEmpty_cons->YH,isEmpty_nil->bNX,length_append->bM,length_set->oE,map->rS,map_append->aM,map_cons->bI,map_map->jM,map_nil->bQ,map_set->iX,mem_append->dC,mem_map->dB,mem_singleton->MU,nil_append->aU,range->aN,replicate->bE
open Nat renaming add_assoc->gD,add_mul->cQ,add_sub_cancel->a4V,add_sub_cancel_left->lE,le_refl->aF,le_succ->mF,lt_succ_self->cW,mul_one->HW,not_lt_zero->bO,sub_self->RX,zero_le->aZ
open Option renaming isNone_iff_eq_none->qQ,none->aC,some->aA
open Go.Proofs.Tryz renaming isAgg189->HU,isAgg3->RU,isAgg4->aPV,isAgg5->aPU,isAgg50->RT,isAgg9->aPT,prog->aD,sizeOf0->bKO,sizeOf189->AU,sizeOf3->FN,sizeOf4->RS,sizeOf5->RR,sizeOf50->HT,sizeOf9->RQ,underlying0->JN,underlying189->nZ,underlying22->YC,underlying3->jT,underlying4->mB,underlying5->dH,underlying50->lD,underlying9->jC,zeroValue0->RP,zeroValue189->pT,zeroValue22->aLQ,zeroValue3->qV,zeroValue4->wA,zeroValue5->vZ,zeroValue50->sO,zeroValue9->vY
open Go.Value renaming bool->EA
section
namespace Go.Proofs.T
open Go Go.AM Go.Proofs
variable{Γ:dL}
def LSt.setW (L:LSt)(g:Nat)(w:Int):LSt:={L with gl:=L.gl.set g (L.par g,w)}
theorem NI{L:LSt}{g h:Nat}{w:Int}:(L.setW g w).par h=L.par h:=by
 unfold LSt.setW LSt.par;simp only[aR,dD];by_cases e:g=h
 .subst e;by_cases hl:g<L.gl.length;.simp[hl]
  simp[hl]
 rw[iN e]
theorem VP{L:LSt}{g h:Nat}{w:Int}(hg:g<L.gl.length):(L.setW g w).wt h=if h=g then w else L.wt h:=by
 unfold LSt.setW LSt.wt;simp only[aR,dD];by_cases e:h=g;.subst e;simp[hg]
 rw[iN (Ne.symm e),iN e]
theorem Rt0.setW {L:LSt}{n g:Nat}{w:Int}(h:Rt0 L n)(hg:g<L.sl.length)(hg0:0<g)(hw:1<=w/\w<=65536)(hr:∀c,c<n->(L.sp g c).r=0):Rt0 (L.setW g w) n:=by
 have hgl:g<L.gl.length:=by rw[h.ng];exact hg
 refine⟨h.n1,h.n64,h.cpus,h.cr0,h.cr,by show(L.gl.set g _).length=_;rw[oE];exact h.ng,h.ns1,h.ns,h.nk,h.nu,h.rows,h.nt,λ j h1 h2=>by rw[NI];exact h.par j h1 h2,by rw[NI];exact h.par0,λ j hj=>?_,h.clk,λ j c hj hc=>?_,h.root,λ i hi=>by have t:=h.tk i hi;exact⟨t.id1,t.id2,t.g0,t.g1,t.c0,t.c1,t.e,t.v0,t.v1,t.r0,t.m0,t.m1,t.m2,t.m3⟩,h.sorted,h.cur⟩
 .rw[VP hgl];split;.exact hw
  exact h.wt j hj
 rw[VP hgl];obtain⟨a1,a2,a3,a4,a5,a6⟩:=h.sp j c hj hc;split;.rename_i e;subst e;have:=hr c hc;refine⟨?_,a2,a3,a4,a5,a6⟩;show pK (L.sp j c).v (L.sp j c).r w=aB;rw[this];simp[pK];omega
 exact⟨a1,a2,a3,a4,a5,a6⟩
def rw1(L:LSt)(g c:Nat):LSt:=L.setS g c {L.sp g c with r:=0}
def VQ(L:LSt)(g:Nat):Nat->LSt
 |0=>L
 |j+1=>rw1 (VQ L g j) g j
theorem aEG{L:LSt}{n g:Nat}(h:Rt0 L n)(hg:g<L.sl.length):∀ {j:Nat},j<=n->Rt0 (VQ L g j) n/\Fwd L (VQ L g j)/\(VQ L g j).tl=L.tl/\∀c,c<j->((VQ L g j).sp g c).r=0
 |0,_=>⟨h,fN L,rfl,λ c hc=>absurd hc (bO _)⟩
 |j+1,hj=>by
  obtain⟨h1,h2,h3,h4⟩:=aEG h hg (j:=j) oO;have hg':g<(VQ L g j).sl.length:=by rw[h2.ns];exact hg
  have hr:=h1.rows g hg';have hjr:j<((VQ L g j).sl.getD g []).length:=oO;obtain⟨a1,a2,a3,a4,a5,a6⟩:=h1.sp g j hg' oO;refine⟨h1.setS hg' oO ⟨?_,a2,a3,bR _,a5,a6⟩ (λ e=>by subst e;exact⟨(h1.root j oO).1,rfl⟩),h2.trans (Fwd.setS hg' hjr (bR _)) (.inl rfl),h3,λ c hc=>?_⟩;.simp only[pK,dTt]at a1;show pK _ 0 _=aB;simp only[pK,dTt];exact⟨a1.1,a1.2.1,oO,.inr trivial⟩
  show((rw1 (VQ L g j) g j).sp g c).r=0;rw[rw1,yL hg' hjr];split;.rfl
  rename_i e;exact h4 c (by have:c≠j:=λ e2=>e ⟨rfl,e2⟩;omega)
theorem a4Y{m tk g:Nat}{L:LSt}{w:Int}:MH m tk (L.setW g w)=(m,⟨8,aE,[fG m tk L]⟩)::(m+1,⟨2,aB,(QT L).set g [(L.par g),w]⟩)::(m+2,⟨1,aB,RG L⟩)::(m+3,⟨1,aB,KW L⟩)::(m+5,⟨1,aE,GD m L⟩)::(tk,⟨8,aB,oJ L⟩)::mE (m+6) 3 L.sl.length (BB L):=by
 have e:fG m tk (L.setW g w)=fG m tk L:=by simp[fG,LSt.setW]
 have e2:QT (L.setW g w)=(QT L).set g [(L.par g),w]:=by simp[QT,LSt.setW,iX,glc]
 rw[MH,LH,e,e2];rfl
theorem a0M(L:LSt)(n:Nat)(hS:Rt0 L n)(o:Opn)(m tk k:Nat)(hm:m+6+L.sl.length<=tk)(hk:tk<k):OpOk Γ 94 L n o m tk k:=by
 have hns:=hS.ns;have hn64:=hS.n64;have hng:=hS.ng;have hw1:=wP o.weight (Γ:=Γ);by_cases h1:1<=o.group/\o.group<L.sl.length;rotate_left
 .refine⟨L,0,302,tk,k,hS,⟨fN L,.inr rfl⟩,hm,⟨hk,.inl rfl⟩,aF _,?_⟩;obtain⟨RH,eRH⟩:∃x:aO,x=MH m tk L:=⟨_,rfl⟩;obtain⟨RV,eRV⟩:∃x:AVal,x=jQ 0 302:=⟨_,rfl⟩;refine Tr.mono (dR (k:=k) (V:=RV) (RH:=RH) oO (by rw[eRV];rfl) (by rw[eRH];exact fL oO oO) ?_) (λ _ _ _ h=>⟨h.1,h.2.1.trans eRV,h.2.2.trans eRH⟩);refine cN Tryz.func94 rfl 102 rfl bB ?_;simp only[MH,LH];have kp:Kp [0,1,3,4,5,6,7,8,9,14,28,41,42,43] (λ i=>if k<=i then i-k+1 else 0):=jZ;refine dJ ?_;refine SG ⟨λ ht=>⟨λ hg=>⟨?_⟩⟩⟩ ⟨λ ht=>⟨λ hg=>⟨?_⟩⟩⟩
  iterate 2
   · refine kJ (zN ?_)
     refine⟨?_,?_⟩
     · rw[eRV];rfl
     · rw[eRH]
       simp only[MH,LH]
       exact fR gG
 by_cases h2:1<=o.weight/\o.weight<=65536;rotate_left
 .rw[decide_eq_false h2]at hw1;refine⟨L,0,2,tk,k,hS,⟨fN L,.inr rfl⟩,hm,⟨hk,.inl rfl⟩,aF _,?_⟩;obtain⟨RH,eRH⟩:∃x:aO,x=MH m tk L:=⟨_,rfl⟩;obtain⟨RV,eRV⟩:∃x:AVal,x=jQ 0 2:=⟨_,rfl⟩;refine Tr.mono (dR (k:=k) (V:=RV) (RH:=RH) oO (by rw[eRV];rfl) (by rw[eRH];exact fL oO oO) ?_) (λ _ _ _ h=>⟨h.1,h.2.1.trans eRV,h.2.2.trans eRH⟩);refine cN Tryz.func94 rfl 102 rfl bB ?_;simp only[MH,LH];have kp:Kp [0,1,3,4,5,6,7,8,9,14,28,41,42,43] (λ i=>if k<=i then i-k+1 else 0):=jZ;refine dJ ?_;refine oU ⟨λ ht=>⟨λ hg=>⟨?_⟩⟩⟩;refine jR [.ret aE] ?_;refine cA ?_;refine dJ ?_;refine dI λ ht=>?_;refine kJ (zN ?_);refine⟨?_,?_⟩;.rw[eRV];rfl
  rw[eRH];simp only[MH,LH];exact fR gG
 rw[decide_eq_true h2]at hw1;obtain⟨g,hgg⟩:∃g:Nat,o.group=(g:Int):=⟨o.group.toNat,oO⟩;have hg0:0<g:=oO;have hg1:g<L.sl.length:=oO;obtain⟨hN,hNF,hNt,hNr⟩:=aEG hS hg1 (aF n);have hNns:=hNF.ns;have hNS:Rt0 ((VQ L g n).setW g o.weight) n:=hN.setW oO hg0 h2 hNr;refine⟨(VQ L g n).setW g o.weight,0,0,tk,k,hNS,⟨hNF.trans ⟨rfl,rfl,rfl,λ _=>NI,λ _=>bR _,λ _ _=>bR _,mF _,by rw[VP (by have:=hN.ng;omega),iN oO]⟩ (.inl rfl),.inl rfl⟩,hm,⟨hk,.inl rfl⟩,aF _,?_⟩;have hLs:((VQ L g n).setW g o.weight).sl.length=L.sl.length:=hNns;have hrow:=hS.rows g hg1;have hO:gJ o=[.lit (.int .u8 o.kind),.lit (.int .i64 o.cpu),.lit (.int .i64 o.task),.lit (.int .i64 (g:Int)),.lit (.int .i64 o.weight),.lit (.int .i64 o.to),.lit (.int .i64 o.ticks),.lit (.int .u64 o.mask)]:=by rw[<-hgg];rfl
 obtain⟨F,hF⟩:∃F:Nat->aO,∀j,F j=(k,⟨8,aB,[gJ o]⟩)::MH m tk (VQ L g j):=⟨_,λ _=>rfl⟩;obtain⟨RH,eRH⟩:∃x:aO,x=MH m tk ((VQ L g n).setW g o.weight):=⟨_,rfl⟩;obtain⟨RV,eRV⟩:∃x:AVal,x=jQ 0 0:=⟨_,rfl⟩;refine Tr.mono (dR (k:=k) (V:=RV) (RH:=RH) oO (by rw[eRV];rfl) (by rw[eRH];exact fL oO oO) ?_) (λ _ _ _ h=>⟨h.1,h.2.1.trans eRV,h.2.2.trans eRH⟩);refine cN Tryz.func94 rfl 102 rfl bB ?_;simp only[MH,LH];have kp:Kp [0,1,3,4,5,6,7,8,9,14,28,41,42,43] (λ i=>if k<=i then i-k+1 else 0):=jZ;have uU:=zA hgg hrow;refine dJ ?_;refine oU ⟨λ ht=>⟨λ hg=>⟨?_⟩⟩⟩;refine jR [.ret aB] ?_;refine cA ?_;refine dJ ?_;refine dI λ ht=>?_;refine bY (X:=Nat) rfl [0,1,3,4,5,6,7,8,9,14,28,41,42,43] (k+1) (λ j=>[(42,j)]) (λ j=>F j) (λ j=>j<=n) (λ j=>n-j) 0 ?_ (aZ _) ?_;.rw[hF,hO,VQ];simp only[MH,LH];refine fR ?_;apply zN;exact gM
 intro j hj;obtain⟨hM,hMF,hMt,hMr⟩:=aEG hS hg1 hj;have hMl:=hMF.ns;have hsucc:VQ L g (j+1)=rw1 (VQ L g j) g j:=rfl;have hlast:j=n->VQ L g n=VQ L g j:=λ e=>by rw[e]
 rw[hF j,hO];obtain⟨M,eM⟩:∃M,M=VQ L g j:=⟨_,rfl⟩;rw[<-eM]at hM hMl hMF hsucc hlast⊢
 have hMrow:=hM.rows g oO;have hMng:=hM.ng;simp only[MH,LH];have uU:=zA hgg hMrow;refine fR ?_;apply zN;by_cases hj2:j<n
 .have hs1:=hM.sp g j oO hj2;have hwt:=hM.wt g oO;have hset:∀x,((BB M g).set j x)[j]? =aA x:=λ x=>fW (by rw[CR,hMrow];exact hj2);have uU:=DR hgg hMrow hset @ssN;refine dJ ?_;refine dI λ ht=>?_;refine AI [.ret (enc (M.sp g j).v (M.sp g j).r (M.wt g)),.ret (.tup [enc (M.sp g j).v 0 o.weight,(0:Int)])] ?_;refine jV (zs ?_) (zs ?_) (zs ?_);.exact qB _ _ _ oO oO
  .exact KO _ _ _ _ hs1.1 h2.1 h2.2
  refine dJ ?_;refine cA ?_;refine⟨j+1,oO,oO,?_⟩;rw[hF,hO,hsucc,rw1,MT oO];refine fR ?_;apply zN;exact gM
 have hj3:j=n:=oO;rw[hlast hj3]at eRH;have hsetg:∀x,((QT M).set g x)[g]? =aA x:=λ x=>fW (by rw[MF];omega);have uU:=tZ hgg hMrow hsetg;refine dJ ?_;refine dI λ ht=>?_;have uU:=tZ hgg hMrow hsetg;refine kJ (zN ?_);refine⟨?_,?_⟩;.rw[eRV];rfl
 rw[eRH,a4Y];simp only[fG];exact fR gG
def LSt.setK (L:LSt)(c:Nat)(x:Int):LSt:={L with kl:=L.kl.set c x}
theorem ZJ{L:LSt}{c d:Nat}{x:Int}(hc:c<L.kl.length):(L.setK c x).clk d=if d=c then x else L.clk d:=by
 unfold LSt.setK LSt.clk;simp only[aR,dD];by_cases h:d=c;.subst h;simp[hc]
 rw[iN (Ne.symm h),iN h]
theorem aLV{m tk c:Nat}{L:LSt}{x:Int}:MH m tk (L.setK c x)=(m,⟨8,aE,[fG m tk L]⟩)::(m+1,⟨2,aB,QT L⟩)::(m+2,⟨1,aB,(RG L).set c [x]⟩)::(m+3,⟨1,aB,KW L⟩)::(m+5,⟨1,aE,GD m L⟩)::(tk,⟨8,aB,oJ L⟩)::mE (m+6) 3 L.sl.length (BB L):=by
 have e:fG m tk (L.setK c x)=fG m tk L:=by simp[fG,LSt.setK]
 have e2:RG (L.setK c x)=(RG L).set c [x]:=by simp[RG,LSt.setK,iX,inc]
 rw[MH,LH,e,e2];rfl
theorem Rt0.setK {L:LSt}{n c:Nat}{x:Int}(h:Rt0 L n)(hc:c<n)(hx:0<=x/\x<=281474976710656):Rt0 (L.setK c x) n:=
 ⟨h.n1,h.n64,h.cpus,h.cr0,h.cr,h.ng,h.ns1,h.ns,by show(L.kl.set c x).length=n;rw[oE];exact h.nk,h.nu,h.rows,h.nt,h.par,h.par0,h.wt,λ d hd=>by
  rw[ZJ (by rw[h.nk];exact hc)];split;.exact hx
  exact h.clk d hd,h.sp,h.root,λ i hi=>by have t:=h.tk i hi;exact⟨t.id1,t.id2,t.g0,t.g1,t.c0,t.c1,t.e,t.v0,t.v1,t.r0,t.m0,t.m1,t.m2,t.m3⟩,h.sorted,h.cur⟩
theorem Fwd.setK {L:LSt}{c:Nat}{x:Int}(hc:c<L.kl.length)(hx:L.clk c<=x):Fwd L (L.setK c x):=
 ⟨rfl,rfl,rfl,λ _=>rfl,λ d=>by
  rw[ZJ hc];split;.rename_i e;rw[e];exact hx
  exact bR _,λ _ _=>bR _,mF _,rfl⟩
theorem aXY{v r w t:Int}(he:pK v r w=aB)(hv:0<=v)(hv2:v<=18446744073709551615)(hr:0<=r)(ht:0<=t):
 pK (CJ v r w t).1 (CJ v r w t).2 w=aB/\0<=(CJ v r w t).1/\(CJ v r w t).1<=18446744073709551615/\0<=(CJ v r w t).2:=by
 simp only[pK,dTt]at he;obtain⟨q,eq⟩:∃q,q=(t*1048576+r)/w:=⟨_,rfl⟩;obtain⟨s,es⟩:∃s,s=(t*1048576+r)%w:=⟨_,rfl⟩;have h1:0<=q:=by rw[eq];exact a5D oO oO
 have h2:0<=s:=by rw[es];exact RZ _ oO
 have h3:s<w:=by rw[es];exact rU _ oO
 unfold CJ;rw[<-eq,<-es];split;.simp only[pK,dTt];exact⟨⟨he.1,he.2.1,oO,.inr trivial⟩,oO,oO,oO⟩
 simp only[pK,dTt];refine⟨?_,?_,?_,?_⟩<;>omega
def aOZ(L:LSt)(c:Nat)(t:Int)(g:Nat):LSt:=L.setS g c {L.sp g c with v:=(CJ (L.sp g c).v (L.sp g c).r (L.wt g) t).1,r:=(CJ (L.sp g c).v (L.sp g c).r (L.wt g) t).2}
def aCH(c:Nat)(t:Int):Nat->LSt->Nat->LSt
 |0,L,_=>L
 |f+1,L,g=>if g=0 then L else aCH c t f (aOZ L c t g) (L.par g).toNat
theorem aLK{L:LSt}{n c g:Nat}{t:Int}(h:Rt0 L n)(hc:c<n)(hg0:0<g)(hg:g<L.sl.length)(ht:0<=t):Rt0 (aOZ L c t g) n/\Fwd L (aOZ L c t g)/\(aOZ L c t g).tl=L.tl:=by obtain⟨a1,a2,a3,a4,a5,a6⟩:=h.sp g c hg hc;have:=aXY a1 a2 a3 a4 ht;exact⟨h.setS hg hc ⟨this.1,this.2.1,this.2.2.1,this.2.2.2,a5,a6⟩ (λ e=>oO),Fwd.setS hg (by rw[h.rows g hg];exact hc) (bR _),rfl⟩
theorem aLJ{n c:Nat}{t:Int}(hc:c<n)(ht:0<=t):∀ {f:Nat} {L:LSt} {g:Nat},Rt0 L n->g<L.sl.length->Rt0 (aCH c t f L g) n/\Fwd L (aCH c t f L g)/\(aCH c t f L g).tl=L.tl
 |0,L,g,h,_=>⟨h,fN L,rfl⟩
 |f+1,L,g,h,hg=>by
  rw[aCH];split;.exact⟨h,fN L,rfl⟩
  rename_i hg0;obtain⟨h1,h2,h3⟩:=aLK h hc oO hg ht;have hp:=h.par g oO hg;obtain⟨h4,h5,h6⟩:=aLJ hc ht (f:=f) (g:=(L.par g).toNat) h1 (by rw[h2.ns];omega);exact⟨h4,h2.trans h5 (.inl (by rw[h6])),h6.trans h3⟩
theorem bGU(L:LSt)(n:Nat)(hS:Rt0 L n)(o:Opn)(m tk k:Nat)(hm:m+6+L.sl.length<=tk)(hk:tk<k):OpOk Γ 91 L n o m tk k:=by
 have hnt:=hS.nt;have hcp:=hS.cpus;have hnu:=hS.nu;have hnk:=hS.nk;have hn64:=hS.n64;have hcpu:=cpu L o.cpu m tk (k+1) hm oO (Γ:=Γ);by_cases h1:0<=o.cpu/\o.cpu<L.cpus;rotate_left
 .rw[decide_eq_false h1]at hcpu;refine⟨L,0,300,tk,k,hS,⟨fN L,.inr rfl⟩,hm,⟨hk,.inl rfl⟩,aF _,?_⟩;obtain⟨RH,eRH⟩:∃x:aO,x=MH m tk L:=⟨_,rfl⟩;obtain⟨RV,eRV⟩:∃x:AVal,x=jQ (0) 300:=⟨_,rfl⟩;refine Tr.mono (dR (k:=k) (V:=RV) (RH:=RH) oO (by rw[eRV];rfl) (by rw[eRH];exact fL oO oO) ?_) (λ _ _ _ h=>⟨h.1,h.2.1.trans eRV,h.2.2.trans eRH⟩);refine cN Tryz.func91 rfl 158 rfl bB ?_;simp only[MH,LH];have kp:Kp [0,1,3,4,5,6,7,8,9,11,12,13,18,24,33,67,103] (λ i=>if k<=i then i-k+1 else 0):=jZ;refine dJ ?_;refine cA ?_;refine jR [.far (.lit (.bool aE)) (k+1) [(k,⟨8,aB,[gJ o]⟩)] (MH m tk L) (MH m tk L)] ?_;refine jV (zs ?_) (zs ?_) (zs ?_);.intro q;simp only[MH,LH,fG,gJ,aV,aU]
  .exact cB (λ i hi=>by simp only[AM.look];repeat(rw[iN oO])) rfl
  simp only[MH,LH];refine fR ?_;apply zN;refine dJ ?_;refine dI λ ht=>?_;refine kJ (zN ?_);refine⟨?_,?_⟩;.rw[eRV];rfl
  rw[eRH];simp only[MH,LH];exact fR gG
 rw[decide_eq_true h1]at hcpu;obtain⟨c,hc⟩:∃c:Nat,o.cpu=(c:Int):=⟨o.cpu.toNat,oO⟩;rw[hc]at hcpu;have hcn:c<n:=oO;have hO:gJ o=[.lit (.int .u8 o.kind),.lit (.int .i64 (c:Int)),.lit (.int .i64 o.task),.lit (.int .i64 o.group),.lit (.int .i64 o.weight),.lit (.int .i64 o.to),.lit (.int .i64 o.ticks),.lit (.int .u64 o.mask)]:=by rw[<-hc];rfl
 by_cases h2:1<=o.ticks/\o.ticks<=4294967295;rotate_left
 .refine⟨L,0,2,tk,k,hS,⟨fN L,.inr rfl⟩,hm,⟨hk,.inl rfl⟩,aF _,?_⟩;obtain⟨RH,eRH⟩:∃x:aO,x=MH m tk L:=⟨_,rfl⟩;obtain⟨RV,eRV⟩:∃x:AVal,x=jQ (0) 2:=⟨_,rfl⟩;refine Tr.mono (dR (k:=k) (V:=RV) (RH:=RH) oO (by rw[eRV];rfl) (by rw[eRH];exact fL oO oO) ?_) (λ _ _ _ h=>⟨h.1,h.2.1.trans eRV,h.2.2.trans eRH⟩);refine cN Tryz.func91 rfl 158 rfl bB ?_;simp only[MH,LH];have kp:Kp [0,1,3,4,5,6,7,8,9,11,12,13,18,24,33,67,103] (λ i=>if k<=i then i-k+1 else 0):=jZ;have uU:=hc;refine dJ ?_;refine cA ?_;refine jR [.far (.lit (.bool aB)) (k+1) [(k,⟨8,aB,[gJ o]⟩)] (MH m tk L) (MH m tk L)] ?_;refine jV (zs ?_) (zs ?_) (zs ?_);.intro q;simp only[MH,LH,fG,gJ,hc,aV,aU]
  .exact cB (λ i hi=>by simp only[AM.look];repeat(rw[iN oO])) rfl
  simp only[MH,LH];refine fR ?_;apply zN;refine dJ ?_;refine SG ⟨λ ht ht=>⟨λ hg=>⟨?_⟩⟩⟩ ⟨λ ht ht=>⟨λ hg=>⟨?_⟩⟩⟩
  iterate 2
   · have uU:=hc;refine kJ (zN ?_)
     refine⟨?_,?_⟩
     · rw[eRV];rfl
     · rw[eRH]
       simp only[MH,LH]
       exact fR gG
 have hck:=hS.clk c hcn;have hwr:aL.wrap (L.clk c+o.ticks)=L.clk c+o.ticks:=wrap_i64 oO oO;by_cases h3:L.clk c+o.ticks<=281474976710656;rotate_left
 .refine⟨L,0,4,tk,k,hS,⟨fN L,.inr rfl⟩,hm,⟨hk,.inl rfl⟩,aF _,?_⟩;obtain⟨RH,eRH⟩:∃x:aO,x=MH m tk L:=⟨_,rfl⟩;obtain⟨RV,eRV⟩:∃x:AVal,x=jQ (0) 4:=⟨_,rfl⟩;refine Tr.mono (dR (k:=k) (V:=RV) (RH:=RH) oO (by rw[eRV];rfl) (by rw[eRH];exact fL oO oO) ?_) (λ _ _ _ h=>⟨h.1,h.2.1.trans eRV,h.2.2.trans eRH⟩);refine cN Tryz.func91 rfl 158 rfl bB ?_;simp only[MH,LH];have kp:Kp [0,1,3,4,5,6,7,8,9,11,12,13,18,24,33,67,103] (λ i=>if k<=i then i-k+1 else 0):=jZ;have uU:=zA hc hwr;refine dJ ?_;refine cA ?_;refine jR [.far (.lit (.bool aB)) (k+1) [(k,⟨8,aB,[gJ o]⟩)] (MH m tk L) (MH m tk L)] ?_;refine jV (zs ?_) (zs ?_) (zs ?_);.intro q;simp only[MH,LH,fG,gJ,hc,aV,aU]
  .exact cB (λ i hi=>by simp only[AM.look];repeat(rw[iN oO])) rfl
  simp only[MH,LH];refine fR ?_;apply zN;refine dJ ?_;refine oU ⟨λ ht ht ht=>⟨λ hg=>⟨?_⟩⟩⟩;have uU:=zA hc hwr;refine kJ (zN ?_);refine⟨?_,?_⟩;.rw[eRV];rfl
  rw[eRH];simp only[MH,LH];exact fR gG
 have hK:Rt0 (L.setK c (L.clk c+o.ticks)) n:=hS.setK hcn ⟨oO,h3⟩;have hKF:Fwd L (L.setK c (L.clk c+o.ticks)):=Fwd.setK oO oO;have hsetk:∀x,((RG L).set c x)[c]? =aA x:=λ x=>fW (by rw[MC];omega);by_cases h4:L.cur c=0
 .refine⟨L.setK c (L.clk c+o.ticks),0,0,tk,k,hK,⟨hKF,.inl rfl⟩,hm,⟨hk,.inl rfl⟩,aF _,?_⟩;have hLs:(L.setK c (L.clk c+o.ticks)).sl.length=L.sl.length:=rfl;obtain⟨RH,eRH⟩:∃x:aO,x=MH m tk (L.setK c (L.clk c+o.ticks)):=⟨_,rfl⟩;obtain⟨RV,eRV⟩:∃x:AVal,x=jQ (0) 0:=⟨_,rfl⟩;refine Tr.mono (dR (k:=k) (V:=RV) (RH:=RH) oO (by rw[eRV];rfl) (by rw[eRH];exact fL oO oO) ?_) (λ _ _ _ h=>⟨h.1,h.2.1.trans eRV,h.2.2.trans eRH⟩);refine cN Tryz.func91 rfl 158 rfl bB ?_;simp only[MH,LH];have kp:Kp [0,1,3,4,5,6,7,8,9,11,12,13,18,24,33,67,103] (λ i=>if k<=i then i-k+1 else 0):=jZ;have uU:=DR hc hwr hsetk h4;refine dJ ?_;refine cA ?_;refine jR [.far (.lit (.bool aB)) (k+1) [(k,⟨8,aB,[gJ o]⟩)] (MH m tk L) (MH m tk L)] ?_;refine jV (zs ?_) (zs ?_) (zs ?_);.intro q;simp only[MH,LH,fG,gJ,hc,aV,aU]
  .exact cB (λ i hi=>by simp only[AM.look];repeat(rw[iN oO])) rfl
  simp only[MH,LH];refine fR ?_;apply zN;refine dJ ?_;refine oU ⟨λ ht ht ht ht=>⟨λ hg=>⟨?_⟩⟩⟩;have uU:=DR hc hwr hsetk h4;refine kJ (zN ?_);refine⟨?_,?_⟩;.rw[eRV];rfl
  rw[eRH,aLV];simp only[fG];exact fR gG
 obtain⟨i,hi0,hir,hic,hid0⟩:=(hS.cur c hcn).resolve_left h4;have eMH:=aLV (m:=m) (tk:=tk) (c:=c) (L:=L) (x:=L.clk c+o.ticks);simp only[fG]at eMH;obtain⟨Kx,eK⟩:∃Kx,Kx=L.setK c (L.clk c+o.ticks):=⟨_,rfl⟩;rw[<-eK]at eMH hK hKF;have hKt:Kx.tl=L.tl:=by rw[eK];rfl
 have hKs:Kx.sl.length=L.sl.length:=by rw[eK];rfl
 have hKc:L.cur c=Kx.cur c:=by rw[eK];rfl
 have hKi:Kx.tsk i=L.tsk i:=by rw[eK];rfl
 have hi:i<Kx.tl.length:=by rw[hKt];exact hi0
 have hfp:=a5Y Kx (Kx.cur c) i (.inr ⟨i,hi,rfl,by rw[hKi,hid0,hKc]⟩) hK.sorted (by have:=hK.nt;omega) (Γ:=Γ);rw[<-hKc]at hfp;have hmK:m+6+Kx.sl.length<=tk:=oO;obtain⟨NM,eNM⟩:∃x,x=(MH m tk Kx).map (·.1):=⟨_,rfl⟩;have hNM:YM (NM.map (λ i=>if k<=i then i-k+1 else 0))=[0]:=by rw[eNM];exact sQ hmK hk (λ i hi=>iN oO)
 have hT:=hK.tk i hi;have hTe:=hT.e;simp only[pK,dTt]at hTe;obtain⟨g0,hgr⟩:∃g:Nat,(Kx.tsk i).group=(g:Int):=⟨(Kx.tsk i).group.toNat,by have:=hT.g0;omega⟩;have hg1:g0<Kx.sl.length:=by have:=hT.g1;omega
 have hmv:=aXY (t:=o.ticks) hT.e hT.v0 hT.v1 hT.r0 oO;obtain⟨z,ez⟩:∃z,z=CJ (Kx.tsk i).v (Kx.tsk i).r (Kx.tsk i).weight o.ticks:=⟨_,rfl⟩;rw[<-ez]at hmv;obtain⟨T1,eT⟩:∃T1,T1=(Kx.tsk i).run z.1 z.2 (Kx.tsk i).weight:=⟨_,rfl⟩;have hL1:Rt0 (Kx.setT i T1) n:=by rw[eT];exact hK.setT hi ⟨hT.id1,hT.id2,hT.g0,hT.g1,hT.c0,hT.c1,hmv.1,hmv.2.1,hmv.2.2.1,hmv.2.2.2,hT.m0,hT.m1,hT.m2,hT.m3⟩ rfl (λ d _ _ h3 h4=>⟨h3,h4⟩)
 obtain⟨Z,eZ⟩:∃Z,Z=aCH c o.ticks Kx.sl.length (Kx.setT i T1) g0:=⟨_,rfl⟩;have hZ:=aLJ hcn (oO:0<=o.ticks) (f:=Kx.sl.length) hL1 (g:=g0) (by show g0<Kx.sl.length;exact hg1);rw[<-eZ]at hZ;have hZs:Z.sl.length=L.sl.length:=by rw[hZ.2.1.ns,<-hKs];rfl
 have hset:∀x,((oJ Kx).set i x)[i]? =aA x:=λ x=>fW (by rw[tN];exact hi);have hns:=hS.ns;refine⟨Z,L.cur c,0,tk,k,hZ.1,⟨hKF.trans (Fwd.setT.trans hZ.2.1 (.inl (by rw[hZ.2.2]))) (.inr (by rw[hKt];exact aF _)),.inl rfl⟩,hm,⟨hk,.inl rfl⟩,aF _,?_⟩;obtain⟨RH,eRH⟩:∃x:aO,x=MH m tk Z:=⟨_,rfl⟩;obtain⟨RV,eRV⟩:∃x:AVal,x=jQ (L.cur c) 0:=⟨_,rfl⟩;refine Tr.mono (dR (k:=k) (V:=RV) (RH:=RH) oO (by rw[eRV];rfl) (by rw[eRH];exact fL oO oO) ?_) (λ _ _ _ h=>⟨h.1,h.2.1.trans eRV,h.2.2.trans eRH⟩);obtain⟨F,hF⟩:∃F:LSt->aO,∀M,F M=(k,⟨8,aB,[gJ o]⟩)::MH m tk M:=⟨_,λ _=>rfl⟩;refine cN Tryz.func91 rfl 158 rfl bB ?_;simp only[MH,LH];have kp:Kp [0,1,3,4,5,6,7,8,9,11,12,13,18,24,33,67,103] (λ i=>if k<=i then i-k+1 else 0):=jZ;have uU:=tZ hc hwr hsetk;refine dJ ?_;refine cA ?_;refine jR [.far (.lit (.bool aB)) (k+1) [(k,⟨8,aB,[gJ o]⟩)] (MH m tk L) (MH m tk L)] ?_;refine jV (zs ?_) (zs ?_) (zs ?_);.intro q;simp only[MH,LH,fG,gJ,hc,aV,aU]
 .exact cB (λ i hi=>by simp only[AM.look];repeat(rw[iN oO])) rfl
 simp only[MH,LH];refine fR ?_;apply zN;refine dJ ?_;refine oU ⟨λ ht ht ht ht=>⟨λ hg=>⟨?_⟩⟩⟩;rw[<-eMH];simp only[MH,LH];have uU:=zA hc hNM;refine AI [.raw (aA 74) ⟨.lit (.int .i64 (i:Int)),k+1,[],NM⟩] ?_;refine iE ?_ ?_;.exact RF (loc:=[(k,⟨8,aB,_⟩)]) hmK rfl iF rfl rfl rfl (λ x hx=>by rw[MU.1 hx];exact hk) hfp eNM
 refine dJ ?_;refine cA ?_;refine AI [.ret (enc (Kx.tsk i).v (Kx.tsk i).r (Kx.tsk i).weight),.ret (.tup [enc z.1 z.2 (Kx.tsk i).weight,(0:Int)])] ?_;refine jV (zs ?_) (zs ?_) (zs ?_);.exact qB _ _ _ oO oO
 .rw[ez];exact UN _ _ _ _ hT.e hT.v0 hT.v1 hT.r0 oO oO
 refine dJ ?_;refine cA ?_;refine jR [.gen (.tup []) (k+2) [(tk,⟨8,aB,oJ Kx⟩)] [(tk,⟨8,aB,(oJ Kx).set i (tkc ((Kx.tsk i).run z.1 z.2 (Kx.tsk i).weight))⟩)]] ?_;refine iE ?_ ?_;.exact aNN (Kx.tsk i) z.1 z.2 (Kx.tsk i).weight (oJ Kx) tk i (wH hi) oO oO (k+2) oO
 have uU:=DR hc hgr hset @Tk.run.eq_1;refine dJ ?_;refine cA ?_;have hT1:tkc T1=[.lit (.int .i64 (Kx.tsk i).id),.lit (.int .i64 (g0:Int)),.lit (.int .i64 (Kx.tsk i).weight),.lit (.int .i64 (Kx.tsk i).cpu),.lit (.int .u64 (Kx.tsk i).mask),.lit (.bool (Kx.tsk i).ready),.lit (.int .u64 z.1),.lit (.int .u32 z.2)]:=by rw[eT,<-hgr];rfl
 refine bY (X:=LSt×Nat×Nat) rfl [0,1,3,4,5,6,7,8,9,11,12,13,18,24,33,67,103] (k+2) (λ x=>[(11,x.2.1)]) (λ x=>F x.1) (λ x=>Rt0 x.1 n/\x.1.sl.length=L.sl.length/\x.2.1<L.sl.length/\x.2.1<x.2.2/\Z=aCH c o.ticks x.2.2 x.1 x.2.1) (λ x=>x.2.2) (Kx.setT i T1,g0,Kx.sl.length) ?_ ⟨hL1,hKs,by show g0<L.sl.length;omega,hg1,eZ⟩ ?_;.rw[hF,DQ,hT1];simp only[fG,gJ,hc];refine fR ?_;apply zN;exact gM
 rintro⟨M,g,f⟩ ⟨hM,hMl,hg2,hgf,hZf⟩;simp only[]at hM hMl hg2 hgf hZf;obtain⟨f,rfl⟩:∃f',f=f'+1:=⟨f-1,oO⟩;rw[aCH]at hZf;rw[hF];have hMng:=hM.ng;have hrow:=hM.rows g oO;simp only[MH,LH];have uU:=tZ hc hMl hrow;refine fR ?_;apply zN;by_cases hg0:g=0
 .rw[iP hg0]at hZf;subst hg0;refine dJ ?_;refine dI λ ht=>?_;have uU:=tZ hc hMl hrow;refine kJ (zN ?_);refine⟨?_,?_⟩;.rw[eRV];rfl
  rw[eRH,hZf];simp only[MH,LH];exact fR gG
 rw[iN hg0]at hZf;obtain⟨hp0,hp1⟩:=hM.par g oO oO;obtain⟨p,hp⟩:∃p:Nat,M.par g=(p:Int):=⟨(M.par g).toNat,oO⟩;have hwt:=hM.wt g oO;have hs1:=hM.sp g c oO hcn;obtain⟨y,ey⟩:∃y,y=CJ (M.sp g c).v (M.sp g c).r (M.wt g) o.ticks:=⟨_,rfl⟩;have hC:=aLK hM hcn (g:=g) (t:=o.ticks) oO oO oO;have hsetS:∀x,((BB M g).set c x)[c]? =aA x:=λ x=>fW (by rw[CR,hrow];exact hcn);have uU:=rA hc hMl hrow hp hsetS @ssN;refine dJ ?_;refine dI λ ht=>?_;refine AI [.ret (enc (M.sp g c).v (M.sp g c).r (M.wt g)),.ret (.tup [enc y.1 y.2 (M.wt g),(0:Int)])] ?_;refine jV (zs ?_) (zs ?_) (zs ?_);.exact qB _ _ _ oO oO
 .rw[ey];exact UN _ _ _ _ hs1.1 hs1.2.1 hs1.2.2.1 hs1.2.2.2.1 oO oO
 refine dJ ?_;refine cA ?_;rw[hp,bP]at hZf;refine⟨(aOZ M c o.ticks g,p,f),⟨hC.1,by rw[hC.2.1.ns];exact hMl,by show p<L.sl.length;omega,by show p<f;omega,hZf⟩,cW f,?_⟩;rw[hF,aOZ,MT oO,<-ey];simp only[fG,gJ,hc];refine fR ?_;apply zN;exact gM
theorem QG{loc X Y:aO}{k s:Nat}{l:List (List AVal)}(h1:AM.look loc k=aC)(h:rL loc X Y):rL loc X (cL k s l Y):=λ i hi=>by
 rcases hi with hi|hi;.exact h i (.inl hi)
 rcases OP hi with rfl|hi;.exact h1
 exact h i (.inr hi)
theorem aSN{m tk a b id s:Nat}{B X Y B0 B1 B2 B3 B5:Blk}{l:List (List AVal)}{F:aO}(h1:tk≠a)(h3:tk≠b)(h2:tk≠id)(hm:m+6<=tk)(q:Nat):
 AM.look ((tk,B)::(a,X)::(b,Y)::cL id s l ((m,B0)::(m+1,B1)::(m+2,B2)::(m+3,B3)::(m+5,B5)::F)) q=AM.look ((a,X)::(b,Y)::cL id s l ((m,B0)::(m+1,B1)::(m+2,B2)::(m+3,B3)::(m+5,B5)::(tk,B)::F)) q:=by
 by_cases hq:q=tk
 .subst hq
  have e1:AM.look ((a,X)::(b,Y)::cL id s l ((m,B0)::(m+1,B1)::(m+2,B2)::(m+3,B3)::(m+5,B5)::(q,B)::F)) q=aA B:=by
   simp only[AM.look];rw[iN (Ne.symm h1),iN (Ne.symm h3),GJ (Ne.symm h2)];simp only[AM.look];repeat rw[iN oO]
   rw[iP trivial]
  rw[e1];simp only[AM.look,if_true]
 have e1:∀Z,AM.look ((tk,B)::Z) q=AM.look Z q:=λ Z=>by simp only[AM.look];rw[iN (λ h=>hq h.symm)]
 rw[e1];refine jK (jK (TO (jK (jK (jK (jK (jK ?_)))))));rw[e1]
theorem BW{α:Type}{l r:List α}:(l++r).isEmpty=(l.isEmpty&&r.isEmpty):=by cases l<;>rfl
theorem aYR{m tk:Nat}{L:LSt}:(MH m tk L).isEmpty=aE:=rfl
theorem FB{H H':aO}{k:Nat}(h:oM (jS k) H=aB)(h':oM (jS k) H'=aB):((rS (λ x=>x.fst) (rS (λ(x:Nat×Blk)=>(x.fst,aA x.snd)) H)++rS (λ x=>x.fst) (rS (λ(x:Nat×Blk)=>(x.fst,(aC:Option Blk))) H')).all λ x=>decide (x<k))=aB:=by
 simp only[oM,aW,aH]at h h';simp only[aW,dC,dB];rintro x (⟨y,⟨z,hz,rfl⟩,rfl⟩|⟨y,⟨z,hz,rfl⟩,rfl⟩);.exact(h z hz).1
 exact(h' z hz).1
def Tk.rdy (t:Tk):Tk:={t with ready:=aB}
theorem bCE(L:LSt)(n:Nat)(hS:Rt0 L n)(o:Opn)(m tk k:Nat)(hm:m+6+L.sl.length<=tk)(hk:tk<k):OpOk Γ 89 L n o m tk k:=by
 have hnt:=hS.nt;have hns:=hS.ns;have htask:=KB o.task (Γ:=Γ);by_cases h1:1<=o.task/\o.task<=65535;rotate_left
 .rw[decide_eq_false h1]at htask;refine⟨L,0,301,tk,k,hS,⟨fN L,.inr rfl⟩,hm,⟨hk,.inl rfl⟩,aF _,?_⟩;obtain⟨RH,eRH⟩:∃x:aO,x=MH m tk L:=⟨_,rfl⟩;obtain⟨RV,eRV⟩:∃x:AVal,x=jQ (0) 301:=⟨_,rfl⟩;refine Tr.mono (dR (k:=k) (V:=RV) (RH:=RH) oO (by rw[eRV];rfl) (by rw[eRH];exact fL oO oO) ?_) (λ _ _ _ h=>⟨h.1,h.2.1.trans eRV,h.2.2.trans eRH⟩);refine cN Tryz.func89 rfl 103 rfl bB ?_;simp only[MH,LH];have kp:=gZ k [0,1,3,4,5,6,7,8,9,14,19,22];refine dJ ?_;refine cA ?_;refine jR [.ret aE] ?_;refine cA ?_;refine dJ ?_;refine dI λ ht=>?_;refine kJ (zN ?_);refine⟨?_,?_⟩;.rw[eRV];rfl
  rw[eRH];simp only[MH,LH];exact fR gG
 rw[decide_eq_true h1]at htask;rcases zB hS o.task with hr|⟨i,hi,hid,hr⟩
 .have hfc:=find L o.task (-1) hr hS.sorted oO m tk (k+1) hm oO (Γ:=Γ);refine⟨L,0,6,tk,k,hS,⟨fN L,.inr rfl⟩,hm,⟨hk,.inl rfl⟩,aF _,?_⟩;obtain⟨RH,eRH⟩:∃x:aO,x=MH m tk L:=⟨_,rfl⟩;obtain⟨RV,eRV⟩:∃x:AVal,x=jQ (0) 6:=⟨_,rfl⟩;refine Tr.mono (dR (k:=k) (V:=RV) (RH:=RH) oO (by rw[eRV];rfl) (by rw[eRH];exact fL oO oO) ?_) (λ _ _ _ h=>⟨h.1,h.2.1.trans eRV,h.2.2.trans eRH⟩);refine cN Tryz.func89 rfl 103 rfl bB ?_;simp only[MH,LH];have kp:=gZ k [0,1,3,4,5,6,7,8,9,14,19,22];refine dJ ?_;refine cA ?_;refine jR [.ret aB] ?_;refine cA ?_;refine dJ ?_;refine dI λ ht=>?_;refine jR [.far (.lit (.int .i64 (-1))) (k+1) [(k,⟨8,aB,[gJ o]⟩)] (MH m tk L) (MH m tk L)] ?_;refine jV (zs ?_) (zs ?_) (zs ?_);.intro q;simp only[MH,LH,fG,gJ,aV,aU]
  .exact cB (λ i hi=>by simp only[AM.look];repeat(rw[iN oO])) rfl
  simp only[MH,LH];refine fR ?_;apply zN;refine dJ ?_;refine dI λ ht=>?_;refine kJ (zN ?_);refine⟨?_,?_⟩;.rw[eRV];rfl
  rw[eRH];simp only[MH,LH];exact fR gG
 have hfc:=find L o.task i hr hS.sorted oO m tk (k+1) hm oO (Γ:=Γ);by_cases hrd:(L.tsk i).ready=aB
 .refine⟨L,0,304,tk,k,hS,⟨fN L,.inr rfl⟩,hm,⟨hk,.inl rfl⟩,aF _,?_⟩;obtain⟨RH,eRH⟩:∃x:aO,x=MH m tk L:=⟨_,rfl⟩;obtain⟨RV,eRV⟩:∃x:AVal,x=jQ (0) 304:=⟨_,rfl⟩;refine Tr.mono (dR (k:=k) (V:=RV) (RH:=RH) oO (by rw[eRV];rfl) (by rw[eRH];exact fL oO oO) ?_) (λ _ _ _ h=>⟨h.1,h.2.1.trans eRV,h.2.2.trans eRH⟩);refine cN Tryz.func89 rfl 103 rfl bB ?_;simp only[MH,LH];have kp:=gZ k [0,1,3,4,5,6,7,8,9,14,19,22];refine dJ ?_;refine cA ?_;refine jR [.ret aB] ?_;refine cA ?_;refine dJ ?_;refine dI λ ht=>?_;refine jR [.far (.lit (.int .i64 (i:Int))) (k+1) [(k,⟨8,aB,[gJ o]⟩)] (MH m tk L) (MH m tk L)] ?_;refine jV (zs ?_) (zs ?_) (zs ?_);.intro q;simp only[MH,LH,fG,gJ,aV,aU]
  .exact cB (λ i hi=>by simp only[AM.look];repeat(rw[iN oO])) rfl
  simp only[MH,LH];refine fR ?_;apply zN;have uU:=hrd;refine dJ ?_;refine oU ⟨λ ht ht=>zN ?_⟩;have uU:=hrd;refine kJ (zN ?_);refine⟨?_,?_⟩;.rw[eRV];rfl
  rw[eRH];simp only[MH,LH];exact fR gG
 have hrd:(L.tsk i).ready=aE:=by simpa using hrd
 have hT:=hS.tk i hi;obtain⟨g,hgr⟩:∃g:Nat,(L.tsk i).group=(g:Int):=⟨(L.tsk i).group.toNat,by have:=hT.g0;omega⟩;obtain⟨c,hc⟩:∃c:Nat,(L.tsk i).cpu=(c:Int):=⟨(L.tsk i).cpu.toNat,by have:=hT.c0;omega⟩;have hg1:g<L.sl.length:=by have:=hT.g1;omega
 have hc1:c<n:=by have:=hT.c1;omega
 have hrow:=hS.rows g hg1;have hTe:=hT.e;simp only[pK,dTt]at hTe;have hsa:=hS.sp g c hg1 hc1;have hmv:=YR (s:=⟨(L.tsk i).v,(L.tsk i).r,0⟩) ⟨hT.e,hT.v0,hT.v1,hT.r0,bR _,by show(0:Int)<=18446744073709551615;omega⟩ hsa.2.2.2.2.1 hsa.2.2.2.2.2 hS.cr0;obtain⟨z,ez⟩:∃z,z=uI (L.tsk i).v (L.tsk i).r (L.sp g c).floor L.credit:=⟨_,rfl⟩;simp only[aHZ]at hmv;rw[<-ez]at hmv;obtain⟨T1,eT⟩:∃T1,T1=((L.tsk i).run z.1 z.2 (L.tsk i).weight).rdy:=⟨_,rfl⟩;have hL1:Rt0 (L.setT i T1) n:=by rw[eT];exact hS.setT hi ⟨hT.id1,hT.id2,hT.g0,hT.g1,hT.c0,hT.c1,hmv.1,hmv.2.1,hmv.2.2.1,hmv.2.2.2.1,hT.m0,hT.m1,hT.m2,hT.m3⟩ rfl (λ d hd _ _ h4=>⟨rfl,h4⟩)
 obtain⟨E,eE⟩:∃E,E=tG L L.sl.length g c:=⟨_,rfl⟩;have hE1:∀x,x∈E->0<x/\x<L.sl.length:=by rw[eE];exact zG hS hg1
 have hE2:E.length<=g:=by rw[eE];exact zH hS hg1
 have hemp:=empty L n c g hS hc1 hg1 E eE m tk (k+1) hm oO (Γ:=Γ);have hwk:=hL1.wake hc1 (l:=E) hE1;have hset:∀x,((oJ L).set i x)[i]? =aA x:=λ x=>fW (by rw[tN];exact hi);refine⟨oI (L.setT i T1) c E,0,0,tk,k,hwk.1,⟨Fwd.setT.trans hwk.2.1 (.inl (by rw[hwk.2.2])),.inl rfl⟩,hm,⟨hk,.inl rfl⟩,aF _,?_⟩;have hLs:(oI (L.setT i T1) c E).sl.length=L.sl.length:=hwk.2.1.ns;have hwc:=wake (L.setT i T1) n c hL1 hc1 E hE1 oO m tk (k+1) (k+3) hm oO oO (Γ:=Γ);have hT1:tkc T1=[.lit (.int .i64 (L.tsk i).id),.lit (.int .i64 (g:Int)),.lit (.int .i64 (L.tsk i).weight),.lit (.int .i64 (c:Int)),.lit (.int .u64 (L.tsk i).mask),.lit (.bool aB),.lit (.int .u64 z.1),.lit (.int .u32 z.2)]:=by rw[eT,<-hgr,<-hc];rfl
 obtain⟨RH,eRH⟩:∃x:aO,x=MH m tk (oI (L.setT i T1) c E):=⟨_,rfl⟩;obtain⟨RV,eRV⟩:∃x:AVal,x=jQ (0) 0:=⟨_,rfl⟩;refine Tr.mono (dR (k:=k) (V:=RV) (RH:=RH) oO (by rw[eRV];rfl) (by rw[eRH];exact fL oO oO) ?_) (λ _ _ _ h=>⟨h.1,h.2.1.trans eRV,h.2.2.trans eRH⟩);refine cN Tryz.func89 rfl 103 rfl bB ?_;simp only[MH,LH];have kp:=gZ k [0,1,3,4,5,6,7,8,9,14,19,22];refine dJ ?_;refine cA ?_;refine jR [.ret aB] ?_;refine cA ?_;refine dJ ?_;refine dI λ ht=>?_;refine jR [.far (.lit (.int .i64 (i:Int))) (k+1) [(k,⟨8,aB,[gJ o]⟩)] (MH m tk L) (MH m tk L)] ?_;refine jV (zs ?_) (zs ?_) (zs ?_);.intro q;simp only[MH,LH,fG,gJ,aV,aU]
 .exact cB (λ i hi=>by simp only[AM.look];repeat(rw[iN oO])) rfl
 simp only[MH,LH];refine fR ?_;apply zN;have kp:Kp [0,1,3,4,5,6,7,8,9,14,19,22] (λ i=>if k<=i then i-k+1 else 0):=jZ;have uU:=DR hgr hc hrow hrd;refine dJ ?_;refine oU ⟨λ ht ht=>zN ?_⟩;refine aLT rfl [0,1,3,4,5,6,7,8,9,14,19,22] [.far (dG (k+1) (gR E)) (k+2) [(k,⟨8,aB,[gJ o]⟩)] (MH m tk L) (cL (k+1) 1 (gR E) (MH m tk L))] iF rfl (λ K hK=>?_);simp-dsimp-implicitDefEqProofs (disch:=omega)only[go_sem,gY,hgr,hc,hrow,hrd,eq_self,↓reduceIte];(repeat'(first|(refine And.intro ?_ ?_)|(refine kY (λ hb=>?_) (λ hb=>?_)<;>(have hg:=hb;(try simp only[nfb]at hg);simp-dsimp-implicitDefEqProofs (disch:=omega)only[go_sem,gY,hgr,hc,hrow,hrd,hb,hg,eq_self,↓reduceIte];clear hb;(try simp only[nfe]at hg)))));(all_goals(try omega));.intro q;simp only[MH,LH,fG,gJ,aV,aU]
 .exact QG (by simp only[AM.look];rw[iN oO]) (cB (λ i hi=>by simp only[AM.look];rw[iN oO]) rfl)
 refine hK _ _ _ _ (aVW (by simp only[bI,bQ,shC,YH,bNX,List.isEmpty_map,aYR,BW,KV];rfl) (by decide+kernel) (by simp only[fU,AA,iC,lG];exact FB (by rw[MP (by simp only[jS,dTt];omega)];exact fL oO oO) (fL oO oO))) (λ hx=>?_)
 clear hx hK;refine fR ?_;apply zN;simp only[MH,LH];refine fR ?_;apply zN;refine dJ ?_;refine cA ?_;refine AI [.ret (enc (L.tsk i).v (L.tsk i).r (L.tsk i).weight),.ret (.tup [enc z.1 z.2 (L.tsk i).weight,(0:Int)])] ?_;refine jV (zs ?_) (zs ?_) (zs ?_);.exact qB _ _ _ oO oO
 .rw[ez];exact aSH _ _ _ _ _ hT.e hsa.2.2.2.2.1 hsa.2.2.2.2.2 hS.cr0
 refine dJ ?_;refine cA ?_;refine jR [.gen (.tup []) (k+3) [(tk,⟨8,aB,oJ L⟩)] [(tk,⟨8,aB,(oJ L).set i (tkc ((L.tsk i).run z.1 z.2 (L.tsk i).weight))⟩)]] ?_;refine iE ?_ ?_;.exact aNN (L.tsk i) z.1 z.2 (L.tsk i).weight (oJ L) tk i (wH hi) oO oO (k+3) oO
 have uU:=xC hgr hc hrow hrd hset @ssN @Tk.run.eq_1;refine dJ ?_;refine cA ?_;refine jR [.far (.tup []) (k+3) [(k+2,⟨3,aB,[[.lit (.int .u64 z.1),.lit (.int .u32 z.2),.lit (.int .u32 (L.tsk i).weight)]]⟩),(k,⟨8,aB,[gJ o]⟩)] (cL (k+1) 1 (gR E) (MH m tk (L.setT i T1))) (cL (k+1) 1 (gR E) (MH m tk (oI (L.setT i T1) c E)))] ?_;refine zq5 (zs ?_) (zs ?_) (zs ?_) (zs ?_) (zs ?_);.exact HL (by rw[vU];trivial)
 .exact DO HX
 .intro q;rw[DQ,hT1];exact aSN oO oO oO oO q
 .exact DN (by simp only[AM.look];repeat rw[iN oO]) (cB (λ q hq=>by have hLr:(L.setT i T1).sl.length=L.sl.length:=rfl;simp only[AM.look];repeat rw[iN oO]) (by rw[hLs];rfl))
 refine dJ ?_;refine cA ?_;have uU:=xC hgr hc hrow hrd hset @ssN @Tk.run.eq_1;refine kJ (zN ?_);refine⟨?_,?_⟩;.rw[eRV];rfl
 rw[eRH];simp only[MH,LH];exact fR gG
def mM(f:Nat->Bool):Nat->Bool
 |0=>aE
 |n+1=>mM f n||f n
theorem UU{f:Nat->Bool}{i:Nat}(h:f i=aB):∀ {n:Nat},i<n->mM f n=aB
 |0,hn=>absurd hn oO
 |n+1,hn=>by
  simp only[mM,bL];by_cases he:i=n;.subst he;exact .inr h
  exact .inl (UU h oO)
theorem anyB_iff{f:Nat->Bool}:∀ {n:Nat},mM f n=aB↔∃i,i<n/\f i=aB
 |0=>by simp[mM]
 |n+1=>by
  simp only[mM,bL,anyB_iff];constructor
  .rintro(⟨i,h1,h2⟩|h);.exact⟨i,oO,h2⟩
   exact⟨n,oO,h⟩
  rintro⟨i,h1,h2⟩;by_cases he:i=n;.subst he;exact .inr h2
  exact .inl ⟨i,oO,h2⟩
def lZ(s:St)(id c:Int)(i:Nat):Bool:=decide ((s.tsk i).id=id)&&((s.tsk i).ready&&decide ((s.tsk i).cpu=c))
def aHH(m:Int)(c:Nat):Bool:=decide (m/2^c%2=1)
def St.cfg (s:St):List AVal:=[.lit (.int .i64 s.cpus),.lit (.int .u64 s.credit),.rd 2 s.ng (gf s)]
attribute [go_sem] St.cfg
structure St.Small (s:St):Prop where
 ng:s.ng<=1000
 nk:s.nk<=1000
 nu:s.nu<=1000
 nt:s.nt<=1000
 ns:s.ns<=1000
 nsp:∀g,g<s.ns->s.nsp g<=1000
def QY(par:Nat->Int):Nat->Nat->Nat->Nat
 |0,_,n=>n
 |f+1,g,n=>if g=0 then n else if par g<0\/(g:Int)<=par g then 5 else QY par f (par g).toNat (n+1)
def okW(s:St)(g:Nat):Bool:=decide (1<=s.wt g/\s.wt g<=65536)
def okR(s:St)(g:Nat):Bool:=okW s g&&decide (QY s.par 5 g 0<=4)
def fb(ok:Nat->Bool):Nat->Option Nat
 |0=>aC
 | n+1=>match fb ok n with
   |some g=>aA g
   |none=>if n=0\/ok n=aB then aC else aA n
theorem MG{ok:Nat->Bool}:∀ {n:Nat},(∀g,1<=g->g<n->ok g=aB)->fb ok n=aC
 |0,_=>rfl
 |n+1,h=>by
  rw[fb,MG (λ g h1 h2=>h g h1 oO)];by_cases hn:n=0;.simp[hn]
  simp[h n oO oO]
theorem fb_none_iff{ok:Nat->Bool}:∀ {n:Nat},fb ok n=aC↔∀g,1<=g->g<n->ok g=aB
 |0=>⟨λ _ g _ hg=>oO,λ _=>rfl⟩
 |n+1=>by
  refine⟨λ h g h1 h2=>?_,MG⟩;rw[fb]at h
  cases hf:fb ok n with
  |some x=>rw[hf]at h;cases h
  |none=>
   rw[hf]at h;by_cases he:g=n
   .subst he;simp only at h;split at h
    .rename_i hc;rcases hc with hc|hc
     .omega
     exact hc
    cases h
   exact fb_none_iff.1 hf g h1 oO
theorem aKU{ok:Nat->Bool}{g:Nat}(h1:1<=g)(hall:∀j,1<=j->j<g->ok j=aB)(hbad:ok g=aE):∀ {n:Nat},g<n->fb ok n=aA g
 |0,h=>oO
 |n+1,h=>by
  rw[fb];by_cases he:g=n;.subst he;rw[MG hall];simp[hbad];omega
  rw[aKU h1 hall hbad oO]
def iZ(s:St):Bool:=decide (1<=s.cpus/\s.cpus<=64/\s.credit<=1099511627776/\1<=s.ng/\s.ng<=256/\s.par 0=0/\s.wt 0=1)&&(fb (okR s) s.ng).isNone
theorem aZF(w:Int):Pure aD Γ 271 [w] (decide (1<=w/\w<=65536)):=by refine bT Tryz.func271 rfl 9 rfl bB rfl λ k=>?_;have kp:=gZ k [0,2];refine wl ?_;refine SG ⟨⟨λ hg=>⟨?_⟩⟩⟩ ⟨⟨λ hg=>⟨?_⟩⟩⟩;all_goals(refine bV rfl ⟨_,rfl,bC ?_⟩;(simp only[AVal.lit.injEq,EA.injEq];rw[bH];simp only[beq_iff_eq,bne_iff_ne,ne_eq,dTt,dFn,aH,bL,bD,beq_eq_false_iff_ne,aS,bX,true_iff,false_iff,iff_true,iff_false];omega))
def tB(par:Nat->Int):Nat->Nat->Nat
 |0,_=>0
 |f+1,g=>if g=0 then 0 else tB par f (par g).toNat+1
def IB(Γ:dL):Prop:=∀(s:St) (n g:Nat),g<n->n<=1000->(∀j,1<=j->j<=g->0<=s.par j/\s.par j<j)→
 Pure aD Γ 272 [.rd 2 n (gf s),g] (tB s.par g g:Nat)
def okP(s:St)(g:Nat):Bool:=decide (0<=s.par g/\s.par g<g)
def okG(s:St)(g:Nat):Bool:=okP s g&&(okW s g&&decide (tB s.par g g<=4))
def XP(s:St)(g:Nat):Int:=if okP s g=aE then 191 else if okW s g=aE then 192 else 193
def YQ(s:St):Int×Int:=
 if 256<s.ng then(-1,5)else if s.ng=0\/¬(s.par 0=0/\s.wt 0=1)then(0,190)else match fb (okG s) s.ng with
  |none=>(-1,0)
  |some g=>(g,XP s g)
theorem aFQ(hD:IB Γ)(s:St):Pure aD Γ 226 [.rd 2 s.ng (gf s)] (.tup [.lit (.int .i64 (YQ s).1),.lit (.int .i64 (YQ s).2)]):=by
 refine bT Tryz.func226 rfl 58 rfl bB rfl λ k=>?_;have kp:=gZ k [0,2,3,4,5,9,23,26,43,52];refine wl ?_;refine CM ⟨λ ht=>zN ?_⟩ ⟨λ ht ht=>⟨λ hg=>⟨?_⟩⟩⟩ ⟨λ ht ht=>⟨λ hg=>⟨?_⟩⟩⟩ ⟨λ ht ht=>⟨λ hg=>⟨?_⟩⟩⟩;.refine bV rfl ⟨_,rfl,bC ?_⟩;rw[show YQ s=(-1,5)from by rw[YQ,iP oO]]
 .refine bV rfl ⟨_,rfl,bC ?_⟩;rw[show YQ s=(0,190)from by rw[YQ,iN oO,iP (.inr (by simpa using ht))]]
 .have hroot:s.par 0=0/\s.wt 0=1:=by simpa using ht
  have hchk:YQ s=match fb (okG s) s.ng with|none=>(-1,0)|some g=>((g:Int),XP s g):=by
   rw[YQ,iN oO,iN (by rintro(h|h);· omega
                      · exact h hroot)]
  refine bY (X:=Nat) rfl [0,2,3,4,5,9,23,26,43,52] k (λ i=>[(4,i)]) (λ i=>[]) (λ i=>1<=i/\i<=s.ng/\∀g,1<=g->g<i->okG s g=aB) (λ i=>s.ng-i) 1 ?_ ⟨oO,oO,λ g h1 h2=>oO⟩ ?_;.refine rR ?_;apply zN;exact pQ
  rintro i ⟨hi1,hi,hall⟩;refine rR ?_;apply zN;have hok:okG s i=(okP s i&&(okW s i&&decide (tB s.par i i<=4))):=rfl;have hbad:i<s.ng->okG s i=aE->YQ s=((i:Int),XP s i):=λ h1 h2=>by rw[hchk,aKU hi1 hall h2 h1]
  refine wl ?_;refine CM ⟨λ ht ht=>⟨λ hg=>⟨?_⟩⟩⟩ ⟨λ ht ht=>⟨λ hg=>⟨?_⟩⟩⟩ ⟨λ ht ht=>⟨λ hg=>⟨?_⟩⟩⟩ ⟨λ ht=>zN ?_⟩;.refine bV rfl ⟨_,rfl,bC ?_⟩;have hp:okP s i=aE:=decide_eq_false oO;rw[hbad oO (by rw[hok,hp];rfl),XP,iP hp]
  .have hp:okP s i=aB:=decide_eq_true oO;refine cl [.ret (okW s i)] ?_;refine iE ?_ ?_;.exact aZF (s.wt i)
   refine wl ?_;refine oT (λ ht=>?_) λ ht=>?_;.refine bV rfl ⟨_,rfl,bC ?_⟩;rw[hbad oO (by rw[hok,ht,hp];rfl),XP,iN (by rw[hp];simp),iP ht]
   refine cl [.ret (tB s.par i i:Nat)] ?_;refine iE ?_ ?_
   .refine hD s s.ng i oO oO (λ j h1 h2=>?_);by_cases he:j=i;.subst he;omega
    have:=hall j h1 oO;simp only[okG,okP,aH,dTt]at this;exact this.1
   have hw:=ht;refine wl ?_;refine oT (λ ht=>?_) λ ht=>?_;.refine bV rfl ⟨_,rfl,bC ?_⟩;rw[hbad oO (by rw[hok,hp,hw,decide_eq_false oO];rfl),XP,iN (by rw[hp];simp),iN (by rw[hw];simp)]
   refine⟨i+1,⟨oO,oO,λ g h1 h2=>?_⟩,oO,?_⟩
   .by_cases he:g=i;.subst he;rw[hok,hp,hw,decide_eq_true oO];rfl
    exact hall g h1 oO
   refine rR ?_;apply zN;exact pQ
  .refine bV rfl ⟨_,rfl,bC ?_⟩;have hp:okP s i=aE:=decide_eq_false oO;rw[hbad oO (by rw[hok,hp];rfl),XP,iP hp]
  refine bV rfl ⟨_,rfl,bC ?_⟩;rw[hchk,MG (λ g h1 h2=>hall g h1 oO)]
 refine bV rfl ⟨_,rfl,bC ?_⟩;rw[show YQ s=(0,190)from by rw[YQ,iN oO,iP (.inl oO)]]
theorem aFP(hD:IB Γ)(s:St):Pure aD Γ 156 [.rd 2 s.ng (gf s)] ((YQ s).2==0):=by
 refine bT Tryz.func156 rfl 12 rfl bB rfl λ k=>?_;have kp:=gZ k [0,2,4];refine wl ?_;refine cA ?_;refine cl [.ret (.tup [.lit (.int .i64 (YQ s).1),.lit (.int .i64 (YQ s).2)])] ?_;refine iE ?_ ?_;.exact aFQ hD s
 refine wl ?_;refine cA ?_;refine bV rfl ⟨_,rfl,bC ?_⟩;rfl
def nB(s:St):Bool:=decide (1<=s.cpus/\s.cpus<=64/\s.credit<=1099511627776)&&((YQ s).2==0)
theorem wN(hD:IB Γ)(s:St):Pure aD Γ 86 [.agg s.cfg] (nB s):=by
 refine bT Tryz.func86 rfl 21 rfl bB rfl λ k=>?_;have kp:=gZ k [0,1,2];refine wl ?_;refine cA ?_;refine cl [.ret ((YQ s).2==0)] ?_;refine zq5 ⟨⟨λ hg hg hg=>⟨?_⟩⟩⟩ ⟨⟨λ hg hg hg=>⟨?_⟩⟩⟩ ⟨⟨λ hg hg hg=>⟨?_⟩⟩⟩ ⟨⟨λ hg hg=>⟨?_⟩⟩⟩ ⟨⟨λ hg=>⟨?_⟩⟩⟩;.exact aFP hD s
 all_goals(refine bV rfl ⟨_,rfl,bC ?_⟩)
 all_goals(first|(rw[nB,decide_eq_true oO,lG];done)|(rw[nB,decide_eq_false oO,KU];done)|(rw[nB,decide_eq_false oO,decide_eq_false oO,KU];done)|trace_state)
def nD(F:Nat)(s:St)(l:List Flt):List AVal:=[.lit (.int .i64 s.cpus),.lit (.int .u64 s.credit),.rd 2 s.ng (gf s),.rd 1 s.nk (kf s),.rd 1 s.nu (uf s),.rd 8 s.nt (tf s),.rd 1 s.ns (YK s),dG F (l.map Flt.row)]
def LK(L F:Nat)(s:St)(l:List Flt):aO:=(L,⟨8,aE,[nD F s l]⟩)::cL F 3 (l.map Flt.row) []
attribute [go_sem] nD LK
def iQ(b:Bool)(f:Flt):List Flt:=if b=aB then [f]else []
theorem bDA(k L F:Nat)(s:St)(l:List Flt)(is:Bool)(r a b:Int)(hL:L<k)(hF:F<k)(hne:L≠F)(hl:l.length<=100000):
 Tr aD Γ 116 k [.ptr L 0 0,is,.lit (.int .u8 r),a,b] (LK L F s l) (λ k1 r1 H1=>k1=k+1/\r1= .tup []/\H1=LK L k s (l++iQ is ⟨r,a,b⟩)):=by
 obtain⟨a1,a2,a3,a4,a5,a6⟩:=fK hL;obtain⟨b1,b2,b3,b4,b5,b6⟩:=fK hF;obtain⟨c1,c2⟩:=iR hne;refine cN Tryz.func116 rfl 24 rfl bB (pA ?_);have kp:=gZ k [0,1,2,3,4,10];have uU:=fP a1 a2 a3 a4 a5 a6 b1 b2 (rA b3 b4 b5 b6 c1 c2);refine wl ?_;refine oT (λ ht=>?_) λ ht=>?_;.subst ht;refine⟨k+1,[],LK L k s (l++[⟨r,a,b⟩]),?_,_,rfl,rfl,rfl,by simp[iQ,LK,nD]⟩;exact DZ (k+1) k (wV (fP (@a1) (@a2) (@a3) (@a4) (@a5) (@a6) (@b1) (@b2) (rA (@b3) (@b4) (@b5) (@b6) (@c1) (@c2))))
 subst ht;refine⟨k+1,[],LK L k s (l++[]),?_,_,rfl,rfl,rfl,by simp[iQ,LK,nD]⟩;rw[cZ];exact Mv.trans (tX (F) oO) (nV (wV (fP (@a1) (@a2) (@a3) (@a4) (@a5) (@a6) (@b1) (@b2) (rA (@b3) (@b4) (@b5) (@b6) (@c1) (@c2)))))
theorem mL(k L F:Nat)(s:St)(l l':List Flt)(is is':Bool)(r a b:Int)(hb:is=is')(hl':l'=l++iQ is' ⟨r,a,b⟩)(hL:L<k)(hF:F<k)(hne:L≠F)(hl:l.length<=100000):
 Tr aD Γ 116 k [.ptr L 0 0,is,.lit (.int .u8 r),a,b] (LK L F s l) (λ k1 r1 H1=>k1=k+1/\r1= .tup []/\H1=LK L k s l'):=by subst hb hl';exact bDA k L F s l is r a b hL hF hne hl
def aYX(Γ:dL)(f:Nat)(s:St)(G:List Flt):Prop:=
 ∀(k L F:Nat) (l:List Flt),L<k->F<k->L≠F->l.length<=10000->Tr aD Γ f k [.ptr L 0 0] (LK L F s l) (λ k1 r1 H1=>k1=k+1/\r1= .tup []/\H1=LK L k s (l++G))
theorem jJ(l:List Flt)(b:Bool)(f:Flt):(l++iQ b f).length<=l.length+1:=by unfold iQ;split<;>simp
def pV(s:St):List Flt:=iQ ((s.nk:Int)!=s.cpus) ⟨2,0,0⟩++(iQ ((s.nu:Int)!=s.cpus) ⟨2,1,0⟩++(iQ ((s.ns:Int)!=s.ng) ⟨2,2,0⟩++(if s.ns=s.ng then cD (lN s) s.ns else [])))
theorem shape(s:St)(hs:s.Small):aYX Γ 190 s (pV s):=by
 obtain⟨hng,hnk,hnu,hnt,hns,hnsp⟩:=id hs;intro k L F l hL hF hne hl;obtain⟨a1,a2,a3,a4,a5,a6⟩:=fK hL;obtain⟨b1,b2,b3,b4,b5,b6⟩:=fK hF;obtain⟨c1,c2⟩:=iR hne;refine cN Tryz.func190 rfl 64 rfl bB (pA ?_);have kp:Kp [0,2,3,4,5,47,49,50,51,52] (λ i=>if i=L then 0 else i-k+1):=jZ;have uU:=fP a1 a2 a3 a4 a5 a6 b1 b2 (rA b3 b4 b5 b6 c1 c2);refine wl ?_;refine cA ?_;obtain⟨l1,e_l1,h_l1⟩:∃x,x=l++iQ ((s.nk:Int)!=s.cpus) ⟨2,0,0⟩/\x.length<=(l).length+1:=⟨_,rfl,jJ _ _ _⟩;refine cl [.gen (.tup []) (k+2) (LK (L) (F) s (l)) (LK (L) (k+1) s (l1))] ?_;refine iE ?_ ?_;.exact mL (k+1) (L) (F) s (l) (l1) _ ((s.nk:Int)!=s.cpus) _ _ _ (by first|rfl|(rw[bH];simp only[beq_iff_eq,bne_iff_ne,ne_eq,dTt,dFn,aH,bL,bD,beq_eq_false_iff_ne,aS,bX,true_iff,false_iff,iff_true,iff_false];omega)|(simp[hg];done)|(simp[hg,hq];done)|(simp_all;done)|(simp_all;omega)) e_l1 oO oO oO oO
 refine wl ?_;refine cA ?_;obtain⟨l2,e_l2,h_l2⟩:∃x,x=l1++iQ ((s.nu:Int)!=s.cpus) ⟨2,1,0⟩/\x.length<=(l1).length+1:=⟨_,rfl,jJ _ _ _⟩;refine cl [.gen (.tup []) (k+3) (LK (L) (k+1) s (l1)) (LK (L) (k+2) s (l2))] ?_;refine iE ?_ ?_;.exact mL (k+2) (L) (k+1) s (l1) (l2) _ ((s.nu:Int)!=s.cpus) _ _ _ (by first|rfl|(rw[bH];simp only[beq_iff_eq,bne_iff_ne,ne_eq,dTt,dFn,aH,bL,bD,beq_eq_false_iff_ne,aS,bX,true_iff,false_iff,iff_true,iff_false];omega)|(simp[hg];done)|(simp[hg,hq];done)|(simp_all;done)|(simp_all;omega)) e_l2 oO oO oO oO
 refine wl ?_;refine cA ?_;obtain⟨l3,e_l3,h_l3⟩:∃x,x=l2++iQ ((s.ns:Int)!=s.ng) ⟨2,2,0⟩/\x.length<=(l2).length+1:=⟨_,rfl,jJ _ _ _⟩;refine cl [.gen (.tup []) (k+4) (LK (L) (k+2) s (l2)) (LK (L) (k+3) s (l3))] ?_;refine iE ?_ ?_;.exact mL (k+3) (L) (k+2) s (l2) (l3) _ ((s.ns:Int)!=s.ng) _ _ _ (by first|rfl|(rw[bH];simp only[beq_iff_eq,bne_iff_ne,ne_eq,dTt,dFn,aH,bL,bD,beq_eq_false_iff_ne,aS,bX,true_iff,false_iff,iff_true,iff_false];omega)|(simp[hg];done)|(simp[hg,hq];done)|(simp_all;done)|(simp_all;omega)) e_l3 oO oO oO oO
 have e3:l3=l++(iQ ((s.nk:Int)!=s.cpus) ⟨2,0,0⟩++(iQ ((s.nu:Int)!=s.cpus) ⟨2,1,0⟩++iQ ((s.ns:Int)!=s.ng) ⟨2,2,0⟩)):=by rw[e_l3,e_l2,e_l1];simp
 clear e_l3 e_l2 e_l1;refine wl ?_;refine oT (λ ht=>?_) λ ht=>?_
 .refine bY (X:=Nat) rfl [0,2,3,4,5,47,49,50,51,52] (k+4) (λ i=>[(51,i)]) (λ i=>(L,⟨8,aE,[nD (k+3) s (l3++cD (lN s) i)]⟩)::cL (k+3) 3 ((l3++cD (lN s) i).map Flt.row) [(k,⟨7,aB,[s.cells]⟩)]) (λ i=>i<=s.ns) (λ i=>s.ns-i) 0 ?_ (aZ _) ?_;.rw[kN,cZ];refine rR ?_;apply zN;(have uU:=fP a1 a2 a3 a4 a5 a6 b1 b2 (rA b3 b4 b5 b6 c1 c2);exact qT)
  intro i hi;have hfl:=dX (JW s) i;obtain⟨l4,e4,h4⟩:∃x,x=l3++cD (lN s) i/\x.length<=l3.length+i:=⟨_,rfl,by simp;omega⟩;rw[<-e4];refine rR ?_;apply zN;refine wl ?_;refine oT (λ ht=>?_) λ ht=>?_
  .obtain⟨l5,e_l5,h_l5⟩:∃x,x=l4++iQ (((s.nsp i:Nat):Int)!=s.cpus) ⟨2,3,(i:Int)⟩/\x.length<=(l4).length+1:=⟨_,rfl,jJ _ _ _⟩;refine cl [.gen (.tup []) (k+5) (LK (L) (k+3) s (l4)) (LK (L) (k+4) s (l5))] ?_;refine iE ?_ ?_;.exact mL (k+4) (L) (k+3) s (l4) (l5) _ (((s.nsp i:Nat):Int)!=s.cpus) _ _ _ (by first|rfl|(rw[bH];simp only[beq_iff_eq,bne_iff_ne,ne_eq,dTt,dFn,aH,bL,bD,beq_eq_false_iff_ne,aS,bX,true_iff,false_iff,iff_true,iff_false];omega)|(simp[hg];done)|(simp[hg,hq];done)|(simp_all;done)|(simp_all;omega)) e_l5 oO oO oO oO
   refine wl ?_;refine cA ?_;refine⟨i+1,oO,oO,?_⟩;rw[show l3++cD (lN s) (i+1)=l5 by rw[fQ,<-cM,<-e4,e_l5,lN,iQ];congr 1;by_cases hc:((s.nsp i:Nat):Int)=s.cpus<;>simp[hc]]
   refine rR ?_;apply zN;exact DZ (k+4) (k+3) (wV (fP (@a1) (@a2) (@a3) (@a4) (@a5) (@a6) (@b1) (@b2) (rA (@b3) (@b4) (@b5) (@b6) (@c1) (@c2))))
  have hi':i=s.ns:=oO;have he:l4=l++pV s:=by rw[e4,e3,pV,iP oO,hi'];simp
  refine⟨k+1,[],LK L k s l4,?_,_,rfl,rfl,rfl,by rw[he];rfl⟩;exact DZ (k+3) k (wV (fP (@a1) (@a2) (@a3) (@a4) (@a5) (@a6) (@b1) (@b2) (rA (@b3) (@b4) (@b5) (@b6) (@c1) (@c2))))
 have he:l3=l++pV s:=by rw[e3,pV,iN oO];simp
 refine⟨k+1,[],LK L k s l3,?_,_,rfl,rfl,rfl,by rw[he];rfl⟩;exact DZ (k+3) k (wV (fP (@a1) (@a2) (@a3) (@a4) (@a5) (@a6) (@b1) (@b2) (rA (@b3) (@b4) (@b5) (@b6) (@c1) (@c2))))
theorem bJL(s:St)(i:Nat)(now c:Int):Pure aD Γ 244 [.agg (tf s i),.rp [now],.rp [c]] (lZ s now c i):=by
 refine bT Tryz.func244 rfl 19 rfl bB rfl λ k=>?_;have kp:=gZ k [0,1,2,3,4];refine wl ?_;refine jV ⟨⟨λ hg hg=>⟨?_⟩⟩⟩ ⟨⟨λ hg hg=>⟨?_⟩⟩⟩ ⟨⟨λ hg=>⟨?_⟩⟩⟩;all_goals(refine bV rfl ⟨_,rfl,bC ?_⟩)
 all_goals(congr 2;rw[bH];simp_all [lZ])
def f0(f:Nat->Bool):Nat->Option Nat
 |0=>aC
 | n+1=>match f0 f n with
   |some i=>aA i
   |none=>if f n=aB then aA n else aC
theorem wU{f:Nat->Bool}:∀ {n:Nat},(∀i,i<n->f i=aE)->f0 f n=aC
 |0,_=>rfl
 |n+1,h=>by rw[f0,wU (λ i hi=>h i oO)];simp[h n oO]
theorem zC{f:Nat->Bool}{i:Nat}(hall:∀j,j<i->f j=aE)(hi:f i=aB):∀ {n:Nat},i<n->f0 f n=aA i
 |0,h=>oO
 |n+1,h=>by
  rw[f0];by_cases he:i=n;.subst he;rw[wU hall];simp[hi]
  rw[zC hall hi oO]
def idx(f:Nat->Bool)(n:Nat):Int:=match f0 f n with|some i=>(i:Int)|none=> -1
theorem ME(f:Nat->Bool)(n:Nat):decide (0<=idx f n)=mM f n:=by
 have key:∀n,(f0 f n).isSome=mM f n:=by
  intro n
  induction n with
  |zero=>rfl
  |succ n ih=>
   rw[mM,<-ih,f0]
   cases f0 f n with
   |some i=>rfl
   |none=>cases f n<;>rfl
 rw[<-key,idx];cases f0 f n<;>simp
theorem aNZ(s:St)(n:Nat)(now c:Int)(hn:n<=1000):Pure aD Γ 125 [.rd 8 n (tf s),.fn 244 [.rp [now],.rp [c]]] (idx (lZ s now c) n):=by
 refine bT Tryz.func125 rfl 19 rfl bB rfl λ k=>?_;have kp:=gZ k [0,1,4,5,7,8,9,16];refine wl ?_;refine cA ?_;refine bY (X:=Nat) rfl [0,1,4,5,7,8,9,16] k (λ i=>[(8,i)]) (λ i=>[]) (λ i=>i<=n/\∀j,j<i->lZ s now c j=aE) (λ i=>n-i) 0 ?_ ⟨aZ _,λ j hj=>absurd hj (bO _)⟩ ?_;.refine rR ?_;apply zN;exact pQ
 rintro i ⟨hi,hall⟩;refine rR ?_;apply zN;refine wl ?_;refine oT (λ ht=>?_) λ ht=>?_
 .refine cl [.ret (lZ s now c i)] ?_;refine iE ?_ ?_;.exact bJL s i now c
  refine wl ?_;refine oT (λ ht=>?_) λ ht=>?_;.refine bV rfl ⟨_,rfl,bC ?_⟩;rw[idx,zC hall ht oO]
  refine⟨i+1,⟨oO,λ j hj=>?_⟩,oO,?_⟩
  .by_cases he:j=i;.subst he;exact ht
   exact hall j oO
  refine rR ?_;apply zN;exact pQ
 refine bV rfl ⟨_,rfl,bC ?_⟩;rw[idx,wU (λ j hj=>hall j oO)]
theorem XM(s:St)(n:Nat)(now c:Int)(hn:n<=1000):Pure aD Γ 66 [.rd 8 n (tf s),.fn 244 [.rp [now],.rp [c]]] (mM (lZ s now c) n):=by
 refine bT Tryz.func66 rfl 9 rfl bB rfl λ k=>?_;have kp:=gZ k [0,1,4];refine wl ?_;refine cA ?_;refine cl [.ret (idx (lZ s now c) n)] ?_;refine iE ?_ ?_;.exact aNZ s n now c hn
 refine bV rfl ⟨_,rfl,bC ?_⟩;rw[ME]
def pF(s:St)(c:Nat):List Flt:=iQ (decide (s.clk c<0\/281474976710656<s.clk c)) ⟨3,(c:Int),0⟩
theorem iL(b:Bool)(f:Flt):(iQ b f).length<=1:=by unfold iQ;split<;>simp
def AJ(s:St)(c:Nat):List Flt:=iQ (decide (s.cur c≠0)&& !(mM (lZ s (s.cur c) c) s.nt)) ⟨13,(c:Int),0⟩
def tU(s:St):List Flt:=cD (pF s) s.nk++cD (AJ s) s.nu
theorem a9W(s:St)(hs:s.Small):aYX Γ 191 s (tU s):=by
 obtain⟨hng,hnk,hnu,hnt,hns,hnsp⟩:=id hs;intro k L F l hL hF hne hl;obtain⟨a1,a2,a3,a4,a5,a6⟩:=fK hL;obtain⟨b1,b2,b3,b4,b5,b6⟩:=fK hF;obtain⟨c1,c2⟩:=iR hne;refine cN Tryz.func191 rfl 56 rfl bB (pA ?_);refine gL (tX F oO) ?_;have uU:=fP a1 a2 a3 a4 a5 a6 b1 b2 (rA b3 b4 b5 b6 c1 c2);refine rR ?_;apply zN;refine gW rfl ?_;refine gW rfl ?_;have kp:Kp [0,2,3,4,5,6,11,12,13,14,32,33,34,35] (λ i=>if i=L then 0 else i-k+1):=jZ;refine wl ?_;refine cA ?_;refine bY (X:=Nat) rfl [0,2,3,4,5,6,11,12,13,14,32,33,34,35] (k+1) (λ i=>[(13,i)]) (λ i=>LK L k s (l++cD (pF s) i)) (λ i=>i<=s.nk) (λ i=>s.nk-i) 0 ?_ (aZ _) ?_;.rw[kN,cZ];refine rR ?_;apply zN;(have uU:=fP a1 a2 a3 a4 a5 a6 b1 b2 (rA b3 b4 b5 b6 c1 c2);exact qT)
 intro i hi;have hfl:=dX (λ c=>iL _ _) (f:=pF s) i;obtain⟨l4,e4,h4⟩:∃x,x=l++cD (pF s) i/\x.length<=l.length+i:=⟨_,rfl,by simp;omega⟩;rw[<-e4];refine rR ?_;apply zN;refine wl ?_;refine oT (λ ht=>?_) λ ht=>?_
 .obtain⟨l5,e_l5,h_l5⟩:∃x,x=l4++iQ (decide (s.clk i<0\/281474976710656<s.clk i)) ⟨3,(i:Int),0⟩/\x.length<=(l4).length+1:=⟨_,rfl,jJ _ _ _⟩;refine lJ [0,2,3,4,5,6,11,12,13,14,32,33,34,35] (k+2) [] ((L,⟨8,aE,[nD (k+1) s (l5)]⟩)::cL (k+1) 3 ((l5).map Flt.row) []) ?_ ?_;.refine cl [.gen (.tup []) (k+2) (LK (L) (k) s (l4)) (LK (L) (k+1) s (l5))] ?_;refine CM ⟨⟨λ hg=>⟨?_⟩⟩⟩ ⟨⟨λ hg=>⟨?_⟩⟩⟩ ⟨⟨λ hg=>⟨?_⟩⟩⟩ ⟨⟨λ hg=>⟨?_⟩⟩⟩;all_goals(first|(exact mL (k+1) (L) (k) s (l4) (l5) _ (decide (s.clk i<0\/281474976710656<s.clk i)) _ _ _ (by first|rfl|(rw[bH];simp only[beq_iff_eq,bne_iff_ne,ne_eq,dTt,dFn,aH,bL,bD,beq_eq_false_iff_ne,aS,bX,true_iff,false_iff,iff_true,iff_false];omega)|(simp[hg];done)|(simp[hg,hq];done)|(simp_all;done)|(simp_all;omega)) e_l5 oO oO oO oO)|((have uU:=fP a1 a2 a3 a4 a5 a6 b1 b2 (rA b3 b4 b5 b6 c1 c2);exact qT)))
  refine rR ?_;apply zN;refine wl ?_;refine cA ?_;refine⟨i+1,oO,oO,?_⟩;rw[show l++cD (pF s) (i+1)=l5 by rw[fQ,<-cM,<-e4,e_l5];rfl];refine rR ?_;apply zN;exact DZ (k+1) k (wV (fP (@a1) (@a2) (@a3) (@a4) (@a5) (@a6) (@b1) (@b2) (rA (@b3) (@b4) (@b5) (@b6) (@c1) (@c2))))
 have hi':i=s.nk:=oO;subst hi';have h4':l4.length<=11000:=oO;refine bY (X:=Nat) rfl [0,2,3,4,5,6,11,12,13,14,32,33,34,35] (k+1) (λ i=>[(34,i)]) (λ i=>LK L k s (l4++cD (AJ s) i)) (λ i=>i<=s.nu) (λ i=>s.nu-i) 0 ?_ (aZ _) ?_;.rw[kN,cZ];refine rR ?_;apply zN;(have uU:=fP a1 a2 a3 a4 a5 a6 b1 b2 (rA b3 b4 b5 b6 c1 c2);exact qT)
 intro i hi;have hfl:=dX (λ c=>iL _ _) (f:=AJ s) i;obtain⟨l6,e6,h6⟩:∃x,x=l4++cD (AJ s) i/\x.length<=l4.length+i:=⟨_,rfl,by simp;omega⟩;rw[<-e6];refine rR ?_;apply zN;refine wl ?_;refine oT (λ ht=>?_) λ ht=>?_
 .refine gL (gK (k+1) (by simp-dsimp-implicitDefEqProofs only[go_sem,a1,a2,a3,a4,a5,a6,b1,b2,b3,b4,b5,b6,c1,c2,eq_self,↓reduceIte];rfl) rfl) ?_;simp-dsimp-implicitDefEqProofs only[pS,jA,go_sem,a1,a2,a3,a4,a5,a6,b1,b2,b3,b4,b5,b6,c1,c2,eq_self,↓reduceIte];refine gL (gK (k+2) (by simp-dsimp-implicitDefEqProofs only[go_sem,a1,a2,a3,a4,a5,a6,b1,b2,b3,b4,b5,b6,c1,c2,eq_self,↓reduceIte];rfl) rfl) ?_;simp-dsimp-implicitDefEqProofs only[pS,jA,go_sem,a1,a2,a3,a4,a5,a6,b1,b2,b3,b4,b5,b6,c1,c2,eq_self,↓reduceIte];obtain⟨l7,e_l7,h_l7⟩:∃x,x=l6++iQ (decide (s.cur i≠0)&& !(mM (lZ s (s.cur i) i) s.nt)) ⟨13,(i:Int),0⟩/\x.length<=(l6).length+1:=⟨_,rfl,jJ _ _ _⟩;refine lJ [0,2,3,4,5,6,11,12,13,14,32,33,34,35] (k+4) [] ((L,⟨8,aE,[nD (k+3) s (l7)]⟩)::cL (k+3) 3 ((l7).map Flt.row) []) ?_ ?_;.refine dl [.ret (mM (lZ s (s.cur i) i) s.nt),.gen (.tup []) (k+4) (LK (L) (k) s (l6)) (LK (L) (k+3) s (l7))] ?_;refine zq5 ⟨⟨λ hg=>⟨?_⟩⟩⟩ ⟨⟨λ hg=>⟨?_⟩⟩⟩ ⟨⟨λ hg=>⟨?_⟩⟩⟩ ⟨⟨λ hg=>⟨?_⟩⟩⟩ ⟨⟨λ hg=>⟨?_⟩⟩⟩;all_goals(first|(exact mL (k+3) (L) (k) s (l6) (l7) _ (decide (s.cur i≠0)&& !(mM (lZ s (s.cur i) i) s.nt)) _ _ _ (by first|rfl|(rw[bH];simp only[beq_iff_eq,bne_iff_ne,ne_eq,dTt,dFn,aH,bL,bD,beq_eq_false_iff_ne,aS,bX,true_iff,false_iff,iff_true,iff_false];omega)|(simp[hg];done)|(simp[hg,hq];done)|(simp_all;done)|(simp_all;omega)) e_l7 oO oO oO oO)|(exact XM s s.nt (s.cur i) i hnt)|((have uU:=fP a1 a2 a3 a4 a5 a6 b1 b2 (rA b3 b4 b5 b6 c1 c2);exact qT)))
  refine rR ?_;apply zN;refine wl ?_;refine cA ?_;refine⟨i+1,oO,oO,?_⟩;rw[show l4++cD (AJ s) (i+1)=l7 by rw[fQ,<-cM,<-e6,e_l7];rfl];refine rR ?_;apply zN;exact DZ (k+3) k (wV (fP (@a1) (@a2) (@a3) (@a4) (@a5) (@a6) (@b1) (@b2) (rA (@b3) (@b4) (@b5) (@b6) (@c1) (@c2))))
 have hi':i=s.nu:=oO;subst hi';have he:l6=l++tU s:=by rw[e6,e4,tU];simp
 refine⟨k+1,[],LK L k s l6,?_,_,rfl,rfl,rfl,by rw[he];rfl⟩;(have uU:=fP a1 a2 a3 a4 a5 a6 b1 b2 (rA b3 b4 b5 b6 c1 c2);exact qT)
def onB(s:St)(i:Nat):Bool:=decide (0<=(s.tsk i).cpu/\(s.tsk i).cpu<s.cpus)
def aAH(x:Int):Int:=if 0>x then 0 else x
def shr(m c:Int):Int:=m.fdiv (2^min c.toNat 64)
def bAI(m:Int):Int:=aY.wrap (BitVec.ofInt aY.bits m&&&BitVec.ofInt aY.bits 1).toNat
def t4(s:St)(i:Nat):Bool:=decide (0<(i:Int))&&decide ((s.tsk i).id<=(s.tsk (i-1)).id)
def t5(s:St)(i:Nat):Bool:=decide ((s.tsk i).id<1\/65535<(s.tsk i).id)
def t6(s:St)(i:Nat):Bool:=decide ((s.tsk i).group<0\/(s.ng:Int)<=(s.tsk i).group)
def t7(s:St)(i:Nat):Bool:= !(onB s i)
def t8(s:St)(i:Nat):Bool:=decide (s.cpus<64)&&decide (0<shr (s.tsk i).mask s.cpus)
def t9(s:St)(i:Nat):Bool:=onB s i&&(bAI (shr (s.tsk i).mask (aAH (s.tsk i).cpu))==0)
def t10(s:St)(i:Nat):Bool:= !(pK (s.tsk i).v (s.tsk i).r (s.tsk i).weight)
def uK(s:St)(i:Nat):List Flt:=iQ (t4 s i) ⟨4,(i:Int),0⟩++(iQ (t5 s i) ⟨5,(i:Int),0⟩++(iQ (t6 s i) ⟨6,(i:Int),0⟩++(iQ (t7 s i) ⟨7,(i:Int),0⟩++(iQ (t8 s i) ⟨8,(i:Int),0⟩++(iQ (t9 s i) ⟨9,(i:Int),0⟩++iQ (t10 s i) ⟨10,(i:Int),0⟩)))))
theorem NA(s:St)(i:Nat):(uK s i).length<=7:=by have h:=λ b f=>iL b f;simp only[uK,bM];have:=h (t4 s i) ⟨4,(i:Int),0⟩;have:=h (t5 s i) ⟨5,(i:Int),0⟩;have:=h (t6 s i) ⟨6,(i:Int),0⟩;have:=h (t7 s i) ⟨7,(i:Int),0⟩;have:=h (t8 s i) ⟨8,(i:Int),0⟩;have:=h (t9 s i) ⟨9,(i:Int),0⟩;have:=h (t10 s i) ⟨10,(i:Int),0⟩;omega
def yI(s:St):List Flt:=cD (uK s) s.nt
theorem bBY(s:St)(hs:s.Small)(hc:0<=s.cpus):aYX Γ 192 s (yI s):=by
 obtain⟨hng,hnk,hnu,hnt,hns,hnsp⟩:=id hs;intro k L F l hL hF hne hl;obtain⟨a1,a2,a3,a4,a5,a6⟩:=fK hL;obtain⟨b1,b2,b3,b4,b5,b6⟩:=fK hF;obtain⟨c1,c2⟩:=iR hne;refine cN Tryz.func192 rfl 125 rfl bB (pA ?_);refine gL (tX F oO) ?_;have uU:=fP a1 a2 a3 a4 a5 a6 b1 b2 (rA b3 b4 b5 b6 c1 c2);refine rR ?_;apply zN;have kp:Kp [0,2,3,4,5,16,17,18,19] (λ i=>if i=L then 0 else i-k+1):=jZ;refine wl ?_;refine cA ?_;refine bY (X:=Nat) rfl [0,2,3,4,5,16,17,18,19] (k+1) (λ i=>[(18,i)]) (λ i=>LK L k s (l++cD (uK s) i)) (λ i=>i<=s.nt) (λ i=>s.nt-i) 0 ?_ (aZ _) ?_;.rw[kN,cZ];refine rR ?_;apply zN;(have uU:=fP a1 a2 a3 a4 a5 a6 b1 b2 (rA b3 b4 b5 b6 c1 c2);exact qT)
 intro i hi;have hfl:=dX (NA s) i;obtain⟨l0,e0,h0⟩:∃x,x=l++cD (uK s) i/\x.length<=l.length+i*7:=⟨_,rfl,by simp;omega⟩;rw[<-e0];refine rR ?_;apply zN;refine wl ?_;refine jV ⟨λ ht=>⟨λ hg=>⟨?_⟩⟩⟩ ⟨λ ht=>⟨λ hg=>⟨?_⟩⟩⟩ ⟨λ ht=>zN ?_⟩;rotate_right
 .have hi':i=s.nt:=oO;subst hi';refine⟨k+1,[],LK L k s l0,?_,_,rfl,rfl,rfl,by rw[e0];rfl⟩;(have uU:=fP a1 a2 a3 a4 a5 a6 b1 b2 (rA b3 b4 b5 b6 c1 c2);exact qT)
 all_goals
  have hq:=hg
  have hw1:aL.wrap ((i:Int)-1)=(i:Int)-1:=wrap_i64 oO oO
  have hmx:(if(0:Int)>(i:Int)-1 then(0:Int)else(i:Int)-1)=((i-1:Nat):Int):=by split<;>omega
  obtain⟨l1,e_l1,h_l1⟩:∃x,x=l0++iQ (decide (0<(i:Int))&&decide ((s.tsk i).id<=(s.tsk (i-1)).id)) ⟨4,(i:Int),0⟩/\x.length<=(l0).length+1:=⟨_,rfl,jJ _ _ _⟩
  refine lJ [0,2,3,4,5,16,17,18,19] (k+3) [] ((L,⟨8,aE,[nD (k+2) s (l1)]⟩)::cL (k+2) 3 ((l1).map Flt.row) [(k+1,⟨8,aB,[tf s i]⟩)]) ?_ ?_
  · have uU:=fP a1 a2 a3 a4 a5 a6 b1 b2 (AO b3 b4 b5 b6 c1 c2 hw1 hmx)
    refine dl [.gen (.tup []) (k+3) (LK (L) (k) s (l0)) (LK (L) (k+2) s (l1))] ?_;refine CM ⟨⟨λ hg=>⟨?_⟩⟩⟩ ⟨⟨λ hg=>⟨?_⟩⟩⟩ ⟨⟨λ hg=>⟨?_⟩⟩⟩ ⟨⟨λ hg=>⟨?_⟩⟩⟩
    all_goals(first|(exact mL (k+2) (L) (k) s (l0) (l1) _ (decide (0<(i:Int))&&decide ((s.tsk i).id<=(s.tsk (i-1)).id)) _ _ _ (by first|rfl|(rw[bH];simp only[beq_iff_eq,bne_iff_ne,ne_eq,dTt,dFn,aH,bL,bD,beq_eq_false_iff_ne,aS,bX,true_iff,false_iff,iff_true,iff_false];omega)|(simp[hg];done)|(simp[hg,hq];done)|(simp_all;done)|(simp_all;omega)) e_l1 oO oO oO oO)|((have uU:=fP a1 a2 a3 a4 a5 a6 b1 b2 (AO b3 b4 b5 b6 c1 c2 hw1 hmx);exact qT)))
  have uU:=fP a1 a2 a3 a4 a5 a6 b1 b2 (AO b3 b4 b5 b6 c1 c2 hw1 hmx)
  refine rR ?_;apply zN
  have hcn:(s.cpus<0)=False:=by simp;omega
  have hm0:(if(0:Int)>(s.tsk i).cpu then(0:Int)else(s.tsk i).cpu)=aAH (s.tsk i).cpu:=rfl
  have hm1:(aAH (s.tsk i).cpu<0)=False:=by simp[aAH];split<;>omega
  refine gW rfl ?_
  obtain⟨l2,e_l2,h_l2⟩:∃x,x=l1++iQ (decide ((s.tsk i).id<1\/65535<(s.tsk i).id)) ⟨5,(i:Int),0⟩/\x.length<=(l1).length+1:=⟨_,rfl,jJ _ _ _⟩
  refine lJ [0,2,3,4,5,16,17,18,19] (k+4) [] ((L,⟨8,aE,[nD (k+3) s (l2)]⟩)::cL (k+3) 3 ((l2).map Flt.row) [(k+1,⟨8,aB,[tf s i]⟩)]) ?_ ?_
  · have uU:=fP a1 a2 a3 a4 a5 a6 b1 b2 (fP b3 b4 b5 b6 c1 c2 hcn hm0 hm1)
    refine cl [.gen (.tup []) (k+4) (LK (L) (k+2) s (l1)) (LK (L) (k+3) s (l2))] ?_;refine CM ⟨⟨λ hg=>⟨?_⟩⟩⟩ ⟨⟨λ hg=>⟨?_⟩⟩⟩ ⟨⟨λ hg=>⟨?_⟩⟩⟩ ⟨⟨λ hg=>⟨?_⟩⟩⟩
    all_goals(first|(exact mL (k+3) (L) (k+2) s (l1) (l2) _ (decide ((s.tsk i).id<1\/65535<(s.tsk i).id)) _ _ _ (by first|rfl|(rw[bH];simp only[beq_iff_eq,bne_iff_ne,ne_eq,dTt,dFn,aH,bL,bD,beq_eq_false_iff_ne,aS,bX,true_iff,false_iff,iff_true,iff_false];omega)|(simp[hg];done)|(simp[hg,hq];done)|(simp_all;done)|(simp_all;omega)) e_l2 oO oO oO oO)|((have uU:=fP a1 a2 a3 a4 a5 a6 b1 b2 (fP b3 b4 b5 b6 c1 c2 hcn hm0 hm1);exact qT)))
  have uU:=fP a1 a2 a3 a4 a5 a6 b1 b2 (fP b3 b4 b5 b6 c1 c2 hcn hm0 hm1)
  refine rR ?_;apply zN
  refine gW rfl ?_
  obtain⟨l3,e_l3,h_l3⟩:∃x,x=l2++iQ (decide ((s.tsk i).group<0\/(s.ng:Int)<=(s.tsk i).group)) ⟨6,(i:Int),0⟩/\x.length<=(l2).length+1:=⟨_,rfl,jJ _ _ _⟩
  refine lJ [0,2,3,4,5,16,17,18,19] (k+5) [] ((L,⟨8,aE,[nD (k+4) s (l3)]⟩)::cL (k+4) 3 ((l3).map Flt.row) [(k+1,⟨8,aB,[tf s i]⟩)]) ?_ ?_
  · refine dl [.gen (.tup []) (k+5) (LK (L) (k+3) s (l2)) (LK (L) (k+4) s (l3))] ?_;refine CM ⟨⟨λ hg=>⟨?_⟩⟩⟩ ⟨⟨λ hg=>⟨?_⟩⟩⟩ ⟨⟨λ hg=>⟨?_⟩⟩⟩ ⟨⟨λ hg=>⟨?_⟩⟩⟩
    all_goals(first|(exact mL (k+4) (L) (k+3) s (l2) (l3) _ (decide ((s.tsk i).group<0\/(s.ng:Int)<=(s.tsk i).group)) _ _ _ (by first|rfl|(rw[bH];simp only[beq_iff_eq,bne_iff_ne,ne_eq,dTt,dFn,aH,bL,bD,beq_eq_false_iff_ne,aS,bX,true_iff,false_iff,iff_true,iff_false];omega)|(simp[hg];done)|(simp[hg,hq];done)|(simp_all;done)|(simp_all;omega)) e_l3 oO oO oO oO)|((have uU:=fP a1 a2 a3 a4 a5 a6 b1 b2 (fP b3 b4 b5 b6 c1 c2 hcn hm0 hm1);exact qT)))
  refine rR ?_;apply zN
  refine gW rfl ?_
  obtain⟨l4,e_l4,h_l4⟩:∃x,x=l3++iQ (!(decide (0<=(s.tsk i).cpu/\(s.tsk i).cpu<s.cpus))) ⟨7,(i:Int),0⟩/\x.length<=(l3).length+1:=⟨_,rfl,jJ _ _ _⟩
  refine lJ [0,2,3,4,5,16,17,18,19] (k+6) [] ((L,⟨8,aE,[nD (k+5) s (l4)]⟩)::cL (k+5) 3 ((l4).map Flt.row) [(k+1,⟨8,aB,[tf s i]⟩)]) ?_ ?_
  · refine cl [.gen (.tup []) (k+6) (LK (L) (k+4) s (l3)) (LK (L) (k+5) s (l4))] ?_;refine iE ?_ ?_
    all_goals(first|(exact mL (k+5) (L) (k+4) s (l3) (l4) _ (!(decide (0<=(s.tsk i).cpu/\(s.tsk i).cpu<s.cpus))) _ _ _ (by first|rfl|(rw[bH];simp only[beq_iff_eq,bne_iff_ne,ne_eq,dTt,dFn,aH,bL,bD,beq_eq_false_iff_ne,aS,bX,true_iff,false_iff,iff_true,iff_false];omega)|(simp[hg];done)|(simp[hg,hq];done)|(simp_all;done)|(simp_all;omega)) e_l4 oO oO oO oO)|((have uU:=fP a1 a2 a3 a4 a5 a6 b1 b2 (fP b3 b4 b5 b6 c1 c2 hcn hm0 hm1);exact qT)))
  refine rR ?_;apply zN
  refine gW rfl ?_
  obtain⟨l5,e_l5,h_l5⟩:∃x,x=l4++iQ (decide (s.cpus<64)&&decide (0<(s.tsk i).mask.fdiv (2^min s.cpus.toNat 64))) ⟨8,(i:Int),0⟩/\x.length<=(l4).length+1:=⟨_,rfl,jJ _ _ _⟩
  refine lJ [0,2,3,4,5,16,17,18,19] (k+7) [] ((L,⟨8,aE,[nD (k+6) s (l5)]⟩)::cL (k+6) 3 ((l5).map Flt.row) [(k+1,⟨8,aB,[tf s i]⟩)]) ?_ ?_
  · refine cl [.gen (.tup []) (k+7) (LK (L) (k+5) s (l4)) (LK (L) (k+6) s (l5))] ?_;refine CM ⟨⟨λ hg=>⟨?_⟩⟩⟩ ⟨⟨λ hg=>⟨?_⟩⟩⟩ ⟨⟨λ hg=>⟨?_⟩⟩⟩ ⟨⟨λ hg=>⟨?_⟩⟩⟩
    all_goals(first|(exact mL (k+6) (L) (k+5) s (l4) (l5) _ (decide (s.cpus<64)&&decide (0<(s.tsk i).mask.fdiv (2^min s.cpus.toNat 64))) _ _ _ (by first|rfl|(rw[bH];simp only[beq_iff_eq,bne_iff_ne,ne_eq,dTt,dFn,aH,bL,bD,beq_eq_false_iff_ne,aS,bX,true_iff,false_iff,iff_true,iff_false];omega)|(simp[hg];done)|(simp[hg,hq];done)|(simp_all;done)|(simp_all;omega)) e_l5 oO oO oO oO)|((have uU:=fP a1 a2 a3 a4 a5 a6 b1 b2 (fP b3 b4 b5 b6 c1 c2 hcn hm0 hm1);exact qT)))
  refine rR ?_;apply zN
  refine gW rfl ?_
  obtain⟨l6,e_l6,h_l6⟩:∃x,x=l5++iQ (decide (0<=(s.tsk i).cpu/\(s.tsk i).cpu<s.cpus)&&(aY.wrap (BitVec.ofInt aY.bits ((s.tsk i).mask.fdiv (2^min (aAH (s.tsk i).cpu).toNat 64))&&&BitVec.ofInt aY.bits 1).toNat==0)) ⟨9,(i:Int),0⟩/\x.length<=(l5).length+1:=⟨_,rfl,jJ _ _ _⟩
  refine lJ [0,2,3,4,16,17,18,19] (k+8) [] ((L,⟨8,aE,[nD (k+7) s (l6)]⟩)::cL (k+7) 3 ((l6).map Flt.row) [(k+1,⟨8,aB,[tf s i]⟩)]) ?_ ?_
  · refine cl [.gen (.tup []) (k+8) (LK (L) (k+6) s (l5)) (LK (L) (k+7) s (l6))] ?_<;>and_intros<;>first|exact gG|(apply zM;(repeat intro ht);apply zM;(repeat intro hg);apply zM)
    all_goals(first|(exact mL (k+7) (L) (k+6) s (l5) (l6) _ (decide (0<=(s.tsk i).cpu/\(s.tsk i).cpu<s.cpus)&&(aY.wrap (BitVec.ofInt aY.bits ((s.tsk i).mask.fdiv (2^min (aAH (s.tsk i).cpu).toNat 64))&&&BitVec.ofInt aY.bits 1).toNat==0)) _ _ _ (by first|rfl|(rw[bH];simp only[beq_iff_eq,bne_iff_ne,ne_eq,dTt,dFn,aH,bL,bD,beq_eq_false_iff_ne,aS,bX,true_iff,false_iff,iff_true,iff_false];omega)|(simp[hg];done)|(simp[hg,hq];done)|(simp_all;done)|(simp_all;omega)) e_l6 oO oO oO oO)|((have uU:=fP a1 a2 a3 a4 a5 a6 b1 b2 (fP b3 b4 b5 b6 c1 c2 hcn hm0 hm1);exact qT)))
  refine rR ?_;apply zN
  obtain⟨l7,e_l7,h_l7⟩:∃x,x=l6++iQ (!(pK (s.tsk i).v (s.tsk i).r (s.tsk i).weight)) ⟨10,(i:Int),0⟩/\x.length<=(l6).length+1:=⟨_,rfl,jJ _ _ _⟩
  refine lJ [0,2,3,4,5,16,17,18,19] (k+9) [] ((L,⟨8,aE,[nD (k+8) s (l7)]⟩)::cL (k+8) 3 ((l7).map Flt.row) [(k+1,⟨8,aB,[tf s i]⟩)]) ?_ ?_
  · refine cl [.ret (pK (s.tsk i).v (s.tsk i).r (s.tsk i).weight),.gen (.tup []) (k+9) (LK (L) (k+7) s (l6)) (LK (L) (k+8) s (l7))] ?_;refine jV (zs ?_) (zs ?_) (zs ?_)
    all_goals(first|(exact mL (k+8) (L) (k+7) s (l6) (l7) _ (!(pK (s.tsk i).v (s.tsk i).r (s.tsk i).weight)) _ _ _ (by first|rfl|(rw[bH];simp only[beq_iff_eq,bne_iff_ne,ne_eq,dTt,dFn,aH,bL,bD,beq_eq_false_iff_ne,aS,bX,true_iff,false_iff,iff_true,iff_false];omega)|(simp[hg];done)|(simp[hg,hq];done)|(simp_all;done)|(simp_all;omega)) e_l7 oO oO oO oO)|(exact aVP (s.tsk i).v (s.tsk i).r (s.tsk i).weight)|((have uU:=fP a1 a2 a3 a4 a5 a6 b1 b2 (fP b3 b4 b5 b6 c1 c2 hcn hm0 hm1);exact qT)))
  refine rR ?_;apply zN
  refine wl ?_;refine cA ?_
  refine⟨i+1,oO,oO,?_⟩
  rw[show l++cD (uK s) (i+1)=l7 by rw[fQ,<-cM,<-e0,e_l7,e_l6,e_l5,e_l4,e_l3,e_l2,e_l1];simp only[cM];rfl]
  refine rR ?_;apply zN
  exact DZ (k+8) k (wV (fP (@a1) (@a2) (@a3) (@a4) (@a5) (@a6) (@b1) (@b2) (fP (@b3) (@b4) (@b5) (@b6) (@c1) (@c2) (@hcn) (@hm0) (@hm1))))
def uN(s:St)(g c:Nat):List Flt:=if g=0 then iQ (decide ((s.sp g c).v≠0\/(s.sp g c).r≠0)) ⟨12,(c:Int),0⟩else iQ (!(pK (s.sp g c).v (s.sp g c).r (s.wt g))) ⟨11,(g:Int),(c:Int)⟩
theorem EM(s:St)(g c:Nat):(uN s g c).length<=1:=by unfold uN;split<;>exact iL _ _
def tP(s:St)(g:Nat):List Flt:=cD (uN s g) (s.nsp g)
def BA(s:St):List Flt:=cD (tP s) s.ns
theorem rJ{f:Nat->List Flt}{m:Nat}:∀n,(∀i,i<n->(f i).length<=m)->(cD f n).length<=n*m
 |0,_=>by simp[cD]
 |n+1,h=>by have:=rJ n (λ i hi=>h i oO);have:=h n oO;simp only[cD,bM,cQ,Nat.one_mul];omega
theorem bCA(s:St)(hs:s.Small)(hg:s.ns<=s.ng)(h12:s.ns<=12)(hp12:∀g,g<s.ns->s.nsp g<=12):aYX Γ 193 s (BA s):=by
 obtain⟨hng,hnk,hnu,hnt,hns,hnsp⟩:=id hs;intro k L F l hL hF hne hl;obtain⟨a1,a2,a3,a4,a5,a6⟩:=fK hL;obtain⟨b1,b2,b3,b4,b5,b6⟩:=fK hF;obtain⟨c1,c2⟩:=iR hne;refine cN Tryz.func193 rfl 59 rfl bB (pA ?_);refine gL (tX F oO) ?_;have uU:=fP a1 a2 a3 a4 a5 a6 b1 b2 (rA b3 b4 b5 b6 c1 c2);refine rR ?_;apply zN;have kp:Kp [0,2,3,4,5,10,11,12,13,17,18,19,20,25] (λ i=>if i=L then 0 else i-k+1):=jZ;refine wl ?_;refine cA ?_;refine bY (X:=Nat) rfl [0,2,3,4,5,10,11,12,13,17,18,19,20,25] (k+1) (λ i=>[(12,i)]) (λ i=>LK L k s (l++cD (tP s) i)) (λ i=>i<=s.ns) (λ i=>s.ns-i) 0 ?_ (aZ _) ?_;.rw[kN,cZ];refine rR ?_;apply zN;(have uU:=fP a1 a2 a3 a4 a5 a6 b1 b2 (rA b3 b4 b5 b6 c1 c2);exact qT)
 intro g hg2;have hfl:=rJ (f:=tP s) (m:=12) g (λ i hi=>by have:=dX (EM s i) (s.nsp i);have:=hp12 i oO;unfold tP;omega);obtain⟨l0,e0,h0⟩:∃x,x=l++cD (tP s) g/\x.length<=l.length+g*12:=⟨_,rfl,by simp;omega⟩;rw[<-e0];refine rR ?_;apply zN;refine wl ?_;refine oT (λ ht=>?_) λ ht=>?_
 .have hpg:s.nsp g<=12:=hp12 g oO;refine bY (X:=Nat) rfl [0,2,3,4,5,10,11,12,13,17,18,19,20,25] (k+1) (λ c=>[(19,c)]) (λ c=>LK L k s (l0++cD (uN s g) c)) (λ c=>c<=s.nsp g) (λ c=>s.nsp g-c) 0 ?_ (aZ _) ?_;.rw[kN,cZ];refine rR ?_;apply zN;(have uU:=fP a1 a2 a3 a4 a5 a6 b1 b2 (rA b3 b4 b5 b6 c1 c2);exact qT)
  intro c hc;have hfc:=dX (EM s g) c;obtain⟨l1,e1,h1⟩:∃x,x=l0++cD (uN s g) c/\x.length<=l0.length+c:=⟨_,rfl,by simp;omega⟩;rw[<-e1];refine rR ?_;apply zN;refine wl ?_;refine jV ⟨λ ht ht=>zN ?_⟩ ⟨λ ht ht=>zN ?_⟩ ⟨λ ht=>zN ?_⟩
  .have hg0:g=0:=oO;obtain⟨l2,e_l2,h_l2⟩:∃x,x=l1++iQ (decide ((s.sp g c).v≠0\/(s.sp g c).r≠0)) ⟨12,(c:Int),0⟩/\x.length<=(l1).length+1:=⟨_,rfl,jJ _ _ _⟩;refine lJ [0,2,3,4,5,10,11,12,13,17,18,19,20,25] (k+3) [] ((L,⟨8,aE,[nD (k+2) s (l2)]⟩)::cL (k+2) 3 ((l2).map Flt.row) [(k+1,⟨3,aB,[sf s g c]⟩)]) ?_ ?_;.refine cl [.gen (.tup []) (k+3) (LK (L) (k) s (l1)) (LK (L) (k+2) s (l2))] ?_;refine CM ⟨⟨λ hg=>⟨?_⟩⟩⟩ ⟨⟨λ hg=>⟨?_⟩⟩⟩ ⟨⟨λ hg=>⟨?_⟩⟩⟩ ⟨⟨λ hg=>⟨?_⟩⟩⟩;all_goals(first|(exact mL (k+2) (L) (k) s (l1) (l2) _ (decide ((s.sp g c).v≠0\/(s.sp g c).r≠0)) _ _ _ (by first|rfl|(rw[bH];simp only[beq_iff_eq,bne_iff_ne,ne_eq,dTt,dFn,aH,bL,bD,beq_eq_false_iff_ne,aS,bX,true_iff,false_iff,iff_true,iff_false];omega)|(simp[hg];done)|(simp[hg,hq];done)|(simp_all;done)|(simp_all;omega)) e_l2 oO oO oO oO)|((have uU:=fP a1 a2 a3 a4 a5 a6 b1 b2 (rA b3 b4 b5 b6 c1 c2);exact qT)))
   refine rR ?_;apply zN;refine wl ?_;refine cA ?_;refine⟨c+1,oO,oO,?_⟩;rw[show l0++cD (uN s g) (c+1)=l2 by rw[fQ,<-cM,<-e1,e_l2,uN,iP hg0]]
   refine rR ?_;apply zN;exact DZ (k+2) k (wV (fP (@a1) (@a2) (@a3) (@a4) (@a5) (@a6) (@b1) (@b2) (rA (@b3) (@b4) (@b5) (@b6) (@c1) (@c2))))
  .have hg0:¬g=0:=oO;obtain⟨l2,e_l2,h_l2⟩:∃x,x=l1++iQ (!(pK (s.sp g c).v (s.sp g c).r (s.wt g))) ⟨11,(g:Int),(c:Int)⟩/\x.length<=(l1).length+1:=⟨_,rfl,jJ _ _ _⟩;refine lJ [0,2,3,4,5,10,11,12,13,17,18,19,20,25] (k+3) [] ((L,⟨8,aE,[nD (k+2) s (l2)]⟩)::cL (k+2) 3 ((l2).map Flt.row) [(k+1,⟨3,aB,[sf s g c]⟩)]) ?_ ?_;.refine dl [.ret (pK (s.sp g c).v (s.sp g c).r (s.wt g)),.gen (.tup []) (k+3) (LK (L) (k) s (l1)) (LK (L) (k+2) s (l2))] ?_;refine jV (zs ?_) (zs ?_) (zs ?_);all_goals(first|(exact mL (k+2) (L) (k) s (l1) (l2) _ (!(pK (s.sp g c).v (s.sp g c).r (s.wt g))) _ _ _ (by first|rfl|(rw[bH];simp only[beq_iff_eq,bne_iff_ne,ne_eq,dTt,dFn,aH,bL,bD,beq_eq_false_iff_ne,aS,bX,true_iff,false_iff,iff_true,iff_false];omega)|(simp[hg];done)|(simp[hg,hq];done)|(simp_all;done)|(simp_all;omega)) e_l2 oO oO oO oO)|(exact aVP (s.sp g c).v (s.sp g c).r (s.wt g))|((have uU:=fP a1 a2 a3 a4 a5 a6 b1 b2 (rA b3 b4 b5 b6 c1 c2);exact qT)))
   refine rR ?_;apply zN;refine wl ?_;refine cA ?_;refine⟨c+1,oO,oO,?_⟩;rw[show l0++cD (uN s g) (c+1)=l2 by rw[fQ,<-cM,<-e1,e_l2,uN,iN hg0]]
   refine rR ?_;apply zN;exact DZ (k+2) k (wV (fP (@a1) (@a2) (@a3) (@a4) (@a5) (@a6) (@b1) (@b2) (rA (@b3) (@b4) (@b5) (@b6) (@c1) (@c2))))
  have hc':c=s.nsp g:=oO;refine⟨g+1,oO,oO,?_⟩;rw[show l++cD (tP s) (g+1)=l1 by rw[fQ,<-cM,<-e0,e1,hc'];rfl]
  refine rR ?_;apply zN;(have uU:=fP a1 a2 a3 a4 a5 a6 b1 b2 (rA b3 b4 b5 b6 c1 c2);exact qT)
 have hi':g=s.ns:=oO;subst hi';refine⟨k+1,[],LK L k s l0,?_,_,rfl,rfl,rfl,by rw[e0];rfl⟩;(have uU:=fP a1 a2 a3 a4 a5 a6 b1 b2 (rA b3 b4 b5 b6 c1 c2);exact qT)
def aNL:Option Int->AVal
 |none=> .lit (.pointer aC)
 |some v=> .rp [.lit (.int .u64 v)]
theorem aEL(x:Option Int):clean (aNL x)=aB:=by cases x<;>rfl
theorem TB:aNL aC= .lit (.pointer aC):=rfl
theorem TA(v:Int):aNL (aA v)= .rp [.lit (.int .u64 v)]:=rfl
def wK(f:Nat->Option Int)(n:Nat):List (List AVal):=(aN n).map λ i=>[aNL (f i)]
theorem IQ(f:Nat->Option Int)(n:Nat):(wK f n).length=n:=by simp[wK]
theorem xH(f:Nat->Option Int)(n g:Nat)(h:g<n):(wK f n)[g]? =aA [aNL (f g)]:=by simp[wK,h]
theorem iI(f:Nat->Option Int)(n:Nat):((wK f n).all λ row=>row.all clean)=aB:=aPN λ i=>by simp[aEL]
def put(f:Nat->Option Int)(g:Nat)(v:Int):Nat->Option Int:=λ i=>if i=g then aA v else f i
theorem kW(f:Nat->Option Int)(n g:Nat)(v:Int):(wK f n).set g [.rp [.lit (.int .u64 v)]]=wK (put f g v) n:=by
 apply dZ;intro j;rw[dD];by_cases hj:j<n
 .rw[xH _ n j hj,xH _ n j hj,IQ];by_cases he:g=j;.subst he;simp[put,hj,aNL]
  have:¬j=g:=λ e=>he e.symm;simp[he,put,this]
 have h1:(wK f n)[j]? =aC:=by simp[wK,hj]
 have h2:(wK (put f g v) n)[j]? =aC:=by simp[wK,hj]
 rw[h1,h2,IQ];split;.rename_i he;subst he;simp[hj]
 rfl
def low(f:Nat->Option Int)(g:Nat)(v:Int):Nat->Option Int:=match f g with
 |none=>put f g v
 |some u=>if v<u then put f g v else f
def LW(T B n:Nat)(f:Nat->Option Int):aO:=[(T,⟨1,aE,[[.sl B 0 n]]⟩),(B,⟨1,aB,wK f n⟩)]
attribute [go_sem] LW IQ
theorem a5V(k T B n:Nat)(f:Nat->Option Int)(g:Nat)(v:Int)(hT:T<k)(hB:B<k)(hne:T≠B)(hg:g<n):
 Tr aD Γ 246 k [g,.lit (.int .u64 v),.ptr T 0 0] (LW T B n f) (λ k1 r1 H1=>k1=k/\r1= .tup []/\H1=LW T B n (low f g v)):=by
 obtain⟨a1,a2,a3,a4,a5,a6⟩:=fK hT;obtain⟨b1,b2,b3,b4,b5,b6⟩:=fK hB;obtain⟨c1,c2⟩:=iR hne;have hget:=xH f n g hg;refine cN Tryz.func246 rfl 23 rfl bB (pA ?_)
 cases hf:f g with
 |none=>rw[hf,TB]at hget;have kp:Kp [0,1,2,4,19] (λ i=>if i=T then 0 else if i=B then 1 else i-k+2):=jZ;have uU:=fP a1 a2 a3 a4 a5 a6 b1 b2 (xC b3 b4 b5 b6 c1 c2 hget);refine wl ?_;refine dI λ ht=>?_;refine⟨k,[],LW T B n (put f g v),?_,_,rfl,rfl,rfl,by rw[show low f g v=put f g v by simp only[low,hf]];rfl⟩;refine Mv.trans (gK k (by simp-dsimp-implicitDefEqProofs only[go_sem,a1,a2,a3,a4,a5,a6,b1,b2,b3,b4,b5,b6,c1,c2,hget,eq_self,↓reduceIte];rfl) rfl) ?_;simp-dsimp-implicitDefEqProofs only[pS,jA,go_sem,a1,a2,a3,a4,a5,a6,b1,b2,b3,b4,b5,b6,c1,c2,iX,kC (iI f n),kW,eq_self,↓reduceIte];refine Mv.trans (Mv.pure B (by simp-dsimp-implicitDefEqProofs only[go_sem,a1,a2,a3,a4,a5,a6,b1,b2,b3,b4,b5,b6,c1,c2,iX,kC (iI f n),kW,eq_self,↓reduceIte];rfl) (iI _ _)) ?_;exact nV (pH oO (by simp-dsimp-implicitDefEqProofs only[go_sem,a1,a2,a3,a4,a5,a6,b1,b2,b3,b4,b5,b6,c1,c2,iX,kC (iI f n),kW,aM,Flt.row,eq_self,↓reduceIte]) (by simp-dsimp-implicitDefEqProofs only[go_sem,a1,a2,a3,a4,a5,a6,b1,b2,b3,b4,b5,b6,c1,c2,iX,kC (iI f n),kW,aM,Flt.row,eq_self,↓reduceIte]) (by simp-dsimp-implicitDefEqProofs only[go_sem,a1,a2,a3,a4,a5,a6,b1,b2,b3,b4,b5,b6,c1,c2,iX,kC (iI f n),kW,aM,Flt.row,eq_self,↓reduceIte]) (by simp-dsimp-implicitDefEqProofs only[go_sem,a1,a2,a3,a4,a5,a6,b1,b2,b3,b4,b5,b6,c1,c2,iX,kC (iI f n),kW,aM,Flt.row,eq_self,↓reduceIte]))
 |some u=>
  rw[hf,TA]at hget;have kp:Kp [0,1,2,4,19] (λ i=>if i=T then 0 else if i=B then 1 else i-k+2):=jZ;have uU:=fP a1 a2 a3 a4 a5 a6 b1 b2 (xC b3 b4 b5 b6 c1 c2 hget);refine wl ?_;refine oT (λ ht=>?_) λ ht=>?_;.refine⟨k,[],LW T B n (put f g v),?_,_,rfl,rfl,rfl,by rw[show low f g v=put f g v by simp only[low,hf,iP ht]];rfl⟩;refine Mv.trans (gK k (by simp-dsimp-implicitDefEqProofs only[go_sem,a1,a2,a3,a4,a5,a6,b1,b2,b3,b4,b5,b6,c1,c2,hget,eq_self,↓reduceIte];rfl) rfl) ?_;simp-dsimp-implicitDefEqProofs only[pS,jA,go_sem,a1,a2,a3,a4,a5,a6,b1,b2,b3,b4,b5,b6,c1,c2,iX,kC (iI f n),kW,eq_self,↓reduceIte];refine Mv.trans (Mv.pure B (by simp-dsimp-implicitDefEqProofs only[go_sem,a1,a2,a3,a4,a5,a6,b1,b2,b3,b4,b5,b6,c1,c2,iX,kC (iI f n),kW,eq_self,↓reduceIte];rfl) (iI _ _)) ?_;exact nV (pH oO (by simp-dsimp-implicitDefEqProofs only[go_sem,a1,a2,a3,a4,a5,a6,b1,b2,b3,b4,b5,b6,c1,c2,iX,kC (iI f n),kW,aM,Flt.row,eq_self,↓reduceIte]) (by simp-dsimp-implicitDefEqProofs only[go_sem,a1,a2,a3,a4,a5,a6,b1,b2,b3,b4,b5,b6,c1,c2,iX,kC (iI f n),kW,aM,Flt.row,eq_self,↓reduceIte]) (by simp-dsimp-implicitDefEqProofs only[go_sem,a1,a2,a3,a4,a5,a6,b1,b2,b3,b4,b5,b6,c1,c2,iX,kC (iI f n),kW,aM,Flt.row,eq_self,↓reduceIte]) (by simp-dsimp-implicitDefEqProofs only[go_sem,a1,a2,a3,a4,a5,a6,b1,b2,b3,b4,b5,b6,c1,c2,iX,kC (iI f n),kW,aM,Flt.row,eq_self,↓reduceIte]))
  refine⟨k,[],LW T B n f,?_,_,rfl,rfl,rfl,by rw[show low f g v=f by simp only[low,hf,iN (Int.not_lt.2 ht)]];rfl⟩;(have uU:=fP a1 a2 a3 a4 a5 a6 b1 b2 (xC b3 b4 b5 b6 c1 c2 hget);exact qT)
def tL(s:St)(c:Int)(i:Nat):Bool:=(s.tsk i).ready&&decide ((s.tsk i).cpu=c)
def fT(s:St)(c:Int):Nat->Nat->Option Int
 |0=>λ _=>aC
 |i+1=>if tL s c i=aB then low (fT s c i) (s.tsk i).group.toNat (s.tsk i).v else fT s c i
def FU(s:St)(c g:Nat)(f:Nat->Option Int):Nat->Option Int:=match f g with
 |none=>f
 |some _=>if 0<g then low f (s.par g).toNat (s.sp g c).v else f
def FT(s:St)(c g:Nat)(f:Nat->Option Int):List Flt:=match f g with
 |none=>[]
 |some m=>iQ (decide ((s.sp g c).floor<m)) ⟨14,(g:Int),(c:Int)⟩
theorem IL(s:St)(c g:Nat)(f:Nat->Option Int):(FT s c g f).length<=1:=by
 unfold FT;split;.simp
 exact iL _ _
def dF(s:St)(c:Nat):Nat->Nat->Option Int
 |0=>fT s c s.nt
 |j+1=>FU s c (s.ns-1-j) (dF s c j)
def rI(s:St)(c j:Nat):List Flt:=FT s c (s.ns-1-j) (dF s c j)
def qF(s:St)(c:Nat):List Flt:=cD (rI s c) s.ns
def wS(s:St):List Flt:=cD (qF s) s.cpus.toNat
structure FloorOk (s:St):Prop where
 grp:∀i,i<s.nt->0<=(s.tsk i).group/\(s.tsk i).group<s.ns
 par:∀g,1<=g->g<s.ns->0<=s.par g/\s.par g<g
 sp:∀g,g<s.ns->(s.nsp g:Int)=s.cpus
 ng:s.ns<=s.ng
 c0:0<=s.cpus
 c1:s.cpus<=64
 n12:s.ns<=12
theorem uB(n:Nat):bE n [AVal.lit (.pointer aC)]=wK (λ _=>aC) n:=by
 apply dZ;intro j;by_cases hj:j<n;.rw[xH _ n j hj,oG,iP hj];rfl
 rw[oG,iN hj];simp[wK,hj]
theorem a8U(s:St)(hs:s.Small)(hk:FloorOk s):aYX Γ 194 s (wS s):=by
 obtain⟨hng,hnk,hnu,hnt,hns,hnsp⟩:=id hs;obtain⟨kgrp,kpar,ksp,kng,kc0,kc1,k12⟩:=hk;intro k L F l hL hF hne hl;obtain⟨a1,a2,a3,a4,a5,a6⟩:=fK hL;obtain⟨b1,b2,b3,b4,b5,b6⟩:=fK hF;obtain⟨c1,c2⟩:=iR hne;refine cN Tryz.func194 rfl 112 rfl bB (pA ?_);refine gL (tX F oO) ?_;have uU:=fP a1 a2 a3 a4 a5 a6 b1 b2 (rA b3 b4 b5 b6 c1 c2);refine rR ?_;apply zN;have kp:Kp [0,2,3,4,6,7,13,14,15,29,30,31,32,42,54,61,86] (λ i=>if i=L then 0 else i-k+1):=jZ;refine wl ?_;refine cA ?_;refine bY (X:=Nat) rfl [0,2,3,4,6,7,13,14,15,29,30,31,32,42,54,61,86] (k+1) (λ i=>[(14,i)]) (λ i=>LK L k s (l++cD (qF s) i)) (λ i=>i<=s.cpus.toNat) (λ i=>s.cpus.toNat-i) 0 ?_ (aZ _) ?_;.rw[kN,cZ];refine rR ?_;apply zN;(have uU:=fP a1 a2 a3 a4 a5 a6 b1 b2 (rA b3 b4 b5 b6 c1 c2);exact qT)
 intro c hc;have hfl:=dX (f:=qF s) (m:=12) (λ i=>by have:=dX (f:=rI s i) (m:=1) (λ j=>IL _ _ _ _) s.ns;unfold qF;omega) c;obtain⟨l0,e0,h0⟩:∃x,x=l++cD (qF s) c/\x.length<=l.length+c*12:=⟨_,rfl,by simp;omega⟩;rw[<-e0];have uU:=fP a1 a2 a3 a4 a5 a6 b1 b2 (xC b3 b4 b5 b6 c1 c2 @uB);refine rR ?_;apply zN;refine wl ?_;refine oT (λ ht=>?_) λ ht=>?_
 .refine bY (X:=Nat) rfl [0,2,3,4,6,7,13,14,15,29,30,31,32,42,54,61,86] (k+3) (λ i=>[(31,i)]) (λ i=>LW (k+2) (k+1) s.ns (fT s c i)++LK L k s l0) (λ i=>i<=s.nt) (λ i=>s.nt-i) 0 ?_ (aZ _) ?_;.rw[fT];refine rR ?_;apply zN;(have uU:=fP a1 a2 a3 a4 a5 a6 b1 b2 (xC b3 b4 b5 b6 c1 c2 @uB);exact qT)
  intro i hi;obtain⟨f,ef⟩:∃f,f=fT s c i:=⟨_,rfl⟩;rw[<-ef];have hstep:fT s c (i+1)=if tL s c i=aB then low f (s.tsk i).group.toNat (s.tsk i).v else f:=by rw[ef];rfl
  refine rR ?_;apply zN;refine wl ?_;refine CM ⟨λ ht ht=>⟨λ hg=>⟨?_⟩⟩⟩ ⟨λ ht ht=>⟨λ hg=>⟨?_⟩⟩⟩ ⟨λ ht ht=>⟨λ hg=>⟨?_⟩⟩⟩ ⟨λ ht=>zN ?_⟩
  .obtain⟨hg1,hg2⟩:=kgrp i oO;have htk:tL s c i=aB:=by simp[tL,hg,ht]
   obtain⟨f1,ef1⟩:∃f1,f1=low f (s.tsk i).group.toNat (s.tsk i).v:=⟨_,rfl⟩;refine cl [.gen (.tup []) (k+4) (LW (k+2) (k+1) s.ns f) (LW (k+2) (k+1) s.ns f1)] ?_;refine iE ?_ ?_;.have h:=a5V (Γ:=Γ) (k+4) (k+2) (k+1) s.ns f (s.tsk i).group.toNat (s.tsk i).v oO oO oO oO;rw[gA hg1,<-ef1]at h;exact h
   refine wl ?_;refine cA ?_;refine⟨i+1,oO,oO,?_⟩;rw[hstep,iP htk,<-ef1];refine rR ?_;apply zN;(have uU:=fP a1 a2 a3 a4 a5 a6 b1 b2 (xC b3 b4 b5 b6 c1 c2 @uB);exact qT)
  .refine⟨i+1,oO,oO,?_⟩;rw[hstep,iN (by simp[tL,ht])];refine rR ?_;apply zN;(have uU:=fP a1 a2 a3 a4 a5 a6 b1 b2 (xC b3 b4 b5 b6 c1 c2 @uB);exact qT)
  .refine⟨i+1,oO,oO,?_⟩;rw[hstep,iN (by simp[tL,hg])];refine rR ?_;apply zN;(have uU:=fP a1 a2 a3 a4 a5 a6 b1 b2 (xC b3 b4 b5 b6 c1 c2 @uB);exact qT)
  have hi':i=s.nt:=oO;subst hi';clear hstep;refine bY (X:=Nat) rfl [0,2,3,4,6,7,13,14,15,29,30,31,32,42,54,61,86] (k+3) (λ j=>[(7,((s.ns:Int)-1-j:Int))]) (λ j=>LW (k+2) (k+1) s.ns (dF s c j)++LK L k s (l0++cD (rI s c) j)) (λ j=>j<=s.ns) (λ j=>s.ns-j) 0 ?_ (aZ _) ?_;.rw[kN,cZ,dF,<-ef,(oO:((s.ns:Int)-1-((0:Nat):Int))=(s.ns:Int)-1)];refine rR ?_;apply zN;(have uU:=fP a1 a2 a3 a4 a5 a6 b1 b2 (xC b3 b4 b5 b6 c1 c2 @uB);exact qT)
  clear ef f;intro j hj;have hfj:=dX (f:=rI s c) (m:=1) (λ j=>IL _ _ _ _) j;obtain⟨l1,e1,h1⟩:∃x,x=l0++cD (rI s c) j/\x.length<=l0.length+j:=⟨_,rfl,by simp;omega⟩;obtain⟨f,ef⟩:∃f,f=dF s c j:=⟨_,rfl⟩;rw[<-e1,<-ef];refine rR ?_;apply zN;by_cases hlt:j<s.ns
  .obtain⟨g,eg,hgn⟩:∃g:Nat,(s.ns:Int)-1-j=(g:Int)/\g=s.ns-1-j:=⟨s.ns-1-j,oO,rfl⟩;rw[eg];have hF:dF s c (j+1)=FU s c g f:=by rw[ef,hgn];rfl
   have hLj:rI s c j=FT s c g f:=by rw[ef,hgn];rfl
   have hget:=xH f s.ns g oO
   cases hf:f g with
   |none=>rw[hf,TB]at hget;have uU:=fP a1 a2 a3 a4 a5 a6 b1 b2 (xC b3 b4 b5 b6 c1 c2 hget);refine wl ?_;refine oU ⟨λ ht ht=>zN ?_⟩;refine⟨j+1,oO,oO,?_⟩;rw[hF,show FU s c g f=f by simp only[FU,hf],fQ,hLj,show FT s c g f=[]by simp only[FT,hf],cZ,<-e1,(oO:((s.ns:Int)-1-((j+1:Nat):Int))=(g:Int)-1)];(have uU:=fP a1 a2 a3 a4 a5 a6 b1 b2 (xC b3 b4 b5 b6 c1 c2 hget);exact qT)
   |some m=>
    rw[hf,TA]at hget;have hspg:=ksp g oO;have hnn:=eg;have uU:=fP a1 a2 a3 a4 a5 a6 b1 b2 (xC b3 b4 b5 b6 c1 c2 hget);refine wl ?_;refine oU ⟨λ ht ht=>zN ?_⟩;obtain⟨l2,e_l2,h_l2⟩:∃x,x=l1++iQ (decide ((s.sp g c).floor<m)) ⟨14,(g:Int),(c:Int)⟩/\x.length<=(l1).length+1:=⟨_,rfl,jJ _ _ _⟩;refine lJ [0,2,3,4,6,7,13,14,15,29,30,31,32,42,54,61,86] (k+4) [] ((L,⟨8,aE,[nD (k+3) s (l2)]⟩)::cL (k+3) 3 ((l2).map Flt.row) (LW (k+2) (k+1) s.ns f)) ?_ ?_;.refine dl [.gen (.tup []) (k+4) (LK (L) (k) s (l1)) (LK (L) (k+3) s (l2))] ?_;refine iE ?_ ?_;all_goals(first|(exact mL (k+3) (L) (k) s (l1) (l2) _ (decide ((s.sp g c).floor<m)) _ _ _ (by first|rfl|(rw[bH];simp only[beq_iff_eq,bne_iff_ne,ne_eq,dTt,dFn,aH,bL,bD,beq_eq_false_iff_ne,aS,bX,true_iff,false_iff,iff_true,iff_false];omega)|(simp[hg];done)|(simp[hg,hq];done)|(simp_all;done)|(simp_all;omega)) e_l2 oO oO oO oO)|((have uU:=fP a1 a2 a3 a4 a5 a6 b1 b2 (xC b3 b4 b5 b6 c1 c2 hget);exact qT)))
    refine rR ?_;apply zN;have hl2:l0++cD (rI s c) (j+1)=l2:=by rw[fQ,<-cM,<-e1,hLj,e_l2];simp only[FT,hf]
    refine wl ?_;refine oT (λ ht=>?_) λ ht=>?_
    .obtain⟨hp1,hp2⟩:=kpar g oO oO;obtain⟨f1,ef1⟩:∃f1,f1=low f (s.par g).toNat (s.sp g c).v:=⟨_,rfl⟩;refine dl [.gen (.tup []) (k+4) (LW (k+2) (k+1) s.ns f) (LW (k+2) (k+1) s.ns f1)] ?_;refine iE ?_ ?_;.have h:=a5V (Γ:=Γ) (k+4) (k+2) (k+1) s.ns f (s.par g).toNat (s.sp g c).v oO oO oO oO;rw[gA hp1,<-ef1]at h;exact h
     refine wl ?_;refine cA ?_;refine⟨j+1,oO,oO,?_⟩;rw[hF,show FU s c g f=f1 by simp only[FU,hf];rw[iP oO,ef1],hl2,(oO:((s.ns:Int)-1-((j+1:Nat):Int))=(g:Int)-1)];exact DZ (k+3) k (wV (fP (@a1) (@a2) (@a3) (@a4) (@a5) (@a6) (@b1) (@b2) (xC (@b3) (@b4) (@b5) (@b6) (@c1) (@c2) (@hget))))
    refine⟨j+1,oO,oO,?_⟩;rw[hF,show FU s c g f=f by simp only[FU,hf];rw[iN oO],hl2,(oO:((s.ns:Int)-1-((j+1:Nat):Int))=(g:Int)-1)];exact DZ (k+3) k (wV (fP (@a1) (@a2) (@a3) (@a4) (@a5) (@a6) (@b1) (@b2) (xC (@b3) (@b4) (@b5) (@b6) (@c1) (@c2) (@hget))))
  have uU:=fP a1 a2 a3 a4 a5 a6 b1 b2 (rA b3 b4 b5 b6 c1 c2);refine wl ?_;refine dI λ ht=>?_;have hj':j=s.ns:=oO;refine⟨c+1,oO,oO,?_⟩;rw[show l++cD (qF s) (c+1)=l1 by rw[fQ,<-cM,<-e0,e1,hj'];rfl]
  refine rR ?_;apply zN;(have uU:=fP a1 a2 a3 a4 a5 a6 b1 b2 (rA b3 b4 b5 b6 c1 c2);exact qT)
 have hi':c=s.cpus.toNat:=oO;refine⟨k+1,[],LK L k s l0,?_,_,rfl,rfl,rfl,by rw[e0,hi'];rfl⟩;(have uU:=fP a1 a2 a3 a4 a5 a6 b1 b2 (rA b3 b4 b5 b6 c1 c2);exact qT)
structure Wf (s:St):Prop where
 mask0:∀i,0<=(s.tsk i).mask
 mask1:∀i,(s.tsk i).mask<18446744073709551616
 tv:∀i,(s.tsk i).v<=18446744073709551615
 tr:∀i,0<=(s.tsk i).r
 sv:∀g c,(s.sp g c).v<=18446744073709551615
 sr:∀g c,0<=(s.sp g c).r
def a5I(s:St)(i:Nat)(c:Nat):Bool:=decide (s.cpus<=(c:Int))&&aHH (s.tsk i).mask c
def r8(s:St)(i:Nat):Bool:=mM (a5I s i) 64
def r9(s:St)(i:Nat):Bool:=onB s i&& !(aHH (s.tsk i).mask (s.tsk i).cpu.toNat)
def brk(s:St)(i:Nat)(r:Int):Bool:=if r=4 then t4 s i else if r=5 then t5 s i else if r=6 then t6 s i else if r=7 then t7 s i else if r=8 then r8 s i else if r=9 then r9 s i else t10 s i
theorem bJT{s:St}{i:Nat}{r:Int}(h:r=4):brk s i r=t4 s i:=by subst h;rfl
theorem bJS{s:St}{i:Nat}{r:Int}(h:r=5):brk s i r=t5 s i:=by subst h;rfl
theorem zV{f:Nat->Bool}:∀ {n:Nat},(∀j,j<n->f j=aE)->mM f n=aE
 |0,_=>rfl
 |n+1,h=>by rw[mM,zV (λ j hj=>h j oO),h n oO];rfl
def KP(s:St)(r i:Nat):List Flt:=iQ (brk s i (r+4)) ⟨((r:Int)+4),(i:Int),0⟩
def XS(s:St)(r:Nat):List Flt:=cD (KP s r) s.nt
def aIP(s:St)(g c:Nat):List Flt:=iQ (!(pK (s.sp g c).v (s.sp g c).r (s.wt g))) ⟨11,(g:Int),(c:Int)⟩
def KX(s:St)(g:Nat):List Flt:=if g=0 then []else cD (aIP s g) (s.nsp g)
def BJ(s:St)(c:Nat):List Flt:=iQ (decide (0<(s.sp 0 c).v\/0<(s.sp 0 c).r)) ⟨12,(c:Int),0⟩
def oQ(s:St):List Flt:=cD (pF s) s.nk++(cD (XS s) 7++(cD (KX s) s.ns++(cD (BJ s) s.cpus.toNat++cD (AJ s) s.cpus.toNat)))
structure PartOk (s:St):Prop where
 sp:∀g,g<s.ns->(s.nsp g:Int)=s.cpus
 ng:s.ns=s.ng
 ns1:1<=s.ns
 c0:0<=s.cpus
 c1:s.cpus<=64
 nu:(s.nu:Int)=s.cpus
 n12:s.ns<=12
structure Mem where
 v:Int
 a:Int
 b:Int
def Mem.row (m:Mem):List AVal:=[.lit (.int .u64 m.v),.lit (.int .i64 m.a),.lit (.int .i64 m.b)]
attribute [go_sem] Mem.row
def BZ(f:Nat->List Mem):Nat->List Mem
 |0=>[]
 |n+1=>BZ f n++f n
theorem aFX{f:Nat->List Mem}{n:Nat}:BZ f (n+1)=BZ f n++f n:=rfl
def ifM(b:Bool)(m:Mem):List Mem:=if b=aB then [m]else []
def inQ(s:St)(g c:Int)(i:Nat):Bool:=(s.tsk i).ready&&(decide ((s.tsk i).group=g)&&decide ((s.tsk i).cpu=c))
def a1N(s:St)(g c i:Nat):List Mem:=ifM (inQ s g c i) ⟨(s.tsk i).v,0,(s.tsk i).id⟩
def GF(s:St)(c:Nat):Nat->Nat->List Mem
 |0,g=>BZ (a1N s g c) s.nt
 |f+1,g=>BZ (a1N s g c) s.nt++BZ (λ h=>ifM (decide (1<=h/\s.par h=(g:Int))&& !(GF s c f h).isEmpty) ⟨(s.sp h c).v,1,(h:Int)⟩) s.ns
def bHW(s:St)(c g:Nat)(sub:Nat->List Mem)(h:Nat):List Mem:=ifM (decide (1<=h/\s.par h=(g:Int))&& !(sub h).isEmpty) ⟨(s.sp h c).v,1,(h:Int)⟩
theorem aNQ(s:St)(c f g:Nat):GF s c (f+1) g=BZ (a1N s g c) s.nt++BZ (bHW s c g (GF s c f)) s.ns:=rfl
def aHA(f:Nat->Bool):Nat->Nat
 |0=>0
 |n+1=>aHA f n+(if f n=aB then 1 else 0)
theorem aLH(f:Nat->Bool):∀n,aHA f n<=n
 |0=>aF _
 |n+1=>by have:=aLH f n;simp only[aHA];split<;>omega
def a8F(l:List Mem)(i:Nat):Int:=(l.getD i ⟨0,0,0⟩).v
def XU(s:St)(g c:Nat)(l:List Mem)(i:Nat):Bool:=decide ((s.sp g c).floor<a8F l i)
def UB(s:St)(g c:Nat):List Flt:=iQ (decide (0<(GF s c s.ns g).length/\aHA (XU s g c (GF s c s.ns g)) (GF s c s.ns g).length=(GF s c s.ns g).length)) ⟨14,(g:Int),(c:Int)⟩
def aOI(s:St)(g:Nat):List Flt:=cD (UB s g) s.cpus.toNat
def wR(s:St):List Flt:=cD (aOI s) s.ns
def dQ(s:St):List Flt:=if iZ s=aE then [⟨1,0,0⟩]else if 0<(kX s).length then kX s else if 0<(oQ s).length then oQ s else wR s
theorem JD{f:Nat->List Flt}:∀ {n:Nat},(cD f n).length=0->∀i,i<n->f i=[]
 |0,_,i,h=>oO
 |n+1,h,i,hi=>by
  simp only[cD,bM]at h;by_cases he:i=n;.subst he;exact jU oO
  exact JD (n:=n) oO i oO
theorem shapes_nil{s:St}(h:(kX s).length=0):(s.nk:Int)=s.cpus/\(s.nu:Int)=s.cpus/\s.ns=s.ng/\∀g,g<s.ns->(s.nsp g:Int)=s.cpus:=by
 unfold kX at h;simp only[bM]at h
 have h1:(s.nk:Int)=s.cpus:=by
  by_cases hc:(s.nk:Int)=s.cpus;.exact hc
  rw[iP hc]at h;simp at h
 have h2:(s.nu:Int)=s.cpus:=by
  by_cases hc:(s.nu:Int)=s.cpus;.exact hc
  rw[iP hc]at h;simp at h
 have h3:s.ns=s.ng:=by
  by_cases hc:s.ns=s.ng;.exact hc
  rw[iP hc]at h;simp at h
 refine⟨h1,h2,h3,λ g hg=>?_⟩;rw[iN (show ¬s.ns≠s.ng from λ hh=>hh h3)]at h;have:=JD (f:=lN s) oO g hg;unfold lN at this;split at this;.assumption
 cases this
theorem FZ{par:Nat->Int}{g:Nat}(hg:1<=g)(h:QY par 5 g 0<=4):0<=par g/\par g<g:=by
 rw[QY,iN oO]at h;by_cases hc:par g<0\/(g:Int)<=par g;.rw[iP hc]at h;omega
 omega
theorem gT{s:St}(h:iZ s=aB):(1<=s.cpus/\s.cpus<=64/\s.credit<=1099511627776/\1<=s.ng/\s.ng<=256/\s.par 0=0/\s.wt 0=1)/\∀g,1<=g->g<s.ng->okR s g=aB:=by simp only[iZ,aH,dTt,qQ]at h;exact⟨h.1,fb_none_iff.1 h.2⟩
theorem a7P{s:St}(h12:s.ns<=12)(h:iZ s=aB)(hsh:(kX s).length=0):PartOk s/\∀g,1<=g->g<s.ns->s.par g<g:=by obtain⟨⟨h1,h2,h3,h4,h5,h6,h7⟩,hall⟩:=gT h;obtain⟨k1,k2,k3,k4⟩:=shapes_nil hsh;refine⟨⟨k4,k3,oO,oO,h2,k2,h12⟩,λ g hg hn=>?_⟩;have:=hall g hg oO;simp only[okR,aH,dTt]at this;exact(FZ hg this.2).2
end Go.Proofs.T
end
section
namespace Go.Proofs.T
open Go Go.AM Go.Proofs
theorem SY{par:Nat->Int}:∀(F g:Nat),g<=F->(∀j,1<=j->j<=g->0<=par j/\par j<j)->tB par F g=tB par g g:=by
 intro F
 induction F using Nat.strongRecOn with
 |_ F ih=>
  intro g hg hv
  cases F with
  |zero=>have:g=0:=oO;subst this;rfl
  |succ F=>
   cases g with
   |zero=>simp[tB]
   |succ g=>obtain⟨h1,h2⟩:=hv (g+1) oO oO;have hv':∀j,1<=j->j<=(par (g+1)).toNat->0<=par j/\par j<j:=λ j h3 h4=>hv j h3 oO;rw[tB,tB,iN oO,iN oO,ih F oO _ oO hv',ih g oO _ oO hv']
theorem IS{par:Nat->Int}:∀(f g n:Nat),(∀j,1<=j->j<=g->0<=par j/\par j<j)->QY par f g n=n+min f (tB par g g)
 |0,g,n,_=>by simp[QY]
 |f+1,0,n,_=>by simp[QY,tB]
 |f+1,g+1,n,hv=>by obtain⟨h1,h2⟩:=hv (g+1) oO oO;have hv':∀j,1<=j->j<=(par (g+1)).toNat->0<=par j/\par j<j:=λ j h3 h4=>hv j h3 oO;rw[QY,iN oO,iN oO,IS f _ _ hv',tB,iN oO,SY g _ oO hv'];omega
theorem aWU(s:St):((YQ s).2==0)=aB↔(s.ng<=256/\1<=s.ng/\s.par 0=0/\s.wt 0=1)/\∀g,1<=g->g<s.ng->okG s g=aB:=by
 unfold YQ;by_cases h1:256<s.ng;.rw[iP h1];simp;omega
 rw[iN h1];by_cases h2:s.ng=0\/¬(s.par 0=0/\s.wt 0=1)
 .rw[iP h2];simp only[Int.reduceBEq,aS,false_iff];rintro⟨⟨h3,h4,h5⟩,_⟩;rcases h2 with h2|h2;.omega
  exact h2 h5
 rw[iN h2];have h3:¬s.ng=0:=λ h=>h2 (.inl h);have h4:s.par 0=0/\s.wt 0=1:=Classical.byContradiction λ h=>h2 (.inr h)
 cases hf:fb (okG s) s.ng with
 |none=>simp only[beq_self_eq_true,true_iff];exact⟨⟨oO,oO,h4⟩,fb_none_iff.1 hf⟩
 |some g=>
  have hne:(XP s g==0)=aE:=by unfold XP;split<;>(try split)<;>rfl
  simp only[hne,aS,false_iff];rintro⟨_,hall⟩;rw[fb_none_iff.2 hall]at hf;cases hf
theorem a8A(s:St)(n:Nat):(∀g,1<=g->g<n->okG s g=aB)↔∀g,1<=g->g<n->okR s g=aB:=by
 constructor
 .intro h g h1 h2;have hv:∀j,1<=j->j<=g->0<=s.par j/\s.par j<j:=λ j h3 h4=>by have:=h j h3 oO;simp only[okG,okP,aH,dTt]at this;exact this.1
  have:=h g h1 h2;simp only[okG,aH,dTt]at this;simp only[okR,aH,dTt];refine⟨this.2.1,?_⟩;rw[IS 5 g 0 hv];omega
 intro h g h1 h2;have hv:∀j,1<=j->j<=g->0<=s.par j/\s.par j<j:=λ j h3 h4=>by have:=h j h3 oO;simp only[okR,aH,dTt]at this;exact FZ h3 this.2
 have:=h g h1 h2;simp only[okR,aH,dTt]at this;simp only[okG,okP,aH,dTt];have h5:=this.2;rw[IS 5 g 0 hv]at h5;exact⟨hv g h1 (aF _),this.1,oO⟩
theorem CG(s:St):nB s=iZ s:=by
 rw[bH];simp only[nB,iZ,aH,dTt,qQ,fb_none_iff,aWU,a8A];constructor;.rintro⟨⟨h1,h2,h3⟩,⟨h4,h5,h6,h7⟩,h8⟩;exact⟨⟨h1,h2,h3,h5,h4,h6,h7⟩,h8⟩
 rintro⟨⟨h1,h2,h3,h5,h4,h6,h7⟩,h8⟩;exact⟨⟨h1,h2,h3⟩,⟨h4,h5,h6,h7⟩,h8⟩
theorem mD{b:Bool}{f:Flt}:iQ b f=[]↔b=aE:=by cases b<;>simp[iQ]
theorem CT(s:St):pV s=kX s:=by unfold pV kX iQ;by_cases h1:(s.nk:Int)=s.cpus<;>by_cases h2:(s.nu:Int)=s.cpus<;>by_cases h3:s.ns=s.ng<;>simp[h1,h2,h3]<;>omega
end Go.Proofs.T
end
section
namespace Go.Proofs
open Go.Shelf
def Tryz.sortF_ren:Go.Shelf.Ren:=⟨λ |6=>195|15=>119|14=>247|28=>206|29=>207|20=>276|21=>277|22=>278|23=>279|24=>280|25=>281|26=>282|27=>283|46=>301|47=>249|48=>250|49=>302|50=>303|57=>316|n=>n,λ |22=>122|24=>125|25=>258|3=>3|39=>189|0=>0|53=>50|55=>22|4=>4|46=>261|45=>260|50=>204|5=>5|9=>9|66=>300|70=>303|76=>326|77=>285|n=>n,λ |n=>n⟩
theorem Tryz.sortF:Go.Proofs.SlLaysF0.n6 aD Tryz.sortF_ren:={
 mixed:=by kernel_rfl
 f6:=⟨Tryz.f195.name,by decide,Tryz.func195.trans AM.iA⟩
 f14:=⟨Tryz.f247.name,by decide,Tryz.func247.trans AM.iA⟩
 f15:=Tryz.func119.trans AM.iA
 f20:=⟨Tryz.f276.name,by decide,Tryz.func276.trans AM.iA⟩
 f21:=⟨Tryz.f277.name,by decide,Tryz.func277.trans AM.iA⟩
 f22:=⟨Tryz.f278.name,by decide,Tryz.func278.trans AM.iA⟩
 f23:=⟨Tryz.f279.name,by decide,Tryz.func279.trans AM.iA⟩
 f24:=⟨Tryz.f280.name,by decide,Tryz.func280.trans AM.iA⟩
 f25:=⟨Tryz.f281.name,by decide,Tryz.func281.trans AM.iA⟩
 f26:=⟨Tryz.f282.name,by decide,Tryz.func282.trans AM.iA⟩
 f27:=⟨Tryz.f283.name,by decide,Tryz.func283.trans AM.iA⟩
 f28:=Tryz.func206.trans AM.iA
 f29:=Tryz.func207.trans AM.iA
 f46:=⟨Tryz.f301.name,by decide,Tryz.func301.trans AM.iA⟩
 f47:=Tryz.func249.trans AM.iA
 f48:=Tryz.func250.trans AM.iA
 f49:=⟨Tryz.f302.name,by decide,Tryz.func302.trans AM.iA⟩
 f50:=⟨Tryz.f303.name,by decide,Tryz.func303.trans AM.iA⟩
 f57:=⟨Tryz.f316.name,by decide,Tryz.func316.trans AM.iA⟩
 t0:=JN
 a0:=Tryz.isAgg0
 z0:=bKO
 v0:=RP
 t3:=jT
 a3:=RU
 z3:=FN
 v3:=qV
 t4:=mB
 a4:=aPV
 z4:=RS
 v4:=wA
 t5:=dH
 a5:=aPU
 z5:=RR
 v5:=vZ
 t9:=jC
 a9:=aPT
 z9:=RQ
 v9:=vY
 t22:=Tryz.underlying122
 a22:=Tryz.isAgg122
 z22:=Tryz.sizeOf122
 v22:=Tryz.zeroValue122
 t25:=Tryz.underlying258
 a25:=Tryz.isAgg258
 z25:=Tryz.sizeOf258
 v25:=Tryz.zeroValue258
 t39:=nZ
 a39:=HU
 z39:=AU
 v39:=pT
 t45:=Tryz.underlying260
 a45:=Tryz.isAgg260
 z45:=Tryz.sizeOf260
 v45:=Tryz.zeroValue260
 t46:=Tryz.underlying261
 a46:=Tryz.isAgg261
 z46:=Tryz.sizeOf261
 v46:=Tryz.zeroValue261
 t50:=Tryz.underlying204
 a50:=Tryz.isAgg204
 z50:=Tryz.sizeOf204
 v50:=Tryz.zeroValue204
 t53:=lD
 a53:=RT
 z53:=HT
 v53:=sO
 t55:=YC
 a55:=Tryz.isAgg22
 z55:=Tryz.sizeOf22
 v55:=aLQ
 t66:=Tryz.underlying300
 a66:=Tryz.isAgg300
 z66:=Tryz.sizeOf300
 v66:=Tryz.zeroValue300
 t70:=Tryz.underlying303
 a70:=Tryz.isAgg303
 z70:=Tryz.sizeOf303
 v70:=Tryz.zeroValue303
 t76:=Tryz.underlying326
 a76:=Tryz.isAgg326
 z76:=Tryz.sizeOf326
 v76:=Tryz.zeroValue326
 t77:=Tryz.underlying285
 a77:=Tryz.isAgg285
 z77:=Tryz.sizeOf285
 v77:=Tryz.zeroValue285}
end Go.Proofs
end
