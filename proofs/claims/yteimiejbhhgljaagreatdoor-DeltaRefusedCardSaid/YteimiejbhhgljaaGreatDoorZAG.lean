import Derived.Test.YteimiejbhhgljaaGreatDoorZAF
import Derived.Laws.Bits64
import Derived.Shelf.SlGeneric
import Derived.Shelf.SlLaysF0
import Derived.Ground.SlsfProg
import Derived.Test.YteimiejbhhgljaaGreatDoorProg
set_option linter.unusedVariables false
set_option linter.defProp false
set_option linter.unusedSimpArgs false
set_option maxHeartbeats 0
set_option maxRecDepth 100000
open Go.AM.AVal renaming lit->aD
open Bool renaming and_eq_true->aO,and_false->MN,and_true->iE,eq_iff_iff->eY,false->aF,false_and->MM,false_eq_true->bP,or_eq_true->gQ,true->aB,true_and->lZ
open Int renaming ediv_nonneg->a7U,emod_lt_of_pos->BL,emod_nonneg->a7T,le_refl->bY,toNat_natCast->bW,toNat_of_nonneg->gY
open Go.IntKind renaming i64->aH,u32->aT,u64->aI,u8->bM
open List renaming all_cons->gI,all_eq_true->aY,all_nil->BK,append_assoc->dA,append_nil->cX,cons_append->bA,eq_nil_of_length_eq_zero->jE,ext_getElem?->fF,getD->oZ,getD_eq_getElem?_getD->aU,getElem?_replicate->oY,getElem?_set->dS,getElem?_set_self->cE,getElem_mem->zY,isEmpty_cons->aAE,isEmpty_nil->bVI,length_append->bT,length_set->jF,map->tB,map_append->aQ,map_cons->bN,map_map->kT,map_nil->bV,map_set->jO,mem_append->dJ,mem_map->dM,mem_singleton->tA,nil_append->aZ,range->aR,replicate->bI
open Nat renaming add_assoc->gM,add_mul->cW,add_sub_cancel->a7O,add_sub_cancel_left->kJ,le_refl->aJ,le_succ->mG,lt_succ_self->cY,mul_one->JK,not_lt_zero->bU,sub_self->TT,zero_le->bF
open Option renaming isNone_iff_eq_none->rP,none->aC,some->aA
open Or renaming inl->dE,inr->dP
open Go.Proofs.Tryz renaming prog->aG,underlying3->aNW,underlying5->gX,underlying50->bJD,underlying9->aNV
open Go.Value renaming bool->bC,int->aE
section
namespace Go.Proofs.T
open Go Go.AM Go.Proofs
variable{r t w x:Int}{L:LSt}{l:List (List AVal)}{c g h i k m n tk:Nat}{s:St}
variable{Γ:dW}
def LSt.setW (L:LSt)(g:Nat)(w:Int):LSt:={L with gl:=L.gl.set g (L.par g,w)}
def PF:(L.setW g w).par h=L.par h:=by
 unfold LSt.setW LSt.par;simp only[aU,dS];by_cases e:g=h
 .subst e;by_cases hl:g<L.gl.length;.simp[hl]
  simp[hl]
 rw[iN e]
def XF(hg:g<L.gl.length):(L.setW g w).wt h=if h=g then w else L.wt h:=by
 unfold LSt.setW LSt.wt;simp only[aU,dS];by_cases e:h=g;.subst e;simp[hg]
 rw[iN (Ne.symm e),iN e]
def Rt0.setW(h:Rt0 L n)(hg:g<L.sl.length)(hg0:0<g)(hw:1<=w/\w<=65536)(hr:∀c,c<n->(L.sp g c).r=0):Rt0 (L.setW g w) n:=by
 have hgl:g<L.gl.length:=by rw[h.ng];exact hg
 refine⟨h.n1,h.n64,h.cpus,h.cr0,h.cr,by show(L.gl.set g _).length=_;rw[jF];exact h.ng,h.ns1,h.ns,h.nk,h.nu,h.rows,h.nt,λ j h1 h2=>by rw[PF];exact h.par j h1 h2,by rw[PF];exact h.par0,λ j hj=>?_,h.clk,λ j c hj hc=>?_,h.root,λ i hi=>by have t:=h.tk i hi;exact⟨t.id1,t.id2,t.g0,t.g1,t.c0,t.c1,t.e,t.v0,t.v1,t.r0,t.m0,t.m1,t.m2,t.m3⟩,h.sorted,h.cur⟩
 .rw[XF hgl];split;.exact hw
  exact h.wt j hj
 rw[XF hgl];obtain⟨a1,a2,a3,a4,a5,a6⟩:=h.sp j c hj hc;split;.rename_i e;subst e;have:=hr c hc;refine⟨?_,a2,a3,a4,a5,a6⟩;show qI (L.sp j c).v (L.sp j c).r w=aB;rw[this];simp[qI];omega
 exact⟨a1,a2,a3,a4,a5,a6⟩
def rw1(L:LSt)(g c:Nat):LSt:=L.setS g c {L.sp g c with r:=0}
def XG(L:LSt)(g:Nat):Nat->LSt
 |0=>L
 |j+1=>rw1 (XG L g j) g j
def aFW{L:LSt}{n g:Nat}(h:Rt0 L n)(hg:g<L.sl.length):∀ {j:Nat},j<=n->Rt0 (XG L g j) n/\Fwd L (XG L g j)/\(XG L g j).tl=L.tl/\∀c,c<j->((XG L g j).sp g c).r=0
 |0,_=>⟨h,fZ L,rfl,λ c hc=>absurd hc (bU _)⟩
 |j+1,hj=>by
  obtain⟨h1,h2,h3,h4⟩:=aFW h hg (j:=j) oO;have hg':g<(XG L g j).sl.length:=by rw[h2.ns];exact hg
  have hr:=h1.rows g hg';have hjr:j<((XG L g j).sl.getD g []).length:=oO;obtain⟨a1,a2,a3,a4,a5,a6⟩:=h1.sp g j hg' oO;refine⟨h1.setS hg' oO ⟨?_,a2,a3,bY _,a5,a6⟩ (λ e=>by subst e;exact⟨(h1.root j oO).1,rfl⟩),h2.trans (Fwd.setS hg' hjr (bY _)) (dE rfl),h3,λ c hc=>?_⟩;.simp only[qI,dTt]at a1;show qI _ 0 _=aB;simp only[qI,dTt];exact⟨a1.1,a1.2.1,oO,dP trivial⟩
  show((rw1 (XG L g j) g j).sp g c).r=0;rw[rw1,AD hg' hjr];split;.rfl
  rename_i e;exact h4 c (by have:c≠j:=λ e2=>e ⟨rfl,e2⟩;omega)
def a7Q:MH m tk (L.setW g w)=(m,⟨8,aF,[fS m tk L]⟩)::(m+1,⟨2,aB,(SP L).set g [(L.par g),w]⟩)::(m+2,⟨1,aB,TE L⟩)::(m+3,⟨1,aB,MP L⟩)::(m+5,⟨1,aF,HT m L⟩)::(tk,⟨8,aB,pB L⟩)::nA (m+6) 3 L.sl.length (CP L):=by
 have e:fS m tk (L.setW g w)=fS m tk L:=by simp[fS,LSt.setW]
 have e2:SP (L.setW g w)=(SP L).set g [(L.par g),w]:=by simp[SP,LSt.setW,jO,glc]
 rw[MH,LH,e,e2];rfl
def YC(k:Nat):Kp [0,1,3,4,5,6,7,8,9,14,28,41,42,43] (λ i=>if k<=i then i-k+1 else 0):=oR
def a2Z(L:LSt)(n:Nat)(hS:Rt0 L n)(o:Opn)(m tk k:Nat)(hm:m+6+L.sl.length<=tk)(hk:tk<k):OpOk Γ 94 L n o m tk k:=by
 have hns:=hS.ns;have hn64:=hS.n64;have hng:=hS.ng;have hw1:=xU o.weight (Γ:=Γ);by_cases h1:1<=o.group/\o.group<L.sl.length;rotate_left
 .refine⟨L,0,302,tk,k,hS,⟨fZ L,dP rfl⟩,hm,⟨hk,dE rfl⟩,aJ _,?_⟩;obtain⟨RH,eRH⟩:=xE (MH m tk L:aS);obtain⟨RV,eRV⟩:=xE (kM 0 302:AVal);refine uG (k:=k) eRV eRH rfl (fX oO oO) (bR Tryz.func94 rfl 102 rfl bB ?_);simp only[MH,LH];have kp:=YC k;refine uV ?_;refine WS (HA λ ht hg=>?_) (HA λ ht hg=>?_)
  iterate 2
   · refine kX ?_
     refine⟨?_,?_⟩
     · rw[eRV];rfl
     · rw[eRH]
       simp only[MH,LH]
       exact mX iV
 by_cases h2:1<=o.weight/\o.weight<=65536;rotate_left
 .rw[decide_eq_false h2]at hw1;refine⟨L,0,2,tk,k,hS,⟨fZ L,dP rfl⟩,hm,⟨hk,dE rfl⟩,aJ _,?_⟩;obtain⟨RH,eRH⟩:=xE (MH m tk L:aS);obtain⟨RV,eRV⟩:=xE (kM 0 2:AVal);refine uG (k:=k) eRV eRH rfl (fX oO oO) (bR Tryz.func94 rfl 102 rfl bB ?_);simp only[MH,LH];have kp:=YC k;refine uV ?_;refine kB (HA λ ht hg=>sJ [.ret aF] ?_);refine fC λ ht=>?_;refine kX ?_;refine⟨?_,?_⟩;.rw[eRV];rfl
  rw[eRH];simp only[MH,LH];exact mX iV
 rw[decide_eq_true h2]at hw1;obtain⟨g,hgg⟩:∃g:Nat,o.group=(g:Int):=⟨o.group.toNat,oO⟩;have hg0:0<g:=oO;have hg1:g<L.sl.length:=oO;obtain⟨hN,hNF,hNt,hNr⟩:=aFW hS hg1 (aJ n);have hNns:=hNF.ns;have hNS:Rt0 ((XG L g n).setW g o.weight) n:=hN.setW oO hg0 h2 hNr;refine⟨(XG L g n).setW g o.weight,0,0,tk,k,hNS,⟨hNF.trans ⟨rfl,rfl,rfl,λ _=>PF,λ _=>bY _,λ _ _=>bY _,mG _,by rw[XF (by have:=hN.ng;omega),iN oO]⟩ (dE rfl),dE rfl⟩,hm,⟨hk,dE rfl⟩,aJ _,?_⟩;have hLs:((XG L g n).setW g o.weight).sl.length=L.sl.length:=hNns;have hrow:=hS.rows g hg1;have hO:gS o=[aD (aE bM o.kind),aD (aE aH o.cpu),aD (aE aH o.task),aD (aE aH (g:Int)),aD (aE aH o.weight),aD (aE aH o.to),aD (aE aH o.ticks),aD (aE aI o.mask)]:=by rw[<-hgg];rfl
 obtain⟨F,hF⟩:∃F:Nat->aS,∀j,F j=(k,⟨8,aB,[gS o]⟩)::MH m tk (XG L g j):=⟨_,λ _=>rfl⟩;obtain⟨RH,eRH⟩:=xE (MH m tk ((XG L g n).setW g o.weight):aS);obtain⟨RV,eRV⟩:=xE (kM 0 0:AVal);refine uG (k:=k) eRV eRH rfl (fX oO oO) (bR Tryz.func94 rfl 102 rfl bB ?_);simp only[MH,LH];have kp:=YC k;have uU:=zA hgg hrow;refine uV ?_;refine kB (HA λ ht hg=>sJ [.ret aB] ?_);refine fC λ ht=>?_;refine cD (X:=Nat) rfl [0,1,3,4,5,6,7,8,9,14,28,41,42,43] (k+1) (λ j=>[(42,j)]) (λ j=>F j) (λ j=>j<=n) (λ j=>n-j) 0 ?_ (bF _) ?_;.rw[hF,hO,XG];simp only[MH,LH];refine fM ?_;exact iC
 intro j hj;obtain⟨hM,hMF,hMt,hMr⟩:=aFW hS hg1 hj;have hMl:=hMF.ns;have hsucc:XG L g (j+1)=rw1 (XG L g j) g j:=rfl;have hlast:j=n->XG L g n=XG L g j:=λ e=>by rw[e]
 rw[hF j,hO];obtain⟨M,eM⟩:=xE (XG L g j);rw[<-eM]at hM hMl hMF hsucc hlast⊢
 have hMrow:=hM.rows g oO;have hMng:=hM.ng;simp only[MH,LH];have uU:=zA hgg hMrow;refine fM ?_;by_cases hj2:j<n
 .have hs1:=hM.sp g j oO hj2;have hwt:=hM.wt g oO;have hset:∀x,((CP M g).set j x)[j]? =aA x:=λ x=>cE (by rw[EG,hMrow];exact hj2);have uU:=pJ hgg hMrow hset @ssN;refine fC λ ht=>?_;refine RD [.ret (enc (M.sp g j).v (M.sp g j).r (M.wt g)),.ret (.tup [enc (M.sp g j).v 0 o.weight,(0:Int)])] ?_;refine kS (zs ?_) (zs ?_) (zs ?_);.exact qZ _ _ _ oO oO
  .exact ME _ _ _ _ hs1.1 h2.1 h2.2
  refine fW ?_;refine⟨j+1,oO,oO,?_⟩;rw[hF,hO,hsucc,rw1,OS oO];refine fM ?_;exact iC
 have hj3:j=n:=oO;rw[hlast hj3]at eRH;have hsetg:∀x,((SP M).set g x)[g]? =aA x:=λ x=>cE (by rw[OB];omega);have uU:=uT hgg hMrow hsetg;refine fC λ ht=>?_;have uU:=uT hgg hMrow hsetg;refine kX ?_;refine⟨?_,?_⟩;.rw[eRV];rfl
 rw[eRH,a7Q];simp only[fS];exact mX iV
def LSt.setK (L:LSt)(c:Nat)(x:Int):LSt:={L with kl:=L.kl.set c x}
def aBH{d:Nat}(hc:c<L.kl.length):(L.setK c x).clk d=if d=c then x else L.clk d:=by
 unfold LSt.setK LSt.clk;simp only[aU,dS];by_cases h:d=c;.subst h;simp[hc]
 rw[iN (Ne.symm h),iN h]
def aNZ:MH m tk (L.setK c x)=(m,⟨8,aF,[fS m tk L]⟩)::(m+1,⟨2,aB,SP L⟩)::(m+2,⟨1,aB,(TE L).set c [x]⟩)::(m+3,⟨1,aB,MP L⟩)::(m+5,⟨1,aF,HT m L⟩)::(tk,⟨8,aB,pB L⟩)::nA (m+6) 3 L.sl.length (CP L):=by
 have e:fS m tk (L.setK c x)=fS m tk L:=by simp[fS,LSt.setK]
 have e2:TE (L.setK c x)=(TE L).set c [x]:=by simp[TE,LSt.setK,jO,inc]
 rw[MH,LH,e,e2];rfl
def Rt0.setK(h:Rt0 L n)(hc:c<n)(hx:0<=x/\x<=281474976710656):Rt0 (L.setK c x) n:=
 ⟨h.n1,h.n64,h.cpus,h.cr0,h.cr,h.ng,h.ns1,h.ns,by show(L.kl.set c x).length=n;rw[jF];exact h.nk,h.nu,h.rows,h.nt,h.par,h.par0,h.wt,λ d hd=>by
  rw[aBH (by rw[h.nk];exact hc)];split;.exact hx
  exact h.clk d hd,h.sp,h.root,λ i hi=>by have t:=h.tk i hi;exact⟨t.id1,t.id2,t.g0,t.g1,t.c0,t.c1,t.e,t.v0,t.v1,t.r0,t.m0,t.m1,t.m2,t.m3⟩,h.sorted,h.cur⟩
def Fwd.setK(hc:c<L.kl.length)(hx:L.clk c<=x):Fwd L (L.setK c x):=
 ⟨rfl,rfl,rfl,λ _=>rfl,λ d=>by
  rw[aBH hc];split;.rename_i e;rw[e];exact hx
  exact bY _,λ _ _=>bY _,mG _,rfl⟩
def a0J{v:Int}(he:qI v r w=aB)(hv:0<=v)(hv2:v<=18446744073709551615)(hr:0<=r)(ht:0<=t):
 qI (DZ v r w t).1 (DZ v r w t).2 w=aB/\0<=(DZ v r w t).1/\(DZ v r w t).1<=18446744073709551615/\0<=(DZ v r w t).2:=by
 simp only[qI,dTt]at he;obtain⟨q,eq⟩:=xE ((t*1048576+r)/w);obtain⟨s,es⟩:=xE ((t*1048576+r)%w);have h1:0<=q:=by rw[eq];exact a7U oO oO
 have h2:0<=s:=by rw[es];exact a7T _ oO
 have h3:s<w:=by rw[es];exact BL _ oO
 unfold DZ;rw[<-eq,<-es];split;.simp only[qI,dTt];exact⟨⟨he.1,he.2.1,oO,dP trivial⟩,oO,oO,oO⟩
 simp only[qI,dTt];refine⟨?_,?_,?_,?_⟩<;>omega
def aRG(L:LSt)(c:Nat)(t:Int)(g:Nat):LSt:=L.setS g c {L.sp g c with v:=(DZ (L.sp g c).v (L.sp g c).r (L.wt g) t).1,r:=(DZ (L.sp g c).v (L.sp g c).r (L.wt g) t).2}
def aEA(c:Nat)(t:Int):Nat->LSt->Nat->LSt
 |0,L,_=>L
 |f+1,L,g=>if g=0 then L else aEA c t f (aRG L c t g) (L.par g).toNat
def aNK(h:Rt0 L n)(hc:c<n)(hg0:0<g)(hg:g<L.sl.length)(ht:0<=t):Rt0 (aRG L c t g) n/\Fwd L (aRG L c t g)/\(aRG L c t g).tl=L.tl:=by obtain⟨a1,a2,a3,a4,a5,a6⟩:=h.sp g c hg hc;have:=a0J a1 a2 a3 a4 ht;exact⟨h.setS hg hc ⟨this.1,this.2.1,this.2.2.1,this.2.2.2,a5,a6⟩ (λ e=>oO),Fwd.setS hg (by rw[h.rows g hg];exact hc) (bY _),rfl⟩
def aNJ{n c:Nat}{t:Int}(hc:c<n)(ht:0<=t):∀ {f:Nat} {L:LSt} {g:Nat},Rt0 L n->g<L.sl.length->Rt0 (aEA c t f L g) n/\Fwd L (aEA c t f L g)/\(aEA c t f L g).tl=L.tl
 |0,L,g,h,_=>⟨h,fZ L,rfl⟩
 |f+1,L,g,h,hg=>by
  rw[aEA];split;.exact⟨h,fZ L,rfl⟩
  rename_i hg0;obtain⟨h1,h2,h3⟩:=aNK h hc oO hg ht;have hp:=h.par g oO hg;obtain⟨h4,h5,h6⟩:=aNJ hc ht (f:=f) (g:=(L.par g).toNat) h1 (by rw[h2.ns];omega);exact⟨h4,h2.trans h5 (dE (by rw[h6])),h6.trans h3⟩
def IC(k:Nat):Kp [0,1,3,4,5,6,7,8,9,11,12,13,18,24,33,67,103] (λ i=>if k<=i then i-k+1 else 0):=oR
def bKU(L:LSt)(n:Nat)(hS:Rt0 L n)(o:Opn)(m tk k:Nat)(hm:m+6+L.sl.length<=tk)(hk:tk<k):OpOk Γ 91 L n o m tk k:=by
 have hnt:=hS.nt;have hcp:=hS.cpus;have hnu:=hS.nu;have hnk:=hS.nk;have hn64:=hS.n64;have hcpu:=cpu L o.cpu m tk (k+1) hm oO (Γ:=Γ);by_cases h1:0<=o.cpu/\o.cpu<L.cpus;rotate_left
 .rw[decide_eq_false h1]at hcpu;refine⟨L,0,300,tk,k,hS,⟨fZ L,dP rfl⟩,hm,⟨hk,dE rfl⟩,aJ _,?_⟩;obtain⟨RH,eRH⟩:=xE (MH m tk L:aS);obtain⟨RV,eRV⟩:=xE (kM (0) 300:AVal);refine uG (k:=k) eRV eRH rfl (fX oO oO) (bR Tryz.func91 rfl 158 rfl bB ?_);simp only[MH,LH];have kp:=IC k;refine fW ?_;refine mS [.far (aD (bC aF)) (k+1) [(k,⟨8,aB,[gS o]⟩)] (MH m tk L) (MH m tk L)] ?_;refine kS (zs ?_) (zs ?_) (zs ?_);.intro q;simp only[MH,LH,fS,gS,bA,aZ]
  .exact hY rfl
  simp only[MH,LH];refine fM ?_;refine fC λ ht=>?_;refine kX ?_;refine⟨?_,?_⟩;.rw[eRV];rfl
  rw[eRH];simp only[MH,LH];exact mX iV
 rw[decide_eq_true h1]at hcpu;obtain⟨c,hc⟩:∃c:Nat,o.cpu=(c:Int):=⟨o.cpu.toNat,oO⟩;rw[hc]at hcpu;have hcn:c<n:=oO;have hO:gS o=[aD (aE bM o.kind),aD (aE aH (c:Int)),aD (aE aH o.task),aD (aE aH o.group),aD (aE aH o.weight),aD (aE aH o.to),aD (aE aH o.ticks),aD (aE aI o.mask)]:=by rw[<-hc];rfl
 by_cases h2:1<=o.ticks/\o.ticks<=4294967295;rotate_left
 .refine⟨L,0,2,tk,k,hS,⟨fZ L,dP rfl⟩,hm,⟨hk,dE rfl⟩,aJ _,?_⟩;obtain⟨RH,eRH⟩:=xE (MH m tk L:aS);obtain⟨RV,eRV⟩:=xE (kM (0) 2:AVal);refine uG (k:=k) eRV eRH rfl (fX oO oO) (bR Tryz.func91 rfl 158 rfl bB ?_);simp only[MH,LH];have kp:=IC k;have uU:=hc;refine fW ?_;refine mS [.far (aD (bC aB)) (k+1) [(k,⟨8,aB,[gS o]⟩)] (MH m tk L) (MH m tk L)] ?_;refine kS (zs ?_) (zs ?_) (zs ?_);.intro q;simp only[MH,LH,fS,gS,hc,bA,aZ]
  .exact hY rfl
  simp only[MH,LH];refine fM ?_;refine uV ?_;refine WS (qS λ ht ht hg=>?_) (qS λ ht ht hg=>?_)
  iterate 2
   · have uU:=hc;refine kX ?_
     refine⟨?_,?_⟩
     · rw[eRV];rfl
     · rw[eRH]
       simp only[MH,LH]
       exact mX iV
 have hck:=hS.clk c hcn;have hwr:aH.wrap (L.clk c+o.ticks)=L.clk c+o.ticks:=wrap_i64 oO oO;by_cases h3:L.clk c+o.ticks<=281474976710656;rotate_left
 .refine⟨L,0,4,tk,k,hS,⟨fZ L,dP rfl⟩,hm,⟨hk,dE rfl⟩,aJ _,?_⟩;obtain⟨RH,eRH⟩:=xE (MH m tk L:aS);obtain⟨RV,eRV⟩:=xE (kM (0) 4:AVal);refine uG (k:=k) eRV eRH rfl (fX oO oO) (bR Tryz.func91 rfl 158 rfl bB ?_);simp only[MH,LH];have kp:=IC k;have uU:=zA hc hwr;refine fW ?_;refine mS [.far (aD (bC aB)) (k+1) [(k,⟨8,aB,[gS o]⟩)] (MH m tk L) (MH m tk L)] ?_;refine kS (zs ?_) (zs ?_) (zs ?_);.intro q;simp only[MH,LH,fS,gS,hc,bA,aZ]
  .exact hY rfl
  simp only[MH,LH];refine fM ?_;refine uV ?_;refine kB (bKN λ ht ht ht hg=>?_);have uU:=zA hc hwr;refine kX ?_;refine⟨?_,?_⟩;.rw[eRV];rfl
  rw[eRH];simp only[MH,LH];exact mX iV
 have hK:Rt0 (L.setK c (L.clk c+o.ticks)) n:=hS.setK hcn ⟨oO,h3⟩;have hKF:Fwd L (L.setK c (L.clk c+o.ticks)):=Fwd.setK oO oO;have hsetk:∀x,((TE L).set c x)[c]? =aA x:=λ x=>cE (by rw[NY];omega);by_cases h4:L.cur c=0
 .refine⟨L.setK c (L.clk c+o.ticks),0,0,tk,k,hK,⟨hKF,dE rfl⟩,hm,⟨hk,dE rfl⟩,aJ _,?_⟩;have hLs:(L.setK c (L.clk c+o.ticks)).sl.length=L.sl.length:=rfl;obtain⟨RH,eRH⟩:=xE (MH m tk (L.setK c (L.clk c+o.ticks)):aS);obtain⟨RV,eRV⟩:=xE (kM (0) 0:AVal);refine uG (k:=k) eRV eRH rfl (fX oO oO) (bR Tryz.func91 rfl 158 rfl bB ?_);simp only[MH,LH];have kp:=IC k;have uU:=pJ hc hwr hsetk h4;refine fW ?_;refine mS [.far (aD (bC aB)) (k+1) [(k,⟨8,aB,[gS o]⟩)] (MH m tk L) (MH m tk L)] ?_;refine kS (zs ?_) (zs ?_) (zs ?_);.intro q;simp only[MH,LH,fS,gS,hc,bA,aZ]
  .exact hY rfl
  simp only[MH,LH];refine fM ?_;refine uV ?_;refine kB (bEK λ ht ht ht ht hg=>?_);have uU:=pJ hc hwr hsetk h4;refine kX ?_;refine⟨?_,?_⟩;.rw[eRV];rfl
  rw[eRH,aNZ];simp only[fS];exact mX iV
 obtain⟨i,hi0,hir,hic,hid0⟩:=(hS.cur c hcn).resolve_left h4;have eMH:=aNZ (m:=m) (tk:=tk) (c:=c) (L:=L) (x:=L.clk c+o.ticks);simp only[fS]at eMH;obtain⟨Kx,eK⟩:=xE (L.setK c (L.clk c+o.ticks));rw[<-eK]at eMH hK hKF;have hKt:Kx.tl=L.tl:=by rw[eK];rfl
 have hKs:Kx.sl.length=L.sl.length:=by rw[eK];rfl
 have hKc:L.cur c=Kx.cur c:=by rw[eK];rfl
 have hKi:Kx.tsk i=L.tsk i:=by rw[eK];rfl
 have hi:i<Kx.tl.length:=by rw[hKt];exact hi0
 have hfp:=a8U Kx (Kx.cur c) i (dP ⟨i,hi,rfl,by rw[hKi,hid0,hKc]⟩) hK.sorted (by have:=hK.nt;omega) (Γ:=Γ);rw[<-hKc]at hfp;have hmK:m+6+Kx.sl.length<=tk:=oO;obtain⟨NM,eNM⟩:=xE ((MH m tk Kx).map (·.1));have hNM:nub (NM.map (λ i=>if k<=i then i-k+1 else 0))=[0]:=by rw[eNM];exact tZ hmK hk (λ i hi=>iN oO)
 have hT:=hK.tk i hi;have hTe:=hT.e;simp only[qI,dTt]at hTe;obtain⟨g0,hgr⟩:∃g:Nat,(Kx.tsk i).group=(g:Int):=⟨(Kx.tsk i).group.toNat,by have:=hT.g0;omega⟩;have hg1:g0<Kx.sl.length:=by have:=hT.g1;omega
 have hmv:=a0J (t:=o.ticks) hT.e hT.v0 hT.v1 hT.r0 oO;obtain⟨z,ez⟩:=xE (DZ (Kx.tsk i).v (Kx.tsk i).r (Kx.tsk i).weight o.ticks);rw[<-ez]at hmv;obtain⟨T1,eT⟩:=xE ((Kx.tsk i).run z.1 z.2 (Kx.tsk i).weight);have hL1:Rt0 (Kx.setT i T1) n:=by rw[eT];exact hK.setT hi ⟨hT.id1,hT.id2,hT.g0,hT.g1,hT.c0,hT.c1,hmv.1,hmv.2.1,hmv.2.2.1,hmv.2.2.2,hT.m0,hT.m1,hT.m2,hT.m3⟩ rfl (λ d _ _ h3 h4=>⟨h3,h4⟩)
 obtain⟨Z,eZ⟩:=xE (aEA c o.ticks Kx.sl.length (Kx.setT i T1) g0);have hZ:=aNJ hcn (oO:0<=o.ticks) (f:=Kx.sl.length) hL1 (g:=g0) (by show g0<Kx.sl.length;exact hg1);rw[<-eZ]at hZ;have hZs:Z.sl.length=L.sl.length:=by rw[hZ.2.1.ns,<-hKs];rfl
 have hset:∀x,((pB Kx).set i x)[i]? =aA x:=λ x=>cE (by rw[uX];exact hi);have hns:=hS.ns;refine⟨Z,L.cur c,0,tk,k,hZ.1,⟨hKF.trans (Fwd.setT.trans hZ.2.1 (dE (by rw[hZ.2.2]))) (dP (by rw[hKt];exact aJ _)),dE rfl⟩,hm,⟨hk,dE rfl⟩,aJ _,?_⟩;obtain⟨RH,eRH⟩:=xE (MH m tk Z:aS);obtain⟨RV,eRV⟩:=xE (kM (L.cur c) 0:AVal);refine uG (k:=k) eRV eRH rfl (fX oO oO) ?_;obtain⟨F,hF⟩:∃F:LSt->aS,∀M,F M=(k,⟨8,aB,[gS o]⟩)::MH m tk M:=⟨_,λ _=>rfl⟩;refine bR Tryz.func91 rfl 158 rfl bB ?_;simp only[MH,LH];have kp:=IC k;have uU:=uT hc hwr hsetk;refine fW ?_;refine mS [.far (aD (bC aB)) (k+1) [(k,⟨8,aB,[gS o]⟩)] (MH m tk L) (MH m tk L)] ?_;refine kS (zs ?_) (zs ?_) (zs ?_);.intro q;simp only[MH,LH,fS,gS,hc,bA,aZ]
 .exact hY rfl
 simp only[MH,LH];refine fM ?_;refine uV ?_;refine kB (bEK λ ht ht ht ht hg=>?_);rw[<-eMH];simp only[MH,LH];have uU:=zA hc hNM;refine RD [.raw (aA 74) ⟨aD (aE aH (i:Int)),k+1,[],NM⟩] ?_;refine iA ?_ ?_;.exact TD (loc:=[(k,⟨8,aB,_⟩)]) hmK rfl kRf rfl rfl rfl (λ x hx=>by rw[tA.1 hx];exact hk) hfp eNM
 refine fW ?_;refine RD [.ret (enc (Kx.tsk i).v (Kx.tsk i).r (Kx.tsk i).weight),.ret (.tup [enc z.1 z.2 (Kx.tsk i).weight,(0:Int)])] ?_;refine kS (zs ?_) (zs ?_) (zs ?_);.exact qZ _ _ _ oO oO
 .rw[ez];exact WC _ _ _ _ hT.e hT.v0 hT.v1 hT.r0 oO oO
 refine fW ?_;refine mS [.gen (.tup []) (k+2) [(tk,⟨8,aB,pB Kx⟩)] [(tk,⟨8,aB,(pB Kx).set i (tkc ((Kx.tsk i).run z.1 z.2 (Kx.tsk i).weight))⟩)]] ?_;refine iA ?_ ?_;.exact aPW (Kx.tsk i) z.1 z.2 (Kx.tsk i).weight (pB Kx) tk i (xN hi) oO oO (k+2) oO
 have uU:=pJ hc hgr hset @Tk.run.eq_1;refine fW ?_;have hT1:tkc T1=[aD (aE aH (Kx.tsk i).id),aD (aE aH (g0:Int)),aD (aE aH (Kx.tsk i).weight),aD (aE aH (Kx.tsk i).cpu),aD (aE aI (Kx.tsk i).mask),aD (bC (Kx.tsk i).ready),aD (aE aI z.1),aD (aE aT z.2)]:=by rw[eT,<-hgr];rfl
 refine cD (X:=LSt×Nat×Nat) rfl [0,1,3,4,5,6,7,8,9,11,12,13,18,24,33,67,103] (k+2) (λ x=>[(11,x.2.1)]) (λ x=>F x.1) (λ x=>Rt0 x.1 n/\x.1.sl.length=L.sl.length/\x.2.1<L.sl.length/\x.2.1<x.2.2/\Z=aEA c o.ticks x.2.2 x.1 x.2.1) (λ x=>x.2.2) (Kx.setT i T1,g0,Kx.sl.length) ?_ ⟨hL1,hKs,by show g0<L.sl.length;omega,hg1,eZ⟩ ?_;.rw[hF,FD,hT1];simp only[fS,gS,hc];refine fM ?_;exact iC
 rintro⟨M,g,f⟩ ⟨hM,hMl,hg2,hgf,hZf⟩;simp only[]at hM hMl hg2 hgf hZf;obtain⟨f,rfl⟩:∃f',f=f'+1:=⟨f-1,oO⟩;rw[aEA]at hZf;rw[hF];have hMng:=hM.ng;have hrow:=hM.rows g oO;simp only[MH,LH];have uU:=uT hc hMl hrow;refine fM ?_;by_cases hg0:g=0
 .rw[iP hg0]at hZf;subst hg0;refine fC λ ht=>?_;have uU:=uT hc hMl hrow;refine kX ?_;refine⟨?_,?_⟩;.rw[eRV];rfl
  rw[eRH,hZf];simp only[MH,LH];exact mX iV
 rw[iN hg0]at hZf;obtain⟨hp0,hp1⟩:=hM.par g oO oO;obtain⟨p,hp⟩:∃p:Nat,M.par g=(p:Int):=⟨(M.par g).toNat,oO⟩;have hwt:=hM.wt g oO;have hs1:=hM.sp g c oO hcn;obtain⟨y,ey⟩:=xE (DZ (M.sp g c).v (M.sp g c).r (M.wt g) o.ticks);have hC:=aNK hM hcn (g:=g) (t:=o.ticks) oO oO oO;have hsetS:∀x,((CP M g).set c x)[c]? =aA x:=λ x=>cE (by rw[EG,hrow];exact hcn);have uU:=rY hc hMl hrow hp hsetS @ssN;refine fC λ ht=>?_;refine RD [.ret (enc (M.sp g c).v (M.sp g c).r (M.wt g)),.ret (.tup [enc y.1 y.2 (M.wt g),(0:Int)])] ?_;refine kS (zs ?_) (zs ?_) (zs ?_);.exact qZ _ _ _ oO oO
 .rw[ey];exact WC _ _ _ _ hs1.1 hs1.2.1 hs1.2.2.1 hs1.2.2.2.1 oO oO
 refine fW ?_;rw[hp,bW]at hZf;refine⟨(aRG M c o.ticks g,p,f),⟨hC.1,by rw[hC.2.1.ns];exact hMl,by show p<L.sl.length;omega,by show p<f;omega,hZf⟩,cY f,?_⟩;rw[hF,aRG,OS oO,<-ey];simp only[fS,gS,hc];refine fM ?_;exact iC
def SC{loc X Y:aS}{s:Nat}(h1:AM.look loc k=aC)(h:rO loc X Y):rO loc X (cM k s l Y):=λ i hi=>by
 rcases hi with hi|hi;.exact h i (dE hi)
 rcases QJ hi with rfl|hi;.exact h1
 exact h i (dP hi)
def aUS{a b id s:Nat}{B X Y B0 B1 B2 B3 B5:Blk}{F:aS}(h1:tk≠a)(h3:tk≠b)(h2:tk≠id)(hm:m+6<=tk)(q:Nat):
 AM.look ((tk,B)::(a,X)::(b,Y)::cM id s l ((m,B0)::(m+1,B1)::(m+2,B2)::(m+3,B3)::(m+5,B5)::F)) q=AM.look ((a,X)::(b,Y)::cM id s l ((m,B0)::(m+1,B1)::(m+2,B2)::(m+3,B3)::(m+5,B5)::(tk,B)::F)) q:=by
 by_cases hq:q=tk
 .subst hq
  have e1:AM.look ((a,X)::(b,Y)::cM id s l ((m,B0)::(m+1,B1)::(m+2,B2)::(m+3,B3)::(m+5,B5)::(q,B)::F)) q=aA B:=by
   simp only[AM.look];rw[iN (Ne.symm h1),iN (Ne.symm h3),HZ (Ne.symm h2)];simp only[AM.look];repeat rw[iN oO]
   rw[iP trivial]
  rw[e1];simp only[AM.look,if_true]
 have e1:∀Z,AM.look ((tk,B)::Z) q=AM.look Z q:=λ Z=>by simp only[AM.look];rw[iN (λ h=>hq h.symm)]
 rw[e1];refine kD (kD (VB (kD (kD (kD (kD (kD ?_)))))));rw[e1]
def DK{α:Type}{l r:List α}:(l++r).isEmpty=(l.isEmpty&&r.isEmpty):=by cases l<;>rfl
def a1E:(MH m tk L).isEmpty=aF:=rfl
def GL{H H':aS}(h:oU (kC k) H=aB)(h':oU (kC k) H'=aB):((tB (λ x=>x.fst) (tB (λ(x:Nat×Blk)=>(x.fst,aA x.snd)) H)++tB (λ x=>x.fst) (tB (λ(x:Nat×Blk)=>(x.fst,(aC:Option Blk))) H')).all λ x=>decide (x<k))=aB:=by
 simp only[oU,aY,aO]at h h';simp only[aY,dJ,dM];rintro x (⟨y,⟨z,hz,rfl⟩,rfl⟩|⟨y,⟨z,hz,rfl⟩,rfl⟩);.exact(h z hz).1
 exact(h' z hz).1
def Tk.rdy (t:Tk):Tk:={t with ready:=aB}
def NU(k:Nat):Kp [0,1,3,4,5,6,7,8,9,14,19,22] (λ i=>i-k):=oR
def bFG(L:LSt)(n:Nat)(hS:Rt0 L n)(o:Opn)(m tk k:Nat)(hm:m+6+L.sl.length<=tk)(hk:tk<k):OpOk Γ 89 L n o m tk k:=by
 have hnt:=hS.nt;have hns:=hS.ns;have htask:=LQ o.task (Γ:=Γ);by_cases h1:1<=o.task/\o.task<=65535;rotate_left
 .rw[decide_eq_false h1]at htask;refine⟨L,0,301,tk,k,hS,⟨fZ L,dP rfl⟩,hm,⟨hk,dE rfl⟩,aJ _,?_⟩;obtain⟨RH,eRH⟩:=xE (MH m tk L:aS);obtain⟨RV,eRV⟩:=xE (kM (0) 301:AVal);refine uG (k:=k) eRV eRH rfl (fX oO oO) (bR Tryz.func89 rfl 103 rfl bB ?_);simp only[MH,LH];have kp:=NU k;refine fW ?_;refine sJ [.ret aF] ?_;refine fC λ ht=>?_;refine kX ?_;refine⟨?_,?_⟩;.rw[eRV];rfl
  rw[eRH];simp only[MH,LH];exact mX iV
 rw[decide_eq_true h1]at htask;rcases AS hS o.task with hr|⟨i,hi,hid,hr⟩
 .have hfc:=find L o.task (-1) hr hS.sorted oO m tk (k+1) hm oO (Γ:=Γ);refine⟨L,0,6,tk,k,hS,⟨fZ L,dP rfl⟩,hm,⟨hk,dE rfl⟩,aJ _,?_⟩;obtain⟨RH,eRH⟩:=xE (MH m tk L:aS);obtain⟨RV,eRV⟩:=xE (kM (0) 6:AVal);refine uG (k:=k) eRV eRH rfl (fX oO oO) (bR Tryz.func89 rfl 103 rfl bB ?_);simp only[MH,LH];have kp:=NU k;refine fW ?_;refine sJ [.ret aB] ?_;refine fC λ ht=>?_;refine mS [.far (aD (aE aH (-1))) (k+1) [(k,⟨8,aB,[gS o]⟩)] (MH m tk L) (MH m tk L)] ?_;refine kS (zs ?_) (zs ?_) (zs ?_);.intro q;simp only[MH,LH,fS,gS,bA,aZ]
  .exact hY rfl
  simp only[MH,LH];refine fM ?_;refine fC λ ht=>?_;refine kX ?_;refine⟨?_,?_⟩;.rw[eRV];rfl
  rw[eRH];simp only[MH,LH];exact mX iV
 have hfc:=find L o.task i hr hS.sorted oO m tk (k+1) hm oO (Γ:=Γ);by_cases hrd:(L.tsk i).ready=aB
 .refine⟨L,0,304,tk,k,hS,⟨fZ L,dP rfl⟩,hm,⟨hk,dE rfl⟩,aJ _,?_⟩;obtain⟨RH,eRH⟩:=xE (MH m tk L:aS);obtain⟨RV,eRV⟩:=xE (kM (0) 304:AVal);refine uG (k:=k) eRV eRH rfl (fX oO oO) (bR Tryz.func89 rfl 103 rfl bB ?_);simp only[MH,LH];have kp:=NU k;refine fW ?_;refine sJ [.ret aB] ?_;refine fC λ ht=>?_;refine mS [.far (aD (aE aH (i:Int))) (k+1) [(k,⟨8,aB,[gS o]⟩)] (MH m tk L) (MH m tk L)] ?_;refine kS (zs ?_) (zs ?_) (zs ?_);.intro q;simp only[MH,LH,fS,gS,bA,aZ]
  .exact hY rfl
  simp only[MH,LH];refine fM ?_;have uU:=hrd;refine uV ?_;refine kB (gB λ ht ht=>?_);have uU:=hrd;refine kX ?_;refine⟨?_,?_⟩;.rw[eRV];rfl
  rw[eRH];simp only[MH,LH];exact mX iV
 have hrd:(L.tsk i).ready=aF:=by simpa using hrd
 have hT:=hS.tk i hi;obtain⟨g,hgr⟩:∃g:Nat,(L.tsk i).group=(g:Int):=⟨(L.tsk i).group.toNat,by have:=hT.g0;omega⟩;obtain⟨c,hc⟩:∃c:Nat,(L.tsk i).cpu=(c:Int):=⟨(L.tsk i).cpu.toNat,by have:=hT.c0;omega⟩;have hg1:g<L.sl.length:=by have:=hT.g1;omega
 have hc1:c<n:=by have:=hT.c1;omega
 have hrow:=hS.rows g hg1;have hTe:=hT.e;simp only[qI,dTt]at hTe;have hsa:=hS.sp g c hg1 hc1;have hmv:=aAP (s:=⟨(L.tsk i).v,(L.tsk i).r,0⟩) ⟨hT.e,hT.v0,hT.v1,hT.r0,bY _,by show(0:Int)<=18446744073709551615;omega⟩ hsa.2.2.2.2.1 hsa.2.2.2.2.2 hS.cr0;obtain⟨z,ez⟩:=xE (vP (L.tsk i).v (L.tsk i).r (L.sp g c).floor L.credit);simp only[aJR]at hmv;rw[<-ez]at hmv;obtain⟨T1,eT⟩:=xE (((L.tsk i).run z.1 z.2 (L.tsk i).weight).rdy);have hL1:Rt0 (L.setT i T1) n:=by rw[eT];exact hS.setT hi ⟨hT.id1,hT.id2,hT.g0,hT.g1,hT.c0,hT.c1,hmv.1,hmv.2.1,hmv.2.2.1,hmv.2.2.2.1,hT.m0,hT.m1,hT.m2,hT.m3⟩ rfl (λ d hd _ _ h4=>⟨rfl,h4⟩)
 obtain⟨E,eE⟩:=xE (uM L L.sl.length g c);have hE1:∀x,x∈E->0<x/\x<L.sl.length:=by rw[eE];exact AW hS hg1
 have hE2:E.length<=g:=by rw[eE];exact AX hS hg1
 have hemp:=empty L n c g hS hc1 hg1 E eE m tk (k+1) hm oO (Γ:=Γ);have hwk:=hL1.wake hc1 (l:=E) hE1;have hset:∀x,((pB L).set i x)[i]? =aA x:=λ x=>cE (by rw[uX];exact hi);refine⟨pA (L.setT i T1) c E,0,0,tk,k,hwk.1,⟨Fwd.setT.trans hwk.2.1 (dE (by rw[hwk.2.2])),dE rfl⟩,hm,⟨hk,dE rfl⟩,aJ _,?_⟩;have hLs:(pA (L.setT i T1) c E).sl.length=L.sl.length:=hwk.2.1.ns;have hwc:=wake (L.setT i T1) n c hL1 hc1 E hE1 oO m tk (k+1) (k+3) hm oO oO (Γ:=Γ);have hT1:tkc T1=[aD (aE aH (L.tsk i).id),aD (aE aH (g:Int)),aD (aE aH (L.tsk i).weight),aD (aE aH (c:Int)),aD (aE aI (L.tsk i).mask),aD (bC aB),aD (aE aI z.1),aD (aE aT z.2)]:=by rw[eT,<-hgr,<-hc];rfl
 obtain⟨RH,eRH⟩:=xE (MH m tk (pA (L.setT i T1) c E):aS);obtain⟨RV,eRV⟩:=xE (kM (0) 0:AVal);refine uG (k:=k) eRV eRH rfl (fX oO oO) (bR Tryz.func89 rfl 103 rfl bB ?_);simp only[MH,LH];have kp:=NU k;refine fW ?_;refine sJ [.ret aB] ?_;refine fC λ ht=>?_;refine mS [.far (aD (aE aH (i:Int))) (k+1) [(k,⟨8,aB,[gS o]⟩)] (MH m tk L) (MH m tk L)] ?_;refine kS (zs ?_) (zs ?_) (zs ?_);.intro q;simp only[MH,LH,fS,gS,bA,aZ]
 .exact hY rfl
 simp only[MH,LH];refine fM ?_;have kp:Kp [0,1,3,4,5,6,7,8,9,14,19,22] (λ i=>if k<=i then i-k+1 else 0):=oR;have uU:=pJ hgr hc hrow hrd;refine uV ?_;refine kB (gB λ ht ht=>aNY rfl [0,1,3,4,5,6,7,8,9,14,19,22] [.far (dI (k+1) (gR E)) (k+2) [(k,⟨8,aB,[gS o]⟩)] (MH m tk L) (cM (k+1) 1 (gR E) (MH m tk L))] kRf rfl (λ K hK=>?_));simp-dsimp-implicitDefEqProofs (disch:=omega)only[go_sem,iO,hgr,hc,hrow,hrd,↓reduceIte];(repeat'(first|(refine And.intro ?_ ?_)|(refine lR (λ hb=>?_) (λ hb=>?_)<;>(have hg:=hb;(try simp only[nfb]at hg);simp-dsimp-implicitDefEqProofs (disch:=omega)only[go_sem,iO,hgr,hc,hrow,hrd,hb,hg,↓reduceIte];clear hb;(try simp only[nfe]at hg)))));(all_goals(try omega));.intro q;simp only[MH,LH,fS,gS,bA,aZ]
 .exact SC (by simp only[AM.look];rw[iN oO]) (mQ (λ i hi=>by simp only[AM.look];rw[iN oO]) rfl)
 refine hK _ _ _ _ (aYF (by simp only[bN,bV,shC,aAE,bVI,List.isEmpty_map,a1E,DK,MN];rfl) (by decide+kernel) (by simp only[gI,BK,iE,lZ];exact GL (by rw[ON (by simp only[kC,dTt];omega)];exact fX oO oO) (fX oO oO))) (λ hx=>?_)
 clear hx hK;refine fM ?_;simp only[MH,LH];refine fM ?_;refine fW ?_;refine RD [.ret (enc (L.tsk i).v (L.tsk i).r (L.tsk i).weight),.ret (.tup [enc z.1 z.2 (L.tsk i).weight,(0:Int)])] ?_;refine kS (zs ?_) (zs ?_) (zs ?_);.exact qZ _ _ _ oO oO
 .rw[ez];exact aUM _ _ _ _ _ hT.e hsa.2.2.2.2.1 hsa.2.2.2.2.2 hS.cr0
 refine fW ?_;refine mS [.gen (.tup []) (k+3) [(tk,⟨8,aB,pB L⟩)] [(tk,⟨8,aB,(pB L).set i (tkc ((L.tsk i).run z.1 z.2 (L.tsk i).weight))⟩)]] ?_;refine iA ?_ ?_;.exact aPW (L.tsk i) z.1 z.2 (L.tsk i).weight (pB L) tk i (xN hi) oO oO (k+3) oO
 have uU:=yI hgr hc hrow hrd hset @ssN @Tk.run.eq_1;refine fW ?_;refine mS [.far (.tup []) (k+3) [(k+2,⟨3,aB,[[aD (aE aI z.1),aD (aE aT z.2),aD (aE aT (L.tsk i).weight)]]⟩),(k,⟨8,aB,[gS o]⟩)] (cM (k+1) 1 (gR E) (MH m tk (L.setT i T1))) (cM (k+1) 1 (gR E) (MH m tk (pA (L.setT i T1) c E)))] ?_;refine zq5 (zs ?_) (zs ?_) (zs ?_) (zs ?_) (zs ?_);.exact JD (by rw[xC];trivial)
 .exact FB JL
 .intro q;rw[FD,hT1];exact aUS oO oO oO oO q
 .exact FA (by simp only[AM.look];repeat rw[iN oO]) (mQ (λ q hq=>by have hLr:(L.setT i T1).sl.length=L.sl.length:=rfl;simp only[AM.look];repeat rw[iN oO]) (by rw[hLs];rfl))
 refine fW ?_;have uU:=yI hgr hc hrow hrd hset @ssN @Tk.run.eq_1;refine kX ?_;refine⟨?_,?_⟩;.rw[eRV];rfl
 rw[eRH];simp only[MH,LH];exact mX iV
def nI(f:Nat->Bool):Nat->Bool
 |0=>aF
 |n+1=>nI f n||f n
def WK{f:Nat->Bool}{i:Nat}(h:f i=aB):∀ {n:Nat},i<n->nI f n=aB
 |0,hn=>absurd hn oO
 |n+1,hn=>by
  simp only[nI,gQ];by_cases he:i=n;.subst he;exact dP h
  exact dE (WK h oO)
def anyB_iff{f:Nat->Bool}:∀ {n:Nat},nI f n=aB↔∃i,i<n/\f i=aB
 |0=>by simp[nI]
 |n+1=>by
  simp only[nI,gQ,anyB_iff];constructor
  .rintro(⟨i,h1,h2⟩|h);.exact⟨i,oO,h2⟩
   exact⟨n,oO,h⟩
  rintro⟨i,h1,h2⟩;by_cases he:i=n;.subst he;exact dP h2
  exact dE ⟨i,oO,h2⟩
def mU(s:St)(id c:Int)(i:Nat):Bool:=decide ((s.tsk i).id=id)&&((s.tsk i).ready&&decide ((s.tsk i).cpu=c))
def aIY(m:Int)(c:Nat):Bool:=decide (m/2^c%2=1)
def St.cfg (s:St):List AVal:=[aD (aE aH s.cpus),aD (aE aI s.credit),.rd 2 s.ng (gf s)]
attribute [go_sem] St.cfg
structure St.Small (s:St):Prop where
 ng:s.ng<=1000
 nk:s.nk<=1000
 nu:s.nu<=1000
 nt:s.nt<=1000
 ns:s.ns<=1000
 nsp:∀g,g<s.ns->s.nsp g<=1000
def SW(par:Nat->Int):Nat->Nat->Nat->Nat
 |0,_,n=>n
 |f+1,g,n=>if g=0 then n else if par g<0\/(g:Int)<=par g then 5 else SW par f (par g).toNat (n+1)
def okW(s:St)(g:Nat):Bool:=decide (1<=s.wt g/\s.wt g<=65536)
def okR(s:St)(g:Nat):Bool:=okW s g&&decide (SW s.par 5 g 0<=4)
def fb(ok:Nat->Bool):Nat->Option Nat
 |0=>aC
 | n+1=>match fb ok n with
   |some g=>aA g
   |none=>if n=0\/ok n=aB then aC else aA n
def OD{ok:Nat->Bool}:∀ {n:Nat},(∀g,1<=g->g<n->ok g=aB)->fb ok n=aC
 |0,_=>rfl
 |n+1,h=>by
  rw[fb,OD (λ g h1 h2=>h g h1 oO)];by_cases hn:n=0;.simp[hn]
  simp[h n oO oO]
def fb_none_iff{ok:Nat->Bool}:∀ {n:Nat},fb ok n=aC↔∀g,1<=g->g<n->ok g=aB
 |0=>⟨λ _ g _ hg=>oO,λ _=>rfl⟩
 |n+1=>by
  refine⟨λ h g h1 h2=>?_,OD⟩;rw[fb]at h
  cases hf:fb ok n with
  |some x=>rw[hf]at h;cases h
  |none=>
   rw[hf]at h;by_cases he:g=n
   .subst he;simp only at h;split at h
    .rename_i hc;rcases hc with hc|hc;.omega
     exact hc
    cases h
   exact fb_none_iff.1 hf g h1 oO
def aMU{ok:Nat->Bool}{g:Nat}(h1:1<=g)(hall:∀j,1<=j->j<g->ok j=aB)(hbad:ok g=aF):∀ {n:Nat},g<n->fb ok n=aA g
 |0,h=>oO
 |n+1,h=>by
  rw[fb];by_cases he:g=n;.subst he;rw[OD hall];simp[hbad];omega
  rw[aMU h1 hall hbad oO]
def jQ(s:St):Bool:=decide (1<=s.cpus/\s.cpus<=64/\s.credit<=1099511627776/\1<=s.ng/\s.ng<=256/\s.par 0=0/\s.wt 0=1)&&(fb (okR s) s.ng).isNone
def a1S(w:Int):Pure aG Γ 271 [w] (decide (1<=w/\w<=65536)):=by refine cA Tryz.func271 rfl 9 rfl bB rfl λ k=>?_;have kp:=kN k [0,2];refine wl ?_;refine WS (gZ λ hg=>?_) (gZ λ hg=>?_);all_goals(refine cB rfl ⟨_,rfl,bG ?_⟩;(simp only[aD.injEq,bC.injEq];exact bQ))
def uJ(par:Nat->Int):Nat->Nat->Nat
 |0,_=>0
 |f+1,g=>if g=0 then 0 else uJ par f (par g).toNat+1
def JP(Γ:dW):Prop:=∀(s:St) (n g:Nat),g<n->n<=1000->(∀j,1<=j->j<=g->0<=s.par j/\s.par j<j)→
 Pure aG Γ 272 [.rd 2 n (gf s),g] (uJ s.par g g:Nat)
def okP(s:St)(g:Nat):Bool:=decide (0<=s.par g/\s.par g<g)
def okG(s:St)(g:Nat):Bool:=okP s g&&(okW s g&&decide (uJ s.par g g<=4))
def ZL(s:St)(g:Nat):Int:=if okP s g=aF then 191 else if okW s g=aF then 192 else 193
def chk(s:St):Int×Int:=
 if 256<s.ng then(-1,5)else if s.ng=0\/¬(s.par 0=0/\s.wt 0=1)then(0,190)else match fb (okG s) s.ng with
  |none=>(-1,0)
  |some g=>(g,ZL s g)
def aHG(hD:JP Γ)(s:St):Pure aG Γ 226 [.rd 2 s.ng (gf s)] (.tup [aD (aE aH (chk s).1),aD (aE aH (chk s).2)]):=by
 refine cA Tryz.func226 rfl 58 rfl bB rfl λ k=>?_;have kp:=kN k [0,2,3,4,5,9,23,26,43,52];refine wl ?_;refine FN (rX λ ht=>?_) (qS λ ht ht hg=>?_) (qS λ ht ht hg=>?_) (qS λ ht ht hg=>?_);.refine cB rfl ⟨_,rfl,bG ?_⟩;rw[show chk s=(-1,5)from by rw[chk,iP oO]]
 .refine cB rfl ⟨_,rfl,bG ?_⟩;rw[show chk s=(0,190)from by rw[chk,iN oO,iP (dP (by simpa using ht))]]
 .have hroot:s.par 0=0/\s.wt 0=1:=by simpa using ht
  have hchk:chk s=match fb (okG s) s.ng with|none=>(-1,0)|some g=>((g:Int),ZL s g):=by
   rw[chk,iN oO,iN (by rintro(h|h);· omega
                       · exact h hroot)]
  refine cD (X:=Nat) rfl [0,2,3,4,5,9,23,26,43,52] k (λ i=>[(4,i)]) (λ i=>[]) (λ i=>1<=i/\i<=s.ng/\∀g,1<=g->g<i->okG s g=aB) (λ i=>s.ng-i) 1 ?_ ⟨oO,oO,λ g h1 h2=>oO⟩ ?_;.refine gG ?_;exact sB
  rintro i ⟨hi1,hi,hall⟩;refine gG ?_;have hok:okG s i=(okP s i&&(okW s i&&decide (uJ s.par i i<=4))):=rfl;have hbad:i<s.ng->okG s i=aF->chk s=((i:Int),ZL s i):=λ h1 h2=>by rw[hchk,aMU hi1 hall h2 h1]
  refine wl ?_;refine FN (qS λ ht ht hg=>?_) (qS λ ht ht hg=>?_) (qS λ ht ht hg=>?_) (rX λ ht=>?_);.refine cB rfl ⟨_,rfl,bG ?_⟩;have hp:okP s i=aF:=decide_eq_false oO;rw[hbad oO (by rw[hok,hp];rfl),ZL,iP hp]
  .have hp:okP s i=aB:=decide_eq_true oO;refine cl [.ret (okW s i)] ?_;refine iA ?_ ?_;.exact a1S (s.wt i)
   refine wl ?_;refine pN (λ ht=>?_) λ ht=>?_;.refine cB rfl ⟨_,rfl,bG ?_⟩;rw[hbad oO (by rw[hok,ht,hp];rfl),ZL,iN (by rw[hp];simp),iP ht]
   refine cl [.ret (uJ s.par i i:Nat)] ?_;refine iA ?_ ?_
   .refine hD s s.ng i oO oO (λ j h1 h2=>?_);by_cases he:j=i;.subst he;omega
    have:=hall j h1 oO;simp only[okG,okP,aO,dTt]at this;exact this.1
   have hw:=ht;refine wl ?_;refine pN (λ ht=>?_) λ ht=>?_;.refine cB rfl ⟨_,rfl,bG ?_⟩;rw[hbad oO (by rw[hok,hp,hw,decide_eq_false oO];rfl),ZL,iN (by rw[hp];simp),iN (by rw[hw];simp)]
   refine⟨i+1,⟨oO,oO,λ g h1 h2=>?_⟩,oO,?_⟩
   .by_cases he:g=i;.subst he;rw[hok,hp,hw,decide_eq_true oO];rfl
    exact hall g h1 oO
   refine gG ?_;exact sB
  .refine cB rfl ⟨_,rfl,bG ?_⟩;have hp:okP s i=aF:=decide_eq_false oO;rw[hbad oO (by rw[hok,hp];rfl),ZL,iP hp]
  refine cB rfl ⟨_,rfl,bG ?_⟩;rw[hchk,OD (λ g h1 h2=>hall g h1 oO)]
 refine cB rfl ⟨_,rfl,bG ?_⟩;rw[show chk s=(0,190)from by rw[chk,iN oO,iP (dE oO)]]
def aHF(hD:JP Γ)(s:St):Pure aG Γ 156 [.rd 2 s.ng (gf s)] ((chk s).2==0):=by
 refine cA Tryz.func156 rfl 12 rfl bB rfl λ k=>?_;have kp:=kN k [0,2,4];refine jI ?_;refine cl [.ret (.tup [aD (aE aH (chk s).1),aD (aE aH (chk s).2)])] ?_;refine iA ?_ ?_;.exact aHG hD s
 refine jI ?_;refine cB rfl ⟨_,rfl,bG ?_⟩;rfl
def nU(s:St):Bool:=decide (1<=s.cpus/\s.cpus<=64/\s.credit<=1099511627776)&&((chk s).2==0)
def xS(hD:JP Γ)(s:St):Pure aG Γ 86 [.agg s.cfg] (nU s):=by
 refine cA Tryz.func86 rfl 21 rfl bB rfl λ k=>?_;have kp:=kN k [0,1,2];refine jI ?_;refine cl [.ret ((chk s).2==0)] ?_;refine zq5 (MO λ hg hg hg=>?_) (MO λ hg hg hg=>?_) (MO λ hg hg hg=>?_) (yB λ hg hg=>?_) (gZ λ hg=>?_);.exact aHF hD s
 all_goals(refine cB rfl ⟨_,rfl,bG ?_⟩)
 all_goals(first|(rw[nU,decide_eq_true oO,lZ];done)|(rw[nU,decide_eq_false oO,MM];done)|(rw[nU,decide_eq_false oO,decide_eq_false oO,MM];done)|trace_state)
def nX(F:Nat)(s:St)(l:List Flt):List AVal:=[aD (aE aH s.cpus),aD (aE aI s.credit),.rd 2 s.ng (gf s),.rd 1 s.nk (kf s),.rd 1 s.nu (uf s),.rd 8 s.nt (tf s),.rd 1 s.ns (ssf s),dI F (l.map Flt.row)]
def LK(L F:Nat)(s:St)(l:List Flt):aS:=(L,⟨8,aF,[nX F s l]⟩)::cM F 3 (l.map Flt.row) []
attribute [go_sem] nX LK
def jC(b:Bool)(f:Flt):List Flt:=if b=aB then [f]else []
def bGC(k L F:Nat)(s:St)(l:List Flt)(is:Bool)(r a b:Int)(hL:L<k)(hF:F<k)(hne:L≠F)(hl:l.length<=100000):
 Tr aG Γ 116 k [.ptr L 0 0,is,aD (aE bM r),a,b] (LK L F s l) (λ k1 r1 H1=>k1=k+1/\r1= .tup []/\H1=LK L k s (l++jC is ⟨r,a,b⟩)):=by
 obtain⟨a1,a2,a3,a4,a5,a6⟩:=dB hL;obtain⟨b1,b2,b3,b4,b5,b6⟩:=dB hF;obtain⟨c1,c2⟩:=jG hne;refine bR Tryz.func116 rfl 24 rfl bB (pW ?_);have kp:=kN k [0,1,2,3,4,10];have uU:=fB a1 a2 a3 a4 a5 a6 b1 b2 (rY b3 @b4 @b5 @b6 c1 c2);refine wl ?_;refine pN (λ ht=>?_) λ ht=>?_;.subst ht;refine⟨k+1,[],LK L k s (l++[⟨r,a,b⟩]),?_,_,rfl,rfl,rfl,by simp[jC,LK,nX]⟩;exact FI (k+1) k (wV (fB (@a1) (@a2) (@a3) (@a4) (@a5) (@a6) (@b1) (@b2) (rY (@b3) (@b4) (@b5) (@b6) (@c1) (@c2))))
 subst ht;refine⟨k+1,[],LK L k s (l++[]),?_,_,rfl,rfl,rfl,by simp[jC,LK,nX]⟩;rw[cX];exact Mv.trans (vG (F) oO) (nC (wV (fB (@a1) (@a2) (@a3) (@a4) (@a5) (@a6) (@b1) (@b2) (rY (@b3) (@b4) (@b5) (@b6) (@c1) (@c2)))))
def nH(k L F:Nat)(s:St)(l l':List Flt)(is is':Bool)(r a b:Int)(hb:is=is')(hl':l'=l++jC is' ⟨r,a,b⟩)(hL:L<k)(hF:F<k)(hne:L≠F)(hl:l.length<=100000):
 Tr aG Γ 116 k [.ptr L 0 0,is,aD (aE bM r),a,b] (LK L F s l) (λ k1 r1 H1=>k1=k+1/\r1= .tup []/\H1=LK L k s l'):=by subst hb hl';exact bGC k L F s l is r a b hL hF hne hl
def a1J(Γ:dW)(f:Nat)(s:St)(G:List Flt):Prop:=
 ∀(k L F:Nat) (l:List Flt),L<k->F<k->L≠F->l.length<=10000->Tr aG Γ f k [.ptr L 0 0] (LK L F s l) (λ k1 r1 H1=>k1=k+1/\r1= .tup []/\H1=LK L k s (l++G))
def kA(l:List Flt)(b:Bool)(f:Flt):(l++jC b f).length<=l.length+1:=by unfold jC;split<;>simp
def qU(s:St):List Flt:=jC ((s.nk:Int)!=s.cpus) ⟨2,0,0⟩++(jC ((s.nu:Int)!=s.cpus) ⟨2,1,0⟩++(jC ((s.ns:Int)!=s.ng) ⟨2,2,0⟩++(if s.ns=s.ng then cI (mH s) s.ns else [])))
def shape(s:St)(hs:s.Small):a1J Γ 190 s (qU s):=by
 obtain⟨hng,hnk,hnu,hnt,hns,hnsp⟩:=id hs;intro k L F l hL hF hne hl;obtain⟨a1,a2,a3,a4,a5,a6⟩:=dB hL;obtain⟨b1,b2,b3,b4,b5,b6⟩:=dB hF;obtain⟨c1,c2⟩:=jG hne;refine bR Tryz.func190 rfl 64 rfl bB (pW ?_);have kp:Kp [0,2,3,4,5,47,49,50,51,52] (λ i=>if i=L then 0 else i-k+1):=oR;have uU:=fB a1 a2 a3 a4 a5 a6 b1 b2 (rY b3 @b4 @b5 @b6 c1 c2);refine jI ?_;obtain⟨l1,e_l1,h_l1⟩:∃x,x=l++jC ((s.nk:Int)!=s.cpus) ⟨2,0,0⟩/\x.length<=(l).length+1:=⟨_,rfl,kA _ _ _⟩;refine cl [.gen (.tup []) (k+2) (LK (L) (F) s (l)) (LK (L) (k+1) s (l1))] ?_;refine iA ?_ ?_;.exact nH (k+1) (L) (F) s (l) (l1) _ ((s.nk:Int)!=s.cpus) _ _ _ (by first|rfl|(exact bQ)|(simp[hg];done)|(simp[hg,hq];done)|(simp_all;done)|(simp_all;omega)) e_l1 oO oO oO oO
 refine jI ?_;obtain⟨l2,e_l2,h_l2⟩:∃x,x=l1++jC ((s.nu:Int)!=s.cpus) ⟨2,1,0⟩/\x.length<=(l1).length+1:=⟨_,rfl,kA _ _ _⟩;refine cl [.gen (.tup []) (k+3) (LK (L) (k+1) s (l1)) (LK (L) (k+2) s (l2))] ?_;refine iA ?_ ?_;.exact nH (k+2) (L) (k+1) s (l1) (l2) _ ((s.nu:Int)!=s.cpus) _ _ _ (by first|rfl|(exact bQ)|(simp[hg];done)|(simp[hg,hq];done)|(simp_all;done)|(simp_all;omega)) e_l2 oO oO oO oO
 refine jI ?_;obtain⟨l3,e_l3,h_l3⟩:∃x,x=l2++jC ((s.ns:Int)!=s.ng) ⟨2,2,0⟩/\x.length<=(l2).length+1:=⟨_,rfl,kA _ _ _⟩;refine cl [.gen (.tup []) (k+4) (LK (L) (k+2) s (l2)) (LK (L) (k+3) s (l3))] ?_;refine iA ?_ ?_;.exact nH (k+3) (L) (k+2) s (l2) (l3) _ ((s.ns:Int)!=s.ng) _ _ _ (by first|rfl|(exact bQ)|(simp[hg];done)|(simp[hg,hq];done)|(simp_all;done)|(simp_all;omega)) e_l3 oO oO oO oO
 have e3:l3=l++(jC ((s.nk:Int)!=s.cpus) ⟨2,0,0⟩++(jC ((s.nu:Int)!=s.cpus) ⟨2,1,0⟩++jC ((s.ns:Int)!=s.ng) ⟨2,2,0⟩)):=by rw[e_l3,e_l2,e_l1];simp
 clear e_l3 e_l2 e_l1;refine wl ?_;refine pN (λ ht=>?_) λ ht=>?_
 .refine cD (X:=Nat) rfl [0,2,3,4,5,47,49,50,51,52] (k+4) (λ i=>[(51,i)]) (λ i=>(L,⟨8,aF,[nX (k+3) s (l3++cI (mH s) i)]⟩)::cM (k+3) 3 ((l3++cI (mH s) i).map Flt.row) [(k,⟨7,aB,[s.cells]⟩)]) (λ i=>i<=s.ns) (λ i=>s.ns-i) 0 ?_ (bF _) ?_;.rw[lC,cX];refine gG ?_;(have uU:=fB a1 a2 a3 a4 a5 a6 b1 b2 (rY b3 @b4 @b5 @b6 c1 c2);exact pK)
  intro i hi;have hfl:=fK (LL s) i;obtain⟨l4,e4,h4⟩:∃x,x=l3++cI (mH s) i/\x.length<=l3.length+i:=⟨_,rfl,by simp;omega⟩;rw[<-e4];refine gG ?_;refine wl ?_;refine pN (λ ht=>?_) λ ht=>?_
  .obtain⟨l5,e_l5,h_l5⟩:∃x,x=l4++jC (((s.nsp i:Nat):Int)!=s.cpus) ⟨2,3,(i:Int)⟩/\x.length<=(l4).length+1:=⟨_,rfl,kA _ _ _⟩;refine cl [.gen (.tup []) (k+5) (LK (L) (k+3) s (l4)) (LK (L) (k+4) s (l5))] ?_;refine iA ?_ ?_;.exact nH (k+4) (L) (k+3) s (l4) (l5) _ (((s.nsp i:Nat):Int)!=s.cpus) _ _ _ (by first|rfl|(exact bQ)|(simp[hg];done)|(simp[hg,hq];done)|(simp_all;done)|(simp_all;omega)) e_l5 oO oO oO oO
   refine jI ?_;refine⟨i+1,oO,oO,?_⟩;rw[show l3++cI (mH s) (i+1)=l5 by rw[gC,<-dA,<-e4,e_l5,mH,jC];congr 1;by_cases hc:((s.nsp i:Nat):Int)=s.cpus<;>simp[hc]]
   refine gG ?_;exact FI (k+4) (k+3) (wV (fB (@a1) (@a2) (@a3) (@a4) (@a5) (@a6) (@b1) (@b2) (rY (@b3) (@b4) (@b5) (@b6) (@c1) (@c2))))
  have hi':i=s.ns:=oO;have he:l4=l++qU s:=by rw[e4,e3,qU,iP oO,hi'];simp
  refine⟨k+1,[],LK L k s l4,?_,_,rfl,rfl,rfl,by rw[he];rfl⟩;exact FI (k+3) k (wV (fB (@a1) (@a2) (@a3) (@a4) (@a5) (@a6) (@b1) (@b2) (rY (@b3) (@b4) (@b5) (@b6) (@c1) (@c2))))
 have he:l3=l++qU s:=by rw[e3,qU,iN oO];simp
 refine⟨k+1,[],LK L k s l3,?_,_,rfl,rfl,rfl,by rw[he];rfl⟩;exact FI (k+3) k (wV (fB (@a1) (@a2) (@a3) (@a4) (@a5) (@a6) (@b1) (@b2) (rY (@b3) (@b4) (@b5) (@b6) (@c1) (@c2))))
def bOJ(s:St)(i:Nat)(now c:Int):Pure aG Γ 244 [.agg (tf s i),.rp [now],.rp [c]] (mU s now c i):=by
 refine cA Tryz.func244 rfl 19 rfl bB rfl λ k=>?_;have kp:=kN k [0,1,2,3,4];refine wl ?_;refine kS (yB λ hg hg=>?_) (yB λ hg hg=>?_) (gZ λ hg=>?_);all_goals(refine cB rfl ⟨_,rfl,bG ?_⟩)
 all_goals(congr 2;rw[eY];simp_all [mU])
def f0(f:Nat->Bool):Nat->Option Nat
 |0=>aC
 | n+1=>match f0 f n with
   |some i=>aA i
   |none=>if f n=aB then aA n else aC
def xZ{f:Nat->Bool}:∀ {n:Nat},(∀i,i<n->f i=aF)->f0 f n=aC
 |0,_=>rfl
 |n+1,h=>by rw[f0,xZ (λ i hi=>h i oO)];simp[h n oO]
def AT{f:Nat->Bool}{i:Nat}(hall:∀j,j<i->f j=aF)(hi:f i=aB):∀ {n:Nat},i<n->f0 f n=aA i
 |0,h=>oO
 |n+1,h=>by
  rw[f0];by_cases he:i=n;.subst he;rw[xZ hall];simp[hi]
  rw[AT hall hi oO]
def idx(f:Nat->Bool)(n:Nat):Int:=match f0 f n with|some i=>(i:Int)|none=> -1
def OA(f:Nat->Bool)(n:Nat):decide (0<=idx f n)=nI f n:=by
 have key:∀n,(f0 f n).isSome=nI f n:=by
  intro n
  induction n with
  |zero=>rfl
  |succ n ih=>
   rw[nI,<-ih,f0]
   cases f0 f n with
   |some i=>rfl
   |none=>cases f n<;>rfl
 rw[<-key,idx];cases f0 f n<;>simp
def aQI(s:St)(n:Nat)(now c:Int)(hn:n<=1000):Pure aG Γ 125 [.rd 8 n (tf s),.fn 244 [.rp [now],.rp [c]]] (idx (mU s now c) n):=by
 refine cA Tryz.func125 rfl 19 rfl bB rfl λ k=>?_;have kp:=kN k [0,1,4,5,7,8,9,16];refine jI ?_;refine cD (X:=Nat) rfl [0,1,4,5,7,8,9,16] k (λ i=>[(8,i)]) (λ i=>[]) (λ i=>i<=n/\∀j,j<i->mU s now c j=aF) (λ i=>n-i) 0 ?_ ⟨bF _,λ j hj=>absurd hj (bU _)⟩ ?_;.refine gG ?_;exact sB
 rintro i ⟨hi,hall⟩;refine gG ?_;refine wl ?_;refine pN (λ ht=>?_) λ ht=>?_
 .refine cl [.ret (mU s now c i)] ?_;refine iA ?_ ?_;.exact bOJ s i now c
  refine wl ?_;refine pN (λ ht=>?_) λ ht=>?_;.refine cB rfl ⟨_,rfl,bG ?_⟩;rw[idx,AT hall ht oO]
  refine⟨i+1,⟨oO,λ j hj=>?_⟩,oO,?_⟩
  .by_cases he:j=i;.subst he;exact ht
   exact hall j oO
  refine gG ?_;exact sB
 refine cB rfl ⟨_,rfl,bG ?_⟩;rw[idx,xZ (λ j hj=>hall j oO)]
def ZI(s:St)(n:Nat)(now c:Int)(hn:n<=1000):Pure aG Γ 66 [.rd 8 n (tf s),.fn 244 [.rp [now],.rp [c]]] (nI (mU s now c) n):=by
 refine cA Tryz.func66 rfl 9 rfl bB rfl λ k=>?_;have kp:=kN k [0,1,4];refine jI ?_;refine cl [.ret (idx (mU s now c) n)] ?_;refine iA ?_ ?_;.exact aQI s n now c hn
 refine cB rfl ⟨_,rfl,bG ?_⟩;rw[OA]
def qD(s:St)(c:Nat):List Flt:=jC (decide (s.clk c<0\/281474976710656<s.clk c)) ⟨3,(c:Int),0⟩
def jA(b:Bool)(f:Flt):(jC b f).length<=1:=by unfold jC;split<;>simp
def BW(s:St)(c:Nat):List Flt:=jC (decide (s.cur c≠0)&& !(nI (mU s (s.cur c) c) s.nt)) ⟨13,(c:Int),0⟩
def vE(s:St):List Flt:=cI (qD s) s.nk++cI (BW s) s.nu
def bCS(s:St)(hs:s.Small):a1J Γ 191 s (vE s):=by
 obtain⟨hng,hnk,hnu,hnt,hns,hnsp⟩:=id hs;intro k L F l hL hF hne hl;obtain⟨a1,a2,a3,a4,a5,a6⟩:=dB hL;obtain⟨b1,b2,b3,b4,b5,b6⟩:=dB hF;obtain⟨c1,c2⟩:=jG hne;refine bR Tryz.func191 rfl 56 rfl bB (pW (gW (vG F oO) ?_));have uU:=fB a1 a2 a3 a4 a5 a6 b1 b2 (rY b3 @b4 @b5 @b6 c1 c2);refine gG ?_;refine iG rfl (iG rfl ?_);have kp:Kp [0,2,3,4,5,6,11,12,13,14,32,33,34,35] (λ i=>if i=L then 0 else i-k+1):=oR;refine jI ?_;refine cD (X:=Nat) rfl [0,2,3,4,5,6,11,12,13,14,32,33,34,35] (k+1) (λ i=>[(13,i)]) (λ i=>LK L k s (l++cI (qD s) i)) (λ i=>i<=s.nk) (λ i=>s.nk-i) 0 ?_ (bF _) ?_;.rw[lC,cX];refine gG ?_;(have uU:=fB a1 a2 a3 a4 a5 a6 b1 b2 (rY b3 @b4 @b5 @b6 c1 c2);exact pK)
 intro i hi;have hfl:=fK (λ c=>jA _ _) (f:=qD s) i;obtain⟨l4,e4,h4⟩:∃x,x=l++cI (qD s) i/\x.length<=l.length+i:=⟨_,rfl,by simp;omega⟩;rw[<-e4];refine gG ?_;refine wl ?_;refine pN (λ ht=>?_) λ ht=>?_
 .obtain⟨l5,e_l5,h_l5⟩:∃x,x=l4++jC (decide (s.clk i<0\/281474976710656<s.clk i)) ⟨3,(i:Int),0⟩/\x.length<=(l4).length+1:=⟨_,rfl,kA _ _ _⟩;refine lO [0,2,3,4,5,6,11,12,13,14,32,33,34,35] (k+2) [] ((L,⟨8,aF,[nX (k+1) s (l5)]⟩)::cM (k+1) 3 ((l5).map Flt.row) []) ?_ ?_;.refine cl [.gen (.tup []) (k+2) (LK (L) (k) s (l4)) (LK (L) (k+1) s (l5))] ?_;refine FN (gZ λ hg=>?_) (gZ λ hg=>?_) (gZ λ hg=>?_) (gZ λ hg=>?_);all_goals(first|(exact nH (k+1) (L) (k) s (l4) (l5) _ (decide (s.clk i<0\/281474976710656<s.clk i)) _ _ _ (by first|rfl|(exact bQ)|(simp[hg];done)|(simp[hg,hq];done)|(simp_all;done)|(simp_all;omega)) e_l5 oO oO oO oO)|((have uU:=fB a1 a2 a3 a4 a5 a6 b1 b2 (rY b3 @b4 @b5 @b6 c1 c2);exact pK)))
  refine gG ?_;refine jI ?_;refine⟨i+1,oO,oO,?_⟩;rw[show l++cI (qD s) (i+1)=l5 by rw[gC,<-dA,<-e4,e_l5];rfl];refine gG ?_;exact FI (k+1) k (wV (fB (@a1) (@a2) (@a3) (@a4) (@a5) (@a6) (@b1) (@b2) (rY (@b3) (@b4) (@b5) (@b6) (@c1) (@c2))))
 have hi':i=s.nk:=oO;subst hi';have h4':l4.length<=11000:=oO;refine cD (X:=Nat) rfl [0,2,3,4,5,6,11,12,13,14,32,33,34,35] (k+1) (λ i=>[(34,i)]) (λ i=>LK L k s (l4++cI (BW s) i)) (λ i=>i<=s.nu) (λ i=>s.nu-i) 0 ?_ (bF _) ?_;.rw[lC,cX];refine gG ?_;(have uU:=fB a1 a2 a3 a4 a5 a6 b1 b2 (rY b3 @b4 @b5 @b6 c1 c2);exact pK)
 intro i hi;have hfl:=fK (λ c=>jA _ _) (f:=BW s) i;obtain⟨l6,e6,h6⟩:∃x,x=l4++cI (BW s) i/\x.length<=l4.length+i:=⟨_,rfl,by simp;omega⟩;rw[<-e6];refine gG ?_;refine wl ?_;refine pN (λ ht=>?_) λ ht=>?_
 .refine gW (gT (k+1) (by simp-dsimp-implicitDefEqProofs only[go_sem,a1,a2,a3,a4,a5,a6,b1,b2,b3,b4,b5,b6,c1,c2,↓reduceIte];rfl) rfl) ?_;simp-dsimp-implicitDefEqProofs only[qO,jR,go_sem,a1,a2,a3,a4,a5,a6,b1,b2,b3,b4,b5,b6,c1,c2,eq_self,↓reduceIte];refine gW (gT (k+2) (by simp-dsimp-implicitDefEqProofs only[go_sem,a1,a2,a3,a4,a5,a6,b1,b2,b3,b4,b5,b6,c1,c2,↓reduceIte];rfl) rfl) ?_;simp-dsimp-implicitDefEqProofs only[qO,jR,go_sem,a1,a2,a3,a4,a5,a6,b1,b2,b3,b4,b5,b6,c1,c2,eq_self,↓reduceIte];obtain⟨l7,e_l7,h_l7⟩:∃x,x=l6++jC (decide (s.cur i≠0)&& !(nI (mU s (s.cur i) i) s.nt)) ⟨13,(i:Int),0⟩/\x.length<=(l6).length+1:=⟨_,rfl,kA _ _ _⟩;refine lO [0,2,3,4,5,6,11,12,13,14,32,33,34,35] (k+4) [] ((L,⟨8,aF,[nX (k+3) s (l7)]⟩)::cM (k+3) 3 ((l7).map Flt.row) []) ?_ ?_;.refine dl [.ret (nI (mU s (s.cur i) i) s.nt),.gen (.tup []) (k+4) (LK (L) (k) s (l6)) (LK (L) (k+3) s (l7))] ?_;refine zq5 (gZ λ hg=>?_) (gZ λ hg=>?_) (gZ λ hg=>?_) (gZ λ hg=>?_) (gZ λ hg=>?_);all_goals(first|(exact nH (k+3) (L) (k) s (l6) (l7) _ (decide (s.cur i≠0)&& !(nI (mU s (s.cur i) i) s.nt)) _ _ _ (by first|rfl|(exact bQ)|(simp[hg];done)|(simp[hg,hq];done)|(simp_all;done)|(simp_all;omega)) e_l7 oO oO oO oO)|(exact ZI s s.nt (s.cur i) i hnt)|((have uU:=fB a1 a2 a3 a4 a5 a6 b1 b2 (rY b3 @b4 @b5 @b6 c1 c2);exact pK)))
  refine gG ?_;refine jI ?_;refine⟨i+1,oO,oO,?_⟩;rw[show l4++cI (BW s) (i+1)=l7 by rw[gC,<-dA,<-e6,e_l7];rfl];refine gG ?_;exact FI (k+3) k (wV (fB (@a1) (@a2) (@a3) (@a4) (@a5) (@a6) (@b1) (@b2) (rY (@b3) (@b4) (@b5) (@b6) (@c1) (@c2))))
 have hi':i=s.nu:=oO;subst hi';have he:l6=l++vE s:=by rw[e6,e4,vE];simp
 refine⟨k+1,[],LK L k s l6,?_,_,rfl,rfl,rfl,by rw[he];rfl⟩;(have uU:=fB a1 a2 a3 a4 a5 a6 b1 b2 (rY b3 @b4 @b5 @b6 c1 c2);exact pK)
def onB(s:St)(i:Nat):Bool:=decide (0<=(s.tsk i).cpu/\(s.tsk i).cpu<s.cpus)
def aCF(x:Int):Int:=if 0>x then 0 else x
def shr(m c:Int):Int:=m.fdiv (2^min c.toNat 64)
def bDF(m:Int):Int:=aI.wrap (BitVec.ofInt aI.bits m&&&BitVec.ofInt aI.bits 1).toNat
def t4(s:St)(i:Nat):Bool:=decide (0<(i:Int))&&decide ((s.tsk i).id<=(s.tsk (i-1)).id)
def t5(s:St)(i:Nat):Bool:=decide ((s.tsk i).id<1\/65535<(s.tsk i).id)
def t6(s:St)(i:Nat):Bool:=decide ((s.tsk i).group<0\/(s.ng:Int)<=(s.tsk i).group)
def t7(s:St)(i:Nat):Bool:= !(onB s i)
def t8(s:St)(i:Nat):Bool:=decide (s.cpus<64)&&decide (0<shr (s.tsk i).mask s.cpus)
def t9(s:St)(i:Nat):Bool:=onB s i&&(bDF (shr (s.tsk i).mask (aCF (s.tsk i).cpu))==0)
def t10(s:St)(i:Nat):Bool:= !(qI (s.tsk i).v (s.tsk i).r (s.tsk i).weight)
def vS(s:St)(i:Nat):List Flt:=jC (t4 s i) ⟨4,(i:Int),0⟩++(jC (t5 s i) ⟨5,(i:Int),0⟩++(jC (t6 s i) ⟨6,(i:Int),0⟩++(jC (t7 s i) ⟨7,(i:Int),0⟩++(jC (t8 s i) ⟨8,(i:Int),0⟩++(jC (t9 s i) ⟨9,(i:Int),0⟩++jC (t10 s i) ⟨10,(i:Int),0⟩)))))
def OY(s:St)(i:Nat):(vS s i).length<=7:=by have h:=λ b f=>jA b f;simp only[vS,bT];have:=h (t4 s i) ⟨4,(i:Int),0⟩;have:=h (t5 s i) ⟨5,(i:Int),0⟩;have:=h (t6 s i) ⟨6,(i:Int),0⟩;have:=h (t7 s i) ⟨7,(i:Int),0⟩;have:=h (t8 s i) ⟨8,(i:Int),0⟩;have:=h (t9 s i) ⟨9,(i:Int),0⟩;have:=h (t10 s i) ⟨10,(i:Int),0⟩;omega
def AA(s:St):List Flt:=cI (vS s) s.nt
def bEZ(s:St)(hs:s.Small)(hc:0<=s.cpus):a1J Γ 192 s (AA s):=by
 obtain⟨hng,hnk,hnu,hnt,hns,hnsp⟩:=id hs;intro k L F l hL hF hne hl;obtain⟨a1,a2,a3,a4,a5,a6⟩:=dB hL;obtain⟨b1,b2,b3,b4,b5,b6⟩:=dB hF;obtain⟨c1,c2⟩:=jG hne;refine bR Tryz.func192 rfl 125 rfl bB (pW (gW (vG F oO) ?_));have uU:=fB a1 a2 a3 a4 a5 a6 b1 b2 (rY b3 @b4 @b5 @b6 c1 c2);refine gG ?_;have kp:Kp [0,2,3,4,5,16,17,18,19] (λ i=>if i=L then 0 else i-k+1):=oR;refine jI ?_;refine cD (X:=Nat) rfl [0,2,3,4,5,16,17,18,19] (k+1) (λ i=>[(18,i)]) (λ i=>LK L k s (l++cI (vS s) i)) (λ i=>i<=s.nt) (λ i=>s.nt-i) 0 ?_ (bF _) ?_;.rw[lC,cX];refine gG ?_;(have uU:=fB a1 a2 a3 a4 a5 a6 b1 b2 (rY b3 @b4 @b5 @b6 c1 c2);exact pK)
 intro i hi;have hfl:=fK (OY s) i;obtain⟨l0,e0,h0⟩:∃x,x=l++cI (vS s) i/\x.length<=l.length+i*7:=⟨_,rfl,by simp;omega⟩;rw[<-e0];refine gG ?_;refine wl ?_;refine kS (HA λ ht hg=>?_) (HA λ ht hg=>?_) (rX λ ht=>?_);rotate_right
 .have hi':i=s.nt:=oO;subst hi';refine⟨k+1,[],LK L k s l0,?_,_,rfl,rfl,rfl,by rw[e0];rfl⟩;(have uU:=fB a1 a2 a3 a4 a5 a6 b1 b2 (rY b3 @b4 @b5 @b6 c1 c2);exact pK)
 all_goals
  have hq:=hg
  have hw1:aH.wrap ((i:Int)-1)=(i:Int)-1:=wrap_i64 oO oO
  have hmx:(if(0:Int)>(i:Int)-1 then(0:Int)else(i:Int)-1)=((i-1:Nat):Int):=by split<;>omega
  obtain⟨l1,e_l1,h_l1⟩:∃x,x=l0++jC (decide (0<(i:Int))&&decide ((s.tsk i).id<=(s.tsk (i-1)).id)) ⟨4,(i:Int),0⟩/\x.length<=(l0).length+1:=⟨_,rfl,kA _ _ _⟩
  refine lO [0,2,3,4,5,16,17,18,19] (k+3) [] ((L,⟨8,aF,[nX (k+2) s (l1)]⟩)::cM (k+2) 3 ((l1).map Flt.row) [(k+1,⟨8,aB,[tf s i]⟩)]) ?_ ?_
  · have uU:=fB a1 a2 a3 a4 a5 a6 b1 b2 (xG b3 @b4 @b5 @b6 c1 c2 hw1 hmx)
    refine dl [.gen (.tup []) (k+3) (LK (L) (k) s (l0)) (LK (L) (k+2) s (l1))] ?_;refine FN (gZ λ hg=>?_) (gZ λ hg=>?_) (gZ λ hg=>?_) (gZ λ hg=>?_)
    all_goals(first|(exact nH (k+2) (L) (k) s (l0) (l1) _ (decide (0<(i:Int))&&decide ((s.tsk i).id<=(s.tsk (i-1)).id)) _ _ _ (by first|rfl|(exact bQ)|(simp[hg];done)|(simp[hg,hq];done)|(simp_all;done)|(simp_all;omega)) e_l1 oO oO oO oO)|((have uU:=fB a1 a2 a3 a4 a5 a6 b1 b2 (xG b3 @b4 @b5 @b6 c1 c2 hw1 hmx);exact pK)))
  have uU:=fB a1 a2 a3 a4 a5 a6 b1 b2 (xG b3 @b4 @b5 @b6 c1 c2 hw1 hmx)
  refine gG ?_
  have hcn:(s.cpus<0)=False:=by simp;omega
  have hm0:(if(0:Int)>(s.tsk i).cpu then(0:Int)else(s.tsk i).cpu)=aCF (s.tsk i).cpu:=rfl
  have hm1:(aCF (s.tsk i).cpu<0)=False:=by simp[aCF];split<;>omega
  refine iG rfl ?_
  obtain⟨l2,e_l2,h_l2⟩:∃x,x=l1++jC (decide ((s.tsk i).id<1\/65535<(s.tsk i).id)) ⟨5,(i:Int),0⟩/\x.length<=(l1).length+1:=⟨_,rfl,kA _ _ _⟩
  refine lO [0,2,3,4,5,16,17,18,19] (k+4) [] ((L,⟨8,aF,[nX (k+3) s (l2)]⟩)::cM (k+3) 3 ((l2).map Flt.row) [(k+1,⟨8,aB,[tf s i]⟩)]) ?_ ?_
  · have uU:=fB a1 a2 a3 a4 a5 a6 b1 b2 (fB b3 @b4 @b5 @b6 c1 c2 hcn hm0 hm1)
    refine cl [.gen (.tup []) (k+4) (LK (L) (k+2) s (l1)) (LK (L) (k+3) s (l2))] ?_;refine FN (gZ λ hg=>?_) (gZ λ hg=>?_) (gZ λ hg=>?_) (gZ λ hg=>?_)
    all_goals(first|(exact nH (k+3) (L) (k+2) s (l1) (l2) _ (decide ((s.tsk i).id<1\/65535<(s.tsk i).id)) _ _ _ (by first|rfl|(exact bQ)|(simp[hg];done)|(simp[hg,hq];done)|(simp_all;done)|(simp_all;omega)) e_l2 oO oO oO oO)|((have uU:=fB a1 a2 a3 a4 a5 a6 b1 b2 (fB b3 @b4 @b5 @b6 c1 c2 hcn hm0 hm1);exact pK)))
  have uU:=fB a1 a2 a3 a4 a5 a6 b1 b2 (fB b3 @b4 @b5 @b6 c1 c2 hcn hm0 hm1)
  refine gG ?_
  refine iG rfl ?_
  obtain⟨l3,e_l3,h_l3⟩:∃x,x=l2++jC (decide ((s.tsk i).group<0\/(s.ng:Int)<=(s.tsk i).group)) ⟨6,(i:Int),0⟩/\x.length<=(l2).length+1:=⟨_,rfl,kA _ _ _⟩
  refine lO [0,2,3,4,5,16,17,18,19] (k+5) [] ((L,⟨8,aF,[nX (k+4) s (l3)]⟩)::cM (k+4) 3 ((l3).map Flt.row) [(k+1,⟨8,aB,[tf s i]⟩)]) ?_ ?_
  · refine dl [.gen (.tup []) (k+5) (LK (L) (k+3) s (l2)) (LK (L) (k+4) s (l3))] ?_;refine FN (gZ λ hg=>?_) (gZ λ hg=>?_) (gZ λ hg=>?_) (gZ λ hg=>?_)
    all_goals(first|(exact nH (k+4) (L) (k+3) s (l2) (l3) _ (decide ((s.tsk i).group<0\/(s.ng:Int)<=(s.tsk i).group)) _ _ _ (by first|rfl|(exact bQ)|(simp[hg];done)|(simp[hg,hq];done)|(simp_all;done)|(simp_all;omega)) e_l3 oO oO oO oO)|((have uU:=fB a1 a2 a3 a4 a5 a6 b1 b2 (fB b3 @b4 @b5 @b6 c1 c2 hcn hm0 hm1);exact pK)))
  refine gG ?_
  refine iG rfl ?_
  obtain⟨l4,e_l4,h_l4⟩:∃x,x=l3++jC (!(decide (0<=(s.tsk i).cpu/\(s.tsk i).cpu<s.cpus))) ⟨7,(i:Int),0⟩/\x.length<=(l3).length+1:=⟨_,rfl,kA _ _ _⟩
  refine lO [0,2,3,4,5,16,17,18,19] (k+6) [] ((L,⟨8,aF,[nX (k+5) s (l4)]⟩)::cM (k+5) 3 ((l4).map Flt.row) [(k+1,⟨8,aB,[tf s i]⟩)]) ?_ ?_
  · refine cl [.gen (.tup []) (k+6) (LK (L) (k+4) s (l3)) (LK (L) (k+5) s (l4))] ?_;refine iA ?_ ?_
    all_goals(first|(exact nH (k+5) (L) (k+4) s (l3) (l4) _ (!(decide (0<=(s.tsk i).cpu/\(s.tsk i).cpu<s.cpus))) _ _ _ (by first|rfl|(exact bQ)|(simp[hg];done)|(simp[hg,hq];done)|(simp_all;done)|(simp_all;omega)) e_l4 oO oO oO oO)|((have uU:=fB a1 a2 a3 a4 a5 a6 b1 b2 (fB b3 @b4 @b5 @b6 c1 c2 hcn hm0 hm1);exact pK)))
  refine gG ?_
  refine iG rfl ?_
  obtain⟨l5,e_l5,h_l5⟩:∃x,x=l4++jC (decide (s.cpus<64)&&decide (0<(s.tsk i).mask.fdiv (2^min s.cpus.toNat 64))) ⟨8,(i:Int),0⟩/\x.length<=(l4).length+1:=⟨_,rfl,kA _ _ _⟩
  refine lO [0,2,3,4,5,16,17,18,19] (k+7) [] ((L,⟨8,aF,[nX (k+6) s (l5)]⟩)::cM (k+6) 3 ((l5).map Flt.row) [(k+1,⟨8,aB,[tf s i]⟩)]) ?_ ?_
  · refine cl [.gen (.tup []) (k+7) (LK (L) (k+5) s (l4)) (LK (L) (k+6) s (l5))] ?_;refine FN (gZ λ hg=>?_) (gZ λ hg=>?_) (gZ λ hg=>?_) (gZ λ hg=>?_)
    all_goals(first|(exact nH (k+6) (L) (k+5) s (l4) (l5) _ (decide (s.cpus<64)&&decide (0<(s.tsk i).mask.fdiv (2^min s.cpus.toNat 64))) _ _ _ (by first|rfl|(exact bQ)|(simp[hg];done)|(simp[hg,hq];done)|(simp_all;done)|(simp_all;omega)) e_l5 oO oO oO oO)|((have uU:=fB a1 a2 a3 a4 a5 a6 b1 b2 (fB b3 @b4 @b5 @b6 c1 c2 hcn hm0 hm1);exact pK)))
  refine gG ?_
  refine iG rfl ?_
  obtain⟨l6,e_l6,h_l6⟩:∃x,x=l5++jC (decide (0<=(s.tsk i).cpu/\(s.tsk i).cpu<s.cpus)&&(aI.wrap (BitVec.ofInt aI.bits ((s.tsk i).mask.fdiv (2^min (aCF (s.tsk i).cpu).toNat 64))&&&BitVec.ofInt aI.bits 1).toNat==0)) ⟨9,(i:Int),0⟩/\x.length<=(l5).length+1:=⟨_,rfl,kA _ _ _⟩
  refine lO [0,2,3,4,16,17,18,19] (k+8) [] ((L,⟨8,aF,[nX (k+7) s (l6)]⟩)::cM (k+7) 3 ((l6).map Flt.row) [(k+1,⟨8,aB,[tf s i]⟩)]) ?_ ?_
  · refine cl [.gen (.tup []) (k+8) (LK (L) (k+6) s (l5)) (LK (L) (k+7) s (l6))] ?_<;>and_intros<;>first|exact iV|(apply zM;(repeat intro ht);apply zM;(repeat intro hg);apply zM)
    all_goals(first|(exact nH (k+7) (L) (k+6) s (l5) (l6) _ (decide (0<=(s.tsk i).cpu/\(s.tsk i).cpu<s.cpus)&&(aI.wrap (BitVec.ofInt aI.bits ((s.tsk i).mask.fdiv (2^min (aCF (s.tsk i).cpu).toNat 64))&&&BitVec.ofInt aI.bits 1).toNat==0)) _ _ _ (by first|rfl|(exact bQ)|(simp[hg];done)|(simp[hg,hq];done)|(simp_all;done)|(simp_all;omega)) e_l6 oO oO oO oO)|((have uU:=fB a1 a2 a3 a4 a5 a6 b1 b2 (fB b3 @b4 @b5 @b6 c1 c2 hcn hm0 hm1);exact pK)))
  refine gG ?_
  obtain⟨l7,e_l7,h_l7⟩:∃x,x=l6++jC (!(qI (s.tsk i).v (s.tsk i).r (s.tsk i).weight)) ⟨10,(i:Int),0⟩/\x.length<=(l6).length+1:=⟨_,rfl,kA _ _ _⟩
  refine lO [0,2,3,4,5,16,17,18,19] (k+9) [] ((L,⟨8,aF,[nX (k+8) s (l7)]⟩)::cM (k+8) 3 ((l7).map Flt.row) [(k+1,⟨8,aB,[tf s i]⟩)]) ?_ ?_
  · refine cl [.ret (qI (s.tsk i).v (s.tsk i).r (s.tsk i).weight),.gen (.tup []) (k+9) (LK (L) (k+7) s (l6)) (LK (L) (k+8) s (l7))] ?_;refine kS (zs ?_) (zs ?_) (zs ?_)
    all_goals(first|(exact nH (k+8) (L) (k+7) s (l6) (l7) _ (!(qI (s.tsk i).v (s.tsk i).r (s.tsk i).weight)) _ _ _ (by first|rfl|(exact bQ)|(simp[hg];done)|(simp[hg,hq];done)|(simp_all;done)|(simp_all;omega)) e_l7 oO oO oO oO)|(exact aXY (s.tsk i).v (s.tsk i).r (s.tsk i).weight)|((have uU:=fB a1 a2 a3 a4 a5 a6 b1 b2 (fB b3 @b4 @b5 @b6 c1 c2 hcn hm0 hm1);exact pK)))
  refine gG ?_
  refine jI ?_
  refine⟨i+1,oO,oO,?_⟩
  rw[show l++cI (vS s) (i+1)=l7 by rw[gC,<-dA,<-e0,e_l7,e_l6,e_l5,e_l4,e_l3,e_l2,e_l1];simp only[dA];rfl]
  refine gG ?_
  exact FI (k+8) k (wV (fB (@a1) (@a2) (@a3) (@a4) (@a5) (@a6) (@b1) (@b2) (fB (@b3) (@b4) (@b5) (@b6) (@c1) (@c2) (@hcn) (@hm0) (@hm1))))
def vV(s:St)(g c:Nat):List Flt:=if g=0 then jC (decide ((s.sp g c).v≠0\/(s.sp g c).r≠0)) ⟨12,(c:Int),0⟩else jC (!(qI (s.sp g c).v (s.sp g c).r (s.wt g))) ⟨11,(g:Int),(c:Int)⟩
def FV(s:St)(g c:Nat):(vV s g c).length<=1:=by unfold vV;split<;>exact jA _ _
def uY(s:St)(g:Nat):List Flt:=cI (vV s g) (s.nsp g)
def CO(s:St):List Flt:=cI (uY s) s.ns
def sI{f:Nat->List Flt}{m:Nat}:∀n,(∀i,i<n->(f i).length<=m)->(cI f n).length<=n*m
 |0,_=>by simp[cI]
 |n+1,h=>by have:=sI n (λ i hi=>h i oO);have:=h n oO;simp only[cI,bT,cW,Nat.one_mul];omega
def bFC(s:St)(hs:s.Small)(hg:s.ns<=s.ng)(h12:s.ns<=12)(hp12:∀g,g<s.ns->s.nsp g<=12):a1J Γ 193 s (CO s):=by
 obtain⟨hng,hnk,hnu,hnt,hns,hnsp⟩:=id hs;intro k L F l hL hF hne hl;obtain⟨a1,a2,a3,a4,a5,a6⟩:=dB hL;obtain⟨b1,b2,b3,b4,b5,b6⟩:=dB hF;obtain⟨c1,c2⟩:=jG hne;refine bR Tryz.func193 rfl 59 rfl bB (pW (gW (vG F oO) ?_));have uU:=fB a1 a2 a3 a4 a5 a6 b1 b2 (rY b3 @b4 @b5 @b6 c1 c2);refine gG ?_;have kp:Kp [0,2,3,4,5,10,11,12,13,17,18,19,20,25] (λ i=>if i=L then 0 else i-k+1):=oR;refine jI ?_;refine cD (X:=Nat) rfl [0,2,3,4,5,10,11,12,13,17,18,19,20,25] (k+1) (λ i=>[(12,i)]) (λ i=>LK L k s (l++cI (uY s) i)) (λ i=>i<=s.ns) (λ i=>s.ns-i) 0 ?_ (bF _) ?_;.rw[lC,cX];refine gG ?_;(have uU:=fB a1 a2 a3 a4 a5 a6 b1 b2 (rY b3 @b4 @b5 @b6 c1 c2);exact pK)
 intro g hg2;have hfl:=sI (f:=uY s) (m:=12) g (λ i hi=>by have:=fK (FV s i) (s.nsp i);have:=hp12 i oO;unfold uY;omega);obtain⟨l0,e0,h0⟩:∃x,x=l++cI (uY s) g/\x.length<=l.length+g*12:=⟨_,rfl,by simp;omega⟩;rw[<-e0];refine gG ?_;refine wl ?_;refine pN (λ ht=>?_) λ ht=>?_
 .have hpg:s.nsp g<=12:=hp12 g oO;refine cD (X:=Nat) rfl [0,2,3,4,5,10,11,12,13,17,18,19,20,25] (k+1) (λ c=>[(19,c)]) (λ c=>LK L k s (l0++cI (vV s g) c)) (λ c=>c<=s.nsp g) (λ c=>s.nsp g-c) 0 ?_ (bF _) ?_;.rw[lC,cX];refine gG ?_;(have uU:=fB a1 a2 a3 a4 a5 a6 b1 b2 (rY b3 @b4 @b5 @b6 c1 c2);exact pK)
  intro c hc;have hfc:=fK (FV s g) c;obtain⟨l1,e1,h1⟩:∃x,x=l0++cI (vV s g) c/\x.length<=l0.length+c:=⟨_,rfl,by simp;omega⟩;rw[<-e1];refine gG ?_;refine wl ?_;refine kS (gB λ ht ht=>?_) (gB λ ht ht=>?_) (rX λ ht=>?_)
  .have hg0:g=0:=oO;obtain⟨l2,e_l2,h_l2⟩:∃x,x=l1++jC (decide ((s.sp g c).v≠0\/(s.sp g c).r≠0)) ⟨12,(c:Int),0⟩/\x.length<=(l1).length+1:=⟨_,rfl,kA _ _ _⟩;refine lO [0,2,3,4,5,10,11,12,13,17,18,19,20,25] (k+3) [] ((L,⟨8,aF,[nX (k+2) s (l2)]⟩)::cM (k+2) 3 ((l2).map Flt.row) [(k+1,⟨3,aB,[sf s g c]⟩)]) ?_ ?_;.refine cl [.gen (.tup []) (k+3) (LK (L) (k) s (l1)) (LK (L) (k+2) s (l2))] ?_;refine FN (gZ λ hg=>?_) (gZ λ hg=>?_) (gZ λ hg=>?_) (gZ λ hg=>?_);all_goals(first|(exact nH (k+2) (L) (k) s (l1) (l2) _ (decide ((s.sp g c).v≠0\/(s.sp g c).r≠0)) _ _ _ (by first|rfl|(exact bQ)|(simp[hg];done)|(simp[hg,hq];done)|(simp_all;done)|(simp_all;omega)) e_l2 oO oO oO oO)|((have uU:=fB a1 a2 a3 a4 a5 a6 b1 b2 (rY b3 @b4 @b5 @b6 c1 c2);exact pK)))
   refine gG ?_;refine jI ?_;refine⟨c+1,oO,oO,?_⟩;rw[show l0++cI (vV s g) (c+1)=l2 by rw[gC,<-dA,<-e1,e_l2,vV,iP hg0]]
   refine gG ?_;exact FI (k+2) k (wV (fB (@a1) (@a2) (@a3) (@a4) (@a5) (@a6) (@b1) (@b2) (rY (@b3) (@b4) (@b5) (@b6) (@c1) (@c2))))
  .have hg0:¬g=0:=oO;obtain⟨l2,e_l2,h_l2⟩:∃x,x=l1++jC (!(qI (s.sp g c).v (s.sp g c).r (s.wt g))) ⟨11,(g:Int),(c:Int)⟩/\x.length<=(l1).length+1:=⟨_,rfl,kA _ _ _⟩;refine lO [0,2,3,4,5,10,11,12,13,17,18,19,20,25] (k+3) [] ((L,⟨8,aF,[nX (k+2) s (l2)]⟩)::cM (k+2) 3 ((l2).map Flt.row) [(k+1,⟨3,aB,[sf s g c]⟩)]) ?_ ?_;.refine dl [.ret (qI (s.sp g c).v (s.sp g c).r (s.wt g)),.gen (.tup []) (k+3) (LK (L) (k) s (l1)) (LK (L) (k+2) s (l2))] ?_;refine kS (zs ?_) (zs ?_) (zs ?_);all_goals(first|(exact nH (k+2) (L) (k) s (l1) (l2) _ (!(qI (s.sp g c).v (s.sp g c).r (s.wt g))) _ _ _ (by first|rfl|(exact bQ)|(simp[hg];done)|(simp[hg,hq];done)|(simp_all;done)|(simp_all;omega)) e_l2 oO oO oO oO)|(exact aXY (s.sp g c).v (s.sp g c).r (s.wt g))|((have uU:=fB a1 a2 a3 a4 a5 a6 b1 b2 (rY b3 @b4 @b5 @b6 c1 c2);exact pK)))
   refine gG ?_;refine jI ?_;refine⟨c+1,oO,oO,?_⟩;rw[show l0++cI (vV s g) (c+1)=l2 by rw[gC,<-dA,<-e1,e_l2,vV,iN hg0]]
   refine gG ?_;exact FI (k+2) k (wV (fB (@a1) (@a2) (@a3) (@a4) (@a5) (@a6) (@b1) (@b2) (rY (@b3) (@b4) (@b5) (@b6) (@c1) (@c2))))
  have hc':c=s.nsp g:=oO;refine⟨g+1,oO,oO,?_⟩;rw[show l++cI (uY s) (g+1)=l1 by rw[gC,<-dA,<-e0,e1,hc'];rfl]
  refine gG ?_;(have uU:=fB a1 a2 a3 a4 a5 a6 b1 b2 (rY b3 @b4 @b5 @b6 c1 c2);exact pK)
 have hi':g=s.ns:=oO;subst hi';refine⟨k+1,[],LK L k s l0,?_,_,rfl,rfl,rfl,by rw[e0];rfl⟩;(have uU:=fB a1 a2 a3 a4 a5 a6 b1 b2 (rY b3 @b4 @b5 @b6 c1 c2);exact pK)
def aPU:Option Int->AVal
 |none=> .lit (.pointer aC)
 |some v=> .rp [.lit (.int .u64 v)]
def aGB(x:Option Int):clean (aPU x)=aB:=by cases x<;>rfl
def UN:aPU aC=aD (Value.pointer aC):=rfl
def UM(v:Int):aPU (aA v)= .rp [aD (aE aI v)]:=rfl
def xQ(f:Nat->Option Int)(n:Nat):List (List AVal):=(aR n).map λ i=>[aPU (f i)]
def KB(f:Nat->Option Int)(n:Nat):(xQ f n).length=n:=by simp[xQ]
def yN(f:Nat->Option Int)(n g:Nat)(h:g<n):(xQ f n)[g]? =aA [aPU (f g)]:=by simp[xQ,h]
def iW(f:Nat->Option Int)(n:Nat):((xQ f n).all λ row=>row.all clean)=aB:=aRT λ i=>by simp[aGB]
def put(f:Nat->Option Int)(g:Nat)(v:Int):Nat->Option Int:=λ i=>if i=g then aA v else f i
def lP(f:Nat->Option Int)(n g:Nat)(v:Int):(xQ f n).set g [.rp [aD (aE aI v)]]=xQ (put f g v) n:=by
 apply fF;intro j;rw[dS];by_cases hj:j<n
 .rw[yN _ n j hj,yN _ n j hj,KB];by_cases he:g=j;.subst he;simp[put,hj,aPU]
  have:¬j=g:=λ e=>he e.symm;simp[he,put,this]
 have h1:(xQ f n)[j]? =aC:=by simp[xQ,hj]
 have h2:(xQ (put f g v) n)[j]? =aC:=by simp[xQ,hj]
 rw[h1,h2,KB];split;.rename_i he;subst he;simp[hj]
 rfl
def low(f:Nat->Option Int)(g:Nat)(v:Int):Nat->Option Int:=match f g with
 |none=>put f g v
 |some u=>if v<u then put f g v else f
def LW(T B n:Nat)(f:Nat->Option Int):aS:=[(T,⟨1,aF,[[.sl B 0 n]]⟩),(B,⟨1,aB,xQ f n⟩)]
attribute [go_sem] LW KB
def a8P(k T B n:Nat)(f:Nat->Option Int)(g:Nat)(v:Int)(hT:T<k)(hB:B<k)(hne:T≠B)(hg:g<n):
 Tr aG Γ 246 k [g,aD (aE aI v),.ptr T 0 0] (LW T B n f) (λ k1 r1 H1=>k1=k/\r1= .tup []/\H1=LW T B n (low f g v)):=by
 obtain⟨a1,a2,a3,a4,a5,a6⟩:=dB hT;obtain⟨b1,b2,b3,b4,b5,b6⟩:=dB hB;obtain⟨c1,c2⟩:=jG hne;have hget:=yN f n g hg;refine bR Tryz.func246 rfl 23 rfl bB (pW ?_)
 cases hf:f g with
 |none=>rw[hf,UN]at hget;have kp:Kp [0,1,2,4,19] (λ i=>if i=T then 0 else if i=B then 1 else i-k+2):=oR;have uU:=fB a1 a2 a3 a4 a5 a6 b1 b2 (yI b3 @b4 @b5 @b6 c1 c2 hget);refine sP λ ht=>?_;refine⟨k,[],LW T B n (put f g v),?_,_,rfl,rfl,rfl,by rw[show low f g v=put f g v by simp only[low,hf]];rfl⟩;refine Mv.trans (gT k (by simp-dsimp-implicitDefEqProofs only[go_sem,a1,a2,a3,a4,a5,a6,b1,b2,b3,b4,b5,b6,c1,c2,hget,↓reduceIte];rfl) rfl) ?_;simp-dsimp-implicitDefEqProofs only[qO,jR,go_sem,a1,a2,a3,a4,a5,a6,b1,b2,b3,b4,b5,b6,c1,c2,jO,kW (iW f n),lP,eq_self,↓reduceIte];refine Mv.trans (Mv.pure B (by simp-dsimp-implicitDefEqProofs only[go_sem,a1,a2,a3,a4,a5,a6,b1,b2,b3,b4,b5,b6,c1,c2,jO,kW (iW f n),lP,↓reduceIte];rfl) (iW _ _)) ?_;exact nC (sA oO (by simp-dsimp-implicitDefEqProofs only[go_sem,a1,a2,a3,a4,a5,a6,b1,b2,b3,b4,b5,b6,c1,c2,jO,kW (iW f n),lP,aQ,Flt.row,↓reduceIte]) (by simp-dsimp-implicitDefEqProofs only[go_sem,a1,a2,a3,a4,a5,a6,b1,b2,b3,b4,b5,b6,c1,c2,jO,kW (iW f n),lP,aQ,Flt.row,↓reduceIte]) (by simp-dsimp-implicitDefEqProofs only[go_sem,a1,a2,a3,a4,a5,a6,b1,b2,b3,b4,b5,b6,c1,c2,jO,kW (iW f n),lP,aQ,Flt.row,↓reduceIte]) (by simp-dsimp-implicitDefEqProofs only[go_sem,a1,a2,a3,a4,a5,a6,b1,b2,b3,b4,b5,b6,c1,c2,jO,kW (iW f n),lP,aQ,Flt.row,↓reduceIte]))
 |some u=>
  rw[hf,UM]at hget;have kp:Kp [0,1,2,4,19] (λ i=>if i=T then 0 else if i=B then 1 else i-k+2):=oR;have uU:=fB a1 a2 a3 a4 a5 a6 b1 b2 (yI b3 @b4 @b5 @b6 c1 c2 hget);refine wl ?_;refine pN (λ ht=>?_) λ ht=>?_;.refine⟨k,[],LW T B n (put f g v),?_,_,rfl,rfl,rfl,by rw[show low f g v=put f g v by simp only[low,hf,iP ht]];rfl⟩;refine Mv.trans (gT k (by simp-dsimp-implicitDefEqProofs only[go_sem,a1,a2,a3,a4,a5,a6,b1,b2,b3,b4,b5,b6,c1,c2,hget,↓reduceIte];rfl) rfl) ?_;simp-dsimp-implicitDefEqProofs only[qO,jR,go_sem,a1,a2,a3,a4,a5,a6,b1,b2,b3,b4,b5,b6,c1,c2,jO,kW (iW f n),lP,eq_self,↓reduceIte];refine Mv.trans (Mv.pure B (by simp-dsimp-implicitDefEqProofs only[go_sem,a1,a2,a3,a4,a5,a6,b1,b2,b3,b4,b5,b6,c1,c2,jO,kW (iW f n),lP,↓reduceIte];rfl) (iW _ _)) ?_;exact nC (sA oO (by simp-dsimp-implicitDefEqProofs only[go_sem,a1,a2,a3,a4,a5,a6,b1,b2,b3,b4,b5,b6,c1,c2,jO,kW (iW f n),lP,aQ,Flt.row,↓reduceIte]) (by simp-dsimp-implicitDefEqProofs only[go_sem,a1,a2,a3,a4,a5,a6,b1,b2,b3,b4,b5,b6,c1,c2,jO,kW (iW f n),lP,aQ,Flt.row,↓reduceIte]) (by simp-dsimp-implicitDefEqProofs only[go_sem,a1,a2,a3,a4,a5,a6,b1,b2,b3,b4,b5,b6,c1,c2,jO,kW (iW f n),lP,aQ,Flt.row,↓reduceIte]) (by simp-dsimp-implicitDefEqProofs only[go_sem,a1,a2,a3,a4,a5,a6,b1,b2,b3,b4,b5,b6,c1,c2,jO,kW (iW f n),lP,aQ,Flt.row,↓reduceIte]))
  refine⟨k,[],LW T B n f,?_,_,rfl,rfl,rfl,by rw[show low f g v=f by simp only[low,hf,iN (Int.not_lt.2 ht)]];rfl⟩;(have uU:=fB a1 a2 a3 a4 a5 a6 b1 b2 (yI b3 @b4 @b5 @b6 c1 c2 hget);exact pK)
def uR(s:St)(c:Int)(i:Nat):Bool:=(s.tsk i).ready&&decide ((s.tsk i).cpu=c)
def fT(s:St)(c:Int):Nat->Nat->Option Int
 |0=>λ _=>aC
 |i+1=>if uR s c i=aB then low (fT s c i) (s.tsk i).group.toNat (s.tsk i).v else fT s c i
def HH(s:St)(c g:Nat)(f:Nat->Option Int):Nat->Option Int:=match f g with
 |none=>f
 |some _=>if 0<g then low f (s.par g).toNat (s.sp g c).v else f
def HG(s:St)(c g:Nat)(f:Nat->Option Int):List Flt:=match f g with
 |none=>[]
 |some m=>jC (decide ((s.sp g c).floor<m)) ⟨14,(g:Int),(c:Int)⟩
def JX(s:St)(c g:Nat)(f:Nat->Option Int):(HG s c g f).length<=1:=by
 unfold HG;split;.simp
 exact jA _ _
def dF(s:St)(c:Nat):Nat->Nat->Option Int
 |0=>fT s c s.nt
 |j+1=>HH s c (s.ns-1-j) (dF s c j)
def sH(s:St)(c j:Nat):List Flt:=HG s c (s.ns-1-j) (dF s c j)
def rD(s:St)(c:Nat):List Flt:=cI (sH s c) s.ns
def xX(s:St):List Flt:=cI (rD s) s.cpus.toNat
structure FloorOk (s:St):Prop where
 grp:∀i,i<s.nt->0<=(s.tsk i).group/\(s.tsk i).group<s.ns
 par:∀g,1<=g->g<s.ns->0<=s.par g/\s.par g<g
 sp:∀g,g<s.ns->(s.nsp g:Int)=s.cpus
 ng:s.ns<=s.ng
 c0:0<=s.cpus
 c1:s.cpus<=64
 n12:s.ns<=12
def vK(n:Nat):bI n [aD (.pointer aC)]=xQ (λ _=>aC) n:=by
 apply fF;intro j;by_cases hj:j<n;.rw[yN _ n j hj,oY,iP hj];rfl
 rw[oY,iN hj];simp[xQ,hj]
def bBO(s:St)(hs:s.Small)(hk:FloorOk s):a1J Γ 194 s (xX s):=by
 obtain⟨hng,hnk,hnu,hnt,hns,hnsp⟩:=id hs;obtain⟨kgrp,kpar,ksp,kng,kc0,kc1,k12⟩:=hk;intro k L F l hL hF hne hl;obtain⟨a1,a2,a3,a4,a5,a6⟩:=dB hL;obtain⟨b1,b2,b3,b4,b5,b6⟩:=dB hF;obtain⟨c1,c2⟩:=jG hne;refine bR Tryz.func194 rfl 112 rfl bB (pW (gW (vG F oO) ?_));have uU:=fB a1 a2 a3 a4 a5 a6 b1 b2 (rY b3 @b4 @b5 @b6 c1 c2);refine gG ?_;have kp:Kp [0,2,3,4,6,7,13,14,15,29,30,31,32,42,54,61,86] (λ i=>if i=L then 0 else i-k+1):=oR;refine jI ?_;refine cD (X:=Nat) rfl [0,2,3,4,6,7,13,14,15,29,30,31,32,42,54,61,86] (k+1) (λ i=>[(14,i)]) (λ i=>LK L k s (l++cI (rD s) i)) (λ i=>i<=s.cpus.toNat) (λ i=>s.cpus.toNat-i) 0 ?_ (bF _) ?_;.rw[lC,cX];refine gG ?_;(have uU:=fB a1 a2 a3 a4 a5 a6 b1 b2 (rY b3 @b4 @b5 @b6 c1 c2);exact pK)
 intro c hc;have hfl:=fK (f:=rD s) (m:=12) (λ i=>by have:=fK (f:=sH s i) (m:=1) (λ j=>JX _ _ _ _) s.ns;unfold rD;omega) c;obtain⟨l0,e0,h0⟩:∃x,x=l++cI (rD s) c/\x.length<=l.length+c*12:=⟨_,rfl,by simp;omega⟩;rw[<-e0];have uU:=fB a1 a2 a3 a4 a5 a6 b1 b2 (yI b3 @b4 @b5 @b6 c1 c2 @vK);refine gG ?_;refine wl ?_;refine pN (λ ht=>?_) λ ht=>?_
 .refine cD (X:=Nat) rfl [0,2,3,4,6,7,13,14,15,29,30,31,32,42,54,61,86] (k+3) (λ i=>[(31,i)]) (λ i=>LW (k+2) (k+1) s.ns (fT s c i)++LK L k s l0) (λ i=>i<=s.nt) (λ i=>s.nt-i) 0 ?_ (bF _) ?_;.rw[fT];refine gG ?_;(have uU:=fB a1 a2 a3 a4 a5 a6 b1 b2 (yI b3 @b4 @b5 @b6 c1 c2 @vK);exact pK)
  intro i hi;obtain⟨f,ef⟩:=xE (fT s c i);rw[<-ef];have hstep:fT s c (i+1)=if uR s c i=aB then low f (s.tsk i).group.toNat (s.tsk i).v else f:=by rw[ef];rfl
  refine gG ?_;refine wl ?_;refine FN (qS λ ht ht hg=>?_) (qS λ ht ht hg=>?_) (qS λ ht ht hg=>?_) (rX λ ht=>?_)
  .obtain⟨hg1,hg2⟩:=kgrp i oO;have htk:uR s c i=aB:=by simp[uR,hg,ht]
   obtain⟨f1,ef1⟩:=xE (low f (s.tsk i).group.toNat (s.tsk i).v);refine cl [.gen (.tup []) (k+4) (LW (k+2) (k+1) s.ns f) (LW (k+2) (k+1) s.ns f1)] ?_;refine iA ?_ ?_;.have h:=a8P (Γ:=Γ) (k+4) (k+2) (k+1) s.ns f (s.tsk i).group.toNat (s.tsk i).v oO oO oO oO;rw[gY hg1,<-ef1]at h;exact h
   refine jI ?_;refine⟨i+1,oO,oO,?_⟩;rw[hstep,iP htk,<-ef1];refine gG ?_;(have uU:=fB a1 a2 a3 a4 a5 a6 b1 b2 (yI b3 @b4 @b5 @b6 c1 c2 @vK);exact pK)
  .refine⟨i+1,oO,oO,?_⟩;rw[hstep,iN (by simp[uR,ht])];refine gG ?_;(have uU:=fB a1 a2 a3 a4 a5 a6 b1 b2 (yI b3 @b4 @b5 @b6 c1 c2 @vK);exact pK)
  .refine⟨i+1,oO,oO,?_⟩;rw[hstep,iN (by simp[uR,hg])];refine gG ?_;(have uU:=fB a1 a2 a3 a4 a5 a6 b1 b2 (yI b3 @b4 @b5 @b6 c1 c2 @vK);exact pK)
  have hi':i=s.nt:=oO;subst hi';clear hstep;refine cD (X:=Nat) rfl [0,2,3,4,6,7,13,14,15,29,30,31,32,42,54,61,86] (k+3) (λ j=>[(7,((s.ns:Int)-1-j:Int))]) (λ j=>LW (k+2) (k+1) s.ns (dF s c j)++LK L k s (l0++cI (sH s c) j)) (λ j=>j<=s.ns) (λ j=>s.ns-j) 0 ?_ (bF _) ?_;.rw[lC,cX,dF,<-ef,(oO:((s.ns:Int)-1-((0:Nat):Int))=(s.ns:Int)-1)];refine gG ?_;(have uU:=fB a1 a2 a3 a4 a5 a6 b1 b2 (yI b3 @b4 @b5 @b6 c1 c2 @vK);exact pK)
  clear ef f;intro j hj;have hfj:=fK (f:=sH s c) (m:=1) (λ j=>JX _ _ _ _) j;obtain⟨l1,e1,h1⟩:∃x,x=l0++cI (sH s c) j/\x.length<=l0.length+j:=⟨_,rfl,by simp;omega⟩;obtain⟨f,ef⟩:=xE (dF s c j);rw[<-e1,<-ef];refine gG ?_;by_cases hlt:j<s.ns
  .obtain⟨g,eg,hgn⟩:∃g:Nat,(s.ns:Int)-1-j=(g:Int)/\g=s.ns-1-j:=⟨s.ns-1-j,oO,rfl⟩;rw[eg];have hF:dF s c (j+1)=HH s c g f:=by rw[ef,hgn];rfl
   have hLj:sH s c j=HG s c g f:=by rw[ef,hgn];rfl
   have hget:=yN f s.ns g oO
   cases hf:f g with
   |none=>rw[hf,UN]at hget;have uU:=fB a1 a2 a3 a4 a5 a6 b1 b2 (yI b3 @b4 @b5 @b6 c1 c2 hget);refine wl ?_;refine kB (gB λ ht ht=>⟨j+1,oO,oO,?_⟩);rw[hF,show HH s c g f=f by simp only[HH,hf],gC,hLj,show HG s c g f=[]by simp only[HG,hf],cX,<-e1,(oO:((s.ns:Int)-1-((j+1:Nat):Int))=(g:Int)-1)];(have uU:=fB a1 a2 a3 a4 a5 a6 b1 b2 (yI b3 @b4 @b5 @b6 c1 c2 hget);exact pK)
   |some m=>
    rw[hf,UM]at hget;have hspg:=ksp g oO;have hnn:=eg;have uU:=fB a1 a2 a3 a4 a5 a6 b1 b2 (yI b3 @b4 @b5 @b6 c1 c2 hget);refine wl ?_;refine kB (gB λ ht ht=>?_);obtain⟨l2,e_l2,h_l2⟩:∃x,x=l1++jC (decide ((s.sp g c).floor<m)) ⟨14,(g:Int),(c:Int)⟩/\x.length<=(l1).length+1:=⟨_,rfl,kA _ _ _⟩;refine lO [0,2,3,4,6,7,13,14,15,29,30,31,32,42,54,61,86] (k+4) [] ((L,⟨8,aF,[nX (k+3) s (l2)]⟩)::cM (k+3) 3 ((l2).map Flt.row) (LW (k+2) (k+1) s.ns f)) ?_ ?_;.refine dl [.gen (.tup []) (k+4) (LK (L) (k) s (l1)) (LK (L) (k+3) s (l2))] ?_;refine iA ?_ ?_;all_goals(first|(exact nH (k+3) (L) (k) s (l1) (l2) _ (decide ((s.sp g c).floor<m)) _ _ _ (by first|rfl|(exact bQ)|(simp[hg];done)|(simp[hg,hq];done)|(simp_all;done)|(simp_all;omega)) e_l2 oO oO oO oO)|((have uU:=fB a1 a2 a3 a4 a5 a6 b1 b2 (yI b3 @b4 @b5 @b6 c1 c2 hget);exact pK)))
    refine gG ?_;have hl2:l0++cI (sH s c) (j+1)=l2:=by rw[gC,<-dA,<-e1,hLj,e_l2];simp only[HG,hf]
    refine wl ?_;refine pN (λ ht=>?_) λ ht=>?_
    .obtain⟨hp1,hp2⟩:=kpar g oO oO;obtain⟨f1,ef1⟩:=xE (low f (s.par g).toNat (s.sp g c).v);refine dl [.gen (.tup []) (k+4) (LW (k+2) (k+1) s.ns f) (LW (k+2) (k+1) s.ns f1)] ?_;refine iA ?_ ?_;.have h:=a8P (Γ:=Γ) (k+4) (k+2) (k+1) s.ns f (s.par g).toNat (s.sp g c).v oO oO oO oO;rw[gY hp1,<-ef1]at h;exact h
     refine jI ?_;refine⟨j+1,oO,oO,?_⟩;rw[hF,show HH s c g f=f1 by simp only[HH,hf];rw[iP oO,ef1],hl2,(oO:((s.ns:Int)-1-((j+1:Nat):Int))=(g:Int)-1)];exact FI (k+3) k (wV (fB (@a1) (@a2) (@a3) (@a4) (@a5) (@a6) (@b1) (@b2) (yI (@b3) (@b4) (@b5) (@b6) (@c1) (@c2) (@hget))))
    refine⟨j+1,oO,oO,?_⟩;rw[hF,show HH s c g f=f by simp only[HH,hf];rw[iN oO],hl2,(oO:((s.ns:Int)-1-((j+1:Nat):Int))=(g:Int)-1)];exact FI (k+3) k (wV (fB (@a1) (@a2) (@a3) (@a4) (@a5) (@a6) (@b1) (@b2) (yI (@b3) (@b4) (@b5) (@b6) (@c1) (@c2) (@hget))))
  have uU:=fB a1 a2 a3 a4 a5 a6 b1 b2 (rY b3 @b4 @b5 @b6 c1 c2);refine sP λ ht=>?_;have hj':j=s.ns:=oO;refine⟨c+1,oO,oO,?_⟩;rw[show l++cI (rD s) (c+1)=l1 by rw[gC,<-dA,<-e0,e1,hj'];rfl]
  refine gG ?_;(have uU:=fB a1 a2 a3 a4 a5 a6 b1 b2 (rY b3 @b4 @b5 @b6 c1 c2);exact pK)
 have hi':c=s.cpus.toNat:=oO;refine⟨k+1,[],LK L k s l0,?_,_,rfl,rfl,rfl,by rw[e0,hi'];rfl⟩;(have uU:=fB a1 a2 a3 a4 a5 a6 b1 b2 (rY b3 @b4 @b5 @b6 c1 c2);exact pK)
structure Wf (s:St):Prop where
 mask0:∀i,0<=(s.tsk i).mask
 mask1:∀i,(s.tsk i).mask<18446744073709551616
 tv:∀i,(s.tsk i).v<=18446744073709551615
 tr:∀i,0<=(s.tsk i).r
 sv:∀g c,(s.sp g c).v<=18446744073709551615
 sr:∀g c,0<=(s.sp g c).r
def a7Z(s:St)(i:Nat)(c:Nat):Bool:=decide (s.cpus<=(c:Int))&&aIY (s.tsk i).mask c
def r8(s:St)(i:Nat):Bool:=nI (a7Z s i) 64
def r9(s:St)(i:Nat):Bool:=onB s i&& !(aIY (s.tsk i).mask (s.tsk i).cpu.toNat)
def brk(s:St)(i:Nat)(r:Int):Bool:=if r=4 then t4 s i else if r=5 then t5 s i else if r=6 then t6 s i else if r=7 then t7 s i else if r=8 then r8 s i else if r=9 then r9 s i else t10 s i
def bOR(h:r=4):brk s i r=t4 s i:=by subst h;rfl
def bOQ(h:r=5):brk s i r=t5 s i:=by subst h;rfl
def BG{f:Nat->Bool}:∀ {n:Nat},(∀j,j<n->f j=aF)->nI f n=aF
 |0,_=>rfl
 |n+1,h=>by rw[nI,BG (λ j hj=>h j oO),h n oO];rfl
def MF(s:St)(r i:Nat):List Flt:=jC (brk s i (r+4)) ⟨((r:Int)+4),(i:Int),0⟩
def ZO(s:St)(r:Nat):List Flt:=cI (MF s r) s.nt
def aKH(s:St)(g c:Nat):List Flt:=jC (!(qI (s.sp g c).v (s.sp g c).r (s.wt g))) ⟨11,(g:Int),(c:Int)⟩
def MQ(s:St)(g:Nat):List Flt:=if g=0 then []else cI (aKH s g) (s.nsp g)
def CV(s:St)(c:Nat):List Flt:=jC (decide (0<(s.sp 0 c).v\/0<(s.sp 0 c).r)) ⟨12,(c:Int),0⟩
def pH(s:St):List Flt:=cI (qD s) s.nk++(cI (ZO s) 7++(cI (MQ s) s.ns++(cI (CV s) s.cpus.toNat++cI (BW s) s.cpus.toNat)))
structure PartOk (s:St):Prop where
 sp:∀g,g<s.ns->(s.nsp g:Int)=s.cpus
 ng:s.ns=s.ng
 ns1:1<=s.ns
 c0:0<=s.cpus
 c1:s.cpus<=64
 nu:(s.nu:Int)=s.cpus
 n12:s.ns<=12
structure Mem where
 v:Int
 a:Int
 b:Int
def Mem.row (m:Mem):List AVal:=[aD (aE aI m.v),aD (aE aH m.a),aD (aE aH m.b)]
attribute [go_sem] Mem.row
def DN(f:Nat->List Mem):Nat->List Mem
 |0=>[]
 |n+1=>DN f n++f n
def aHO{f:Nat->List Mem}:DN f (n+1)=DN f n++f n:=rfl
def ifM(b:Bool)(m:Mem):List Mem:=if b=aB then [m]else []
def inQ(s:St)(g c:Int)(i:Nat):Bool:=(s.tsk i).ready&&(decide ((s.tsk i).group=g)&&decide ((s.tsk i).cpu=c))
def a4D(s:St)(g c i:Nat):List Mem:=ifM (inQ s g c i) ⟨(s.tsk i).v,0,(s.tsk i).id⟩
def HV(s:St)(c:Nat):Nat->Nat->List Mem
 |0,g=>DN (a4D s g c) s.nt
 |f+1,g=>DN (a4D s g c) s.nt++DN (λ h=>ifM (decide (1<=h/\s.par h=(g:Int))&& !(HV s c f h).isEmpty) ⟨(s.sp h c).v,1,(h:Int)⟩) s.ns
def bLY(s:St)(c g:Nat)(sub:Nat->List Mem)(h:Nat):List Mem:=ifM (decide (1<=h/\s.par h=(g:Int))&& !(sub h).isEmpty) ⟨(s.sp h c).v,1,(h:Int)⟩
def aPZ(s:St)(c f g:Nat):HV s c (f+1) g=DN (a4D s g c) s.nt++DN (bLY s c g (HV s c f)) s.ns:=rfl
def aIR(f:Nat->Bool):Nat->Nat
 |0=>0
 |n+1=>aIR f n+(if f n=aB then 1 else 0)
def aNH(f:Nat->Bool):∀n,aIR f n<=n
 |0=>aJ _
 |n+1=>by have:=aNH f n;simp only[aIR];split<;>omega
def bAZ(l:List Mem)(i:Nat):Int:=(l.getD i ⟨0,0,0⟩).v
def ZR(s:St)(g c:Nat)(l:List Mem)(i:Nat):Bool:=decide ((s.sp g c).floor<bAZ l i)
def VP(s:St)(g c:Nat):List Flt:=jC (decide (0<(HV s c s.ns g).length/\aIR (ZR s g c (HV s c s.ns g)) (HV s c s.ns g).length=(HV s c s.ns g).length)) ⟨14,(g:Int),(c:Int)⟩
def aQR(s:St)(g:Nat):List Flt:=cI (VP s g) s.cpus.toNat
def xW(s:St):List Flt:=cI (aQR s) s.ns
def dR(s:St):List Flt:=if jQ s=aF then [⟨1,0,0⟩]else if 0<(lQ s).length then lQ s else if 0<(pH s).length then pH s else xW s
def KP{f:Nat->List Flt}:∀ {n:Nat},(cI f n).length=0->∀i,i<n->f i=[]
 |0,_,i,h=>oO
 |n+1,h,i,hi=>by
  simp only[cI,bT]at h;by_cases he:i=n;.subst he;exact jE oO
  exact KP (n:=n) oO i oO
def shapes_nil(h:(lQ s).length=0):(s.nk:Int)=s.cpus/\(s.nu:Int)=s.cpus/\s.ns=s.ng/\∀g,g<s.ns->(s.nsp g:Int)=s.cpus:=by
 unfold lQ at h;simp only[bT]at h
 have h1:(s.nk:Int)=s.cpus:=by
  by_cases hc:(s.nk:Int)=s.cpus;.exact hc
  rw[iP hc]at h;simp at h
 have h2:(s.nu:Int)=s.cpus:=by
  by_cases hc:(s.nu:Int)=s.cpus;.exact hc
  rw[iP hc]at h;simp at h
 have h3:s.ns=s.ng:=by
  by_cases hc:s.ns=s.ng;.exact hc
  rw[iP hc]at h;simp at h
 refine⟨h1,h2,h3,λ g hg=>?_⟩;rw[iN (show ¬s.ns≠s.ng from λ hh=>hh h3)]at h;have:=KP (f:=mH s) oO g hg;unfold mH at this;split at this;.assumption
 cases this
def HO{par:Nat->Int}(hg:1<=g)(h:SW par 5 g 0<=4):0<=par g/\par g<g:=by
 rw[SW,iN oO]at h;by_cases hc:par g<0\/(g:Int)<=par g;.rw[iP hc]at h;omega
 omega
def iJ(h:jQ s=aB):(1<=s.cpus/\s.cpus<=64/\s.credit<=1099511627776/\1<=s.ng/\s.ng<=256/\s.par 0=0/\s.wt 0=1)/\∀g,1<=g->g<s.ng->okR s g=aB:=by simp only[jQ,aO,dTt,rP]at h;exact⟨h.1,fb_none_iff.1 h.2⟩
def bAJ(h12:s.ns<=12)(h:jQ s=aB)(hsh:(lQ s).length=0):PartOk s/\∀g,1<=g->g<s.ns->s.par g<g:=by obtain⟨⟨h1,h2,h3,h4,h5,h6,h7⟩,hall⟩:=iJ h;obtain⟨k1,k2,k3,k4⟩:=shapes_nil hsh;refine⟨⟨k4,k3,oO,oO,h2,k2,h12⟩,λ g hg hn=>?_⟩;have:=hall g hg oO;simp only[okR,aO,dTt]at this;exact(HO hg this.2).2
end Go.Proofs.T
end
section
namespace Go.Proofs.T
open Go Go.AM Go.Proofs
def UK{par:Nat->Int}:∀(F g:Nat),g<=F->(∀j,1<=j->j<=g->0<=par j/\par j<j)->uJ par F g=uJ par g g:=by
 intro F
 induction F using Nat.strongRecOn with
 |_ F ih=>
  intro g hg hv
  cases F with
  |zero=>have:g=0:=oO;subst this;rfl
  |succ F=>
   cases g with
   |zero=>simp[uJ]
   |succ g=>obtain⟨h1,h2⟩:=hv (g+1) oO oO;have hv':∀j,1<=j->j<=(par (g+1)).toNat->0<=par j/\par j<j:=λ j h3 h4=>hv j h3 oO;rw[uJ,uJ,iN oO,iN oO,ih F oO _ oO hv',ih g oO _ oO hv']
def KD{par:Nat->Int}:∀(f g n:Nat),(∀j,1<=j->j<=g->0<=par j/\par j<j)->SW par f g n=n+min f (uJ par g g)
 |0,g,n,_=>by simp[SW]
 |f+1,0,n,_=>by simp[SW,uJ]
 |f+1,g+1,n,hv=>by obtain⟨h1,h2⟩:=hv (g+1) oO oO;have hv':∀j,1<=j->j<=(par (g+1)).toNat->0<=par j/\par j<j:=λ j h3 h4=>hv j h3 oO;rw[SW,iN oO,iN oO,KD f _ _ hv',uJ,iN oO,UK g _ oO hv'];omega
def aZB(s:St):((chk s).2==0)=aB↔(s.ng<=256/\1<=s.ng/\s.par 0=0/\s.wt 0=1)/\∀g,1<=g->g<s.ng->okG s g=aB:=by
 unfold chk;by_cases h1:256<s.ng;.rw[iP h1];simp;omega
 rw[iN h1];by_cases h2:s.ng=0\/¬(s.par 0=0/\s.wt 0=1)
 .rw[iP h2];simp only[Int.reduceBEq,bP,false_iff];rintro⟨⟨h3,h4,h5⟩,_⟩;rcases h2 with h2|h2;.omega
  exact h2 h5
 rw[iN h2];have h3:¬s.ng=0:=λ h=>h2 (dE h);have h4:s.par 0=0/\s.wt 0=1:=Classical.byContradiction λ h=>h2 (dP h)
 cases hf:fb (okG s) s.ng with
 |none=>simp only[beq_self_eq_true,true_iff];exact⟨⟨oO,oO,h4⟩,fb_none_iff.1 hf⟩
 |some g=>
  have hne:(ZL s g==0)=aF:=by unfold ZL;split<;>(try split)<;>rfl
  simp only[hne,bP,false_iff];rintro⟨_,hall⟩;rw[fb_none_iff.2 hall]at hf;cases hf
def bAU(s:St)(n:Nat):(∀g,1<=g->g<n->okG s g=aB)↔∀g,1<=g->g<n->okR s g=aB:=by
 constructor
 .intro h g h1 h2;have hv:∀j,1<=j->j<=g->0<=s.par j/\s.par j<j:=λ j h3 h4=>by have:=h j h3 oO;simp only[okG,okP,aO,dTt]at this;exact this.1
  have:=h g h1 h2;simp only[okG,aO,dTt]at this;simp only[okR,aO,dTt];refine⟨this.2.1,?_⟩;rw[KD 5 g 0 hv];omega
 intro h g h1 h2;have hv:∀j,1<=j->j<=g->0<=s.par j/\s.par j<j:=λ j h3 h4=>by have:=h j h3 oO;simp only[okR,aO,dTt]at this;exact HO h3 this.2
 have:=h g h1 h2;simp only[okR,aO,dTt]at this;simp only[okG,okP,aO,dTt];have h5:=this.2;rw[KD 5 g 0 hv]at h5;exact⟨hv g h1 (aJ _),this.1,oO⟩
def DV(s:St):nU s=jQ s:=by
 rw[eY];simp only[nU,jQ,aO,dTt,rP,fb_none_iff,aZB,bAU];constructor;.rintro⟨⟨h1,h2,h3⟩,⟨h4,h5,h6,h7⟩,h8⟩;exact⟨⟨h1,h2,h3,h5,h4,h6,h7⟩,h8⟩
 rintro⟨⟨h1,h2,h3,h5,h4,h6,h7⟩,h8⟩;exact⟨⟨h1,h2,h3⟩,⟨h4,h5,h6,h7⟩,h8⟩
def mZ{b:Bool}{f:Flt}:jC b f=[]↔b=aF:=by cases b<;>simp[jC]
def EI(s:St):qU s=lQ s:=by unfold qU lQ jC;by_cases h1:(s.nk:Int)=s.cpus<;>by_cases h2:(s.nu:Int)=s.cpus<;>by_cases h3:s.ns=s.ng<;>simp[h1,h2,h3]<;>omega
end Go.Proofs.T
end
section
namespace Go.Proofs
open Go.Shelf
def Tryz.sortF_ren:Go.Shelf.Ren:=⟨λ |6=>195|15=>119|14=>247|28=>206|29=>207|20=>276|21=>277|22=>278|23=>279|24=>280|25=>281|26=>282|27=>283|46=>301|47=>249|48=>250|49=>302|50=>303|57=>316|n=>n,λ |22=>122|24=>125|25=>258|3=>3|39=>189|0=>0|53=>50|55=>22|4=>4|46=>261|45=>260|50=>204|5=>5|9=>9|66=>300|70=>303|76=>326|77=>285|n=>n,λ |n=>n⟩
def Tryz.sortF:Go.Proofs.SlLaysF0.n6 aG Tryz.sortF_ren:={
 mixed:=by kernel_rfl
 f6:=⟨Tryz.f195.name,by decide,Tryz.func195.trans cSo⟩
 f14:=⟨Tryz.f247.name,by decide,Tryz.func247.trans cSo⟩
 f15:=Tryz.func119.trans cSo
 f20:=⟨Tryz.f276.name,by decide,Tryz.func276.trans cSo⟩
 f21:=⟨Tryz.f277.name,by decide,Tryz.func277.trans cSo⟩
 f22:=⟨Tryz.f278.name,by decide,Tryz.func278.trans cSo⟩
 f23:=⟨Tryz.f279.name,by decide,Tryz.func279.trans cSo⟩
 f24:=⟨Tryz.f280.name,by decide,Tryz.func280.trans cSo⟩
 f25:=⟨Tryz.f281.name,by decide,Tryz.func281.trans cSo⟩
 f26:=⟨Tryz.f282.name,by decide,Tryz.func282.trans cSo⟩
 f27:=⟨Tryz.f283.name,by decide,Tryz.func283.trans cSo⟩
 f28:=Tryz.func206.trans cSo
 f29:=Tryz.func207.trans cSo
 f46:=⟨Tryz.f301.name,by decide,Tryz.func301.trans cSo⟩
 f47:=Tryz.func249.trans cSo
 f48:=Tryz.func250.trans cSo
 f49:=⟨Tryz.f302.name,by decide,Tryz.func302.trans cSo⟩
 f50:=⟨Tryz.f303.name,by decide,Tryz.func303.trans cSo⟩
 f57:=⟨Tryz.f316.name,by decide,Tryz.func316.trans cSo⟩
 t0:=Tryz.underlying0
 a0:=Tryz.isAgg0
 z0:=Tryz.sizeOf0
 v0:=Tryz.zeroValue0
 t3:=aNW
 a3:=Tryz.isAgg3
 z3:=Tryz.sizeOf3
 v3:=Tryz.zeroValue3
 t4:=Tryz.underlying4
 a4:=Tryz.isAgg4
 z4:=Tryz.sizeOf4
 v4:=Tryz.zeroValue4
 t5:=gX
 a5:=Tryz.isAgg5
 z5:=Tryz.sizeOf5
 v5:=Tryz.zeroValue5
 t9:=aNV
 a9:=Tryz.isAgg9
 z9:=Tryz.sizeOf9
 v9:=Tryz.zeroValue9
 t22:=Tryz.underlying122
 a22:=Tryz.isAgg122
 z22:=Tryz.sizeOf122
 v22:=Tryz.zeroValue122
 t25:=Tryz.underlying258
 a25:=Tryz.isAgg258
 z25:=Tryz.sizeOf258
 v25:=Tryz.zeroValue258
 t39:=Tryz.underlying189
 a39:=Tryz.isAgg189
 z39:=Tryz.sizeOf189
 v39:=Tryz.zeroValue189
 t45:=Tryz.underlying260
 a45:=Tryz.isAgg260
 z45:=Tryz.sizeOf260
 v45:=Tryz.zeroValue260
 t46:=Tryz.underlying261
 a46:=Tryz.isAgg261
 z46:=Tryz.sizeOf261
 v46:=Tryz.zeroValue261
 t50:=Tryz.underlying204
 a50:=Tryz.isAgg204
 z50:=Tryz.sizeOf204
 v50:=Tryz.zeroValue204
 t53:=bJD
 a53:=Tryz.isAgg50
 z53:=Tryz.sizeOf50
 v53:=Tryz.zeroValue50
 t55:=Tryz.underlying22
 a55:=Tryz.isAgg22
 z55:=Tryz.sizeOf22
 v55:=Tryz.zeroValue22
 t66:=Tryz.underlying300
 a66:=Tryz.isAgg300
 z66:=Tryz.sizeOf300
 v66:=Tryz.zeroValue300
 t70:=Tryz.underlying303
 a70:=Tryz.isAgg303
 z70:=Tryz.sizeOf303
 v70:=Tryz.zeroValue303
 t76:=Tryz.underlying326
 a76:=Tryz.isAgg326
 z76:=Tryz.sizeOf326
 v76:=Tryz.zeroValue326
 t77:=Tryz.underlying285
 a77:=Tryz.isAgg285
 z77:=Tryz.sizeOf285
 v77:=Tryz.zeroValue285}
end Go.Proofs
end
