import Derived.Test.YteimiejbhhgljaaGreatDoorZAR
import Derived.Test.YteimiejbhhgljaaGreatDoorRows
import Derived.ChangeMaps5
import Derived.Lay
import Derived.MakeChecks
import Derived.JoinedOf
import Derived.Carry
set_option linter.unusedVariables false
set_option linter.unusedSimpArgs false
set_option maxHeartbeats 0
set_option maxRecDepth 100000
open Bool renaming and_eq_true->aH,eq_false_iff->gB,eq_iff_iff->bH,false->aE,true->aB
open Int renaming emod_lt_of_pos->rU,emod_nonneg->RZ,toNat_of_nonneg->gA
open List renaming getD->oH,getD_eq_getElem?_getD->aR,getElem_mem->JR,map->rS,map_append->aM,map_cons->bI,map_map->jM,map_nil->bQ,range->aN
open Nat renaming add_assoc->gD,add_sub_cancel->a4V,add_sub_cancel_left->lE,mul_one->HW,not_lt_zero->bO,sub_self->RX,zero_le->aZ
open Option renaming none->aC,some->aA
open Go.Proofs.Tryz renaming checked->bKQ,f8->wE,prog->aD,underlying216->zY,underlying3->jT,underlying353->zX,underlying355->zW,underlying4->mB,underlying5->dH,underlying9->jC
open Go.Value renaming int->bA,okWide->bKN
section
namespace Go.Proofs.T
open Go Go.AM Go.Proofs
variable{Γ:dL}
attribute [local irreducible] jE del
def cS(x y:Sp):Bool:=x.v==y.v&&(x.r==y.r&&x.floor==y.floor)
theorem a9X{x y:Sp}:cS x y=aB↔x=y:=by obtain⟨a,b,c⟩:=x;obtain⟨d,e,f⟩:=y;simp[cS]
def sR(x:Sp):List AVal:=[.lit (.int .u64 x.v),.lit (.int .u32 x.r),.lit (.int .u64 x.floor)]
section
attribute [local go_sem] mK tR sR
theorem a5O(n m:Nat)(hn:n<=1000)(hm:m<=1000)(f g:Nat->Int):AM.Pure aD Γ 80 [.rd 1 n (λ i=>[(f i)]),.rd 1 m (λ i=>[(g i)])] (oL n m (λ i=>f i==g i)):=by
 refine bT Tryz.func80 rfl 26 rfl bB rfl λ k=>?_;obtain⟨E,eE⟩:∃E,E=oL n m (λ i=>f i==g i):=⟨_,rfl⟩;rw[<-eE];have kp:=gZ k [0,1,4,5,10,14,25];refine wl ?_;refine oT (λ ht=>?_) λ ht=>?_;.refine bV rfl ⟨_,rfl,bC ?_⟩;rw[eE,qG oO]
 refine bY (X:=Nat) rfl [0,1,4,5,10,14,25] k (λ i=>[(5,i)]) (λ i=>[]) (λ i=>i<=n/\∀j,j<i->(f j==g j)=aB) (λ i=>n-i) 0 ?_ ⟨aZ _,λ j hj=>absurd hj (bO _)⟩ ?_;.refine rR ?_;apply zN;exact pQ
 rintro i ⟨hi,hall⟩;refine rR ?_;apply zN;refine wl ?_;refine jV ⟨λ ht ht=>zN ?_⟩ ⟨λ ht ht=>zN ?_⟩ ⟨λ ht=>zN ?_⟩;.refine bV rfl ⟨_,rfl,bC ?_⟩;rw[eE,qH (i:=i) oO (by first|(rw[gB];simp at ht⊢;omega)|(simpa using ht))]
 .refine⟨i+1,⟨oO,λ j hj=>?_⟩,oO,?_⟩
  .by_cases he:j=i;.subst he;first|(simp;omega)|(simpa using ht)
   exact hall j oO
  exact pQ
 refine bV rfl ⟨_,rfl,bC ?_⟩;rw[eE,jY oO (λ j hj=>hall j oO)]
theorem sLT(n m:Nat)(hn:n<=1000)(hm:m<=1000)(f g:Nat->Tk):AM.Pure aD Γ 142 [.rd 8 n (λ i=>tR (f i)),.rd 8 m (λ i=>tR (g i))] (oL n m (λ i=>cT (f i) (g i))):=by
 refine bT Tryz.func142 rfl 26 rfl bB rfl λ k=>?_;obtain⟨E,eE⟩:∃E,E=oL n m (λ i=>cT (f i) (g i)):=⟨_,rfl⟩;rw[<-eE];have kp:=gZ k [0,1,4,5,10,14,25];refine wl ?_;refine oT (λ ht=>?_) λ ht=>?_;.refine bV rfl ⟨_,rfl,bC ?_⟩;rw[eE,qG oO]
 refine bY (X:=Nat) rfl [0,1,4,5,10,14,25] k (λ i=>[(5,i)]) (λ i=>[]) (λ i=>i<=n/\∀j,j<i->(cT (f j) (g j))=aB) (λ i=>n-i) 0 ?_ ⟨aZ _,λ j hj=>absurd hj (bO _)⟩ ?_;.refine rR ?_;apply zN;exact pQ
 rintro i ⟨hi,hall⟩;refine rR ?_;apply zN;refine wl ?_;refine jV ⟨λ ht ht=>zN ?_⟩ ⟨λ ht ht=>zN ?_⟩ ⟨λ ht=>zN ?_⟩;.refine bV rfl ⟨_,rfl,bC ?_⟩;rw[eE,qH (i:=i) oO (by first|(rw[gB];simp[cT]at ht⊢;omega)|(simpa [cT]using ht))]
 .refine⟨i+1,⟨oO,λ j hj=>?_⟩,oO,?_⟩
  .by_cases he:j=i;.subst he;first|(simp[cT];omega)|(simpa [cT]using ht)
   exact hall j oO
  exact pQ
 refine bV rfl ⟨_,rfl,bC ?_⟩;rw[eE,jY oO (λ j hj=>hall j oO)]
theorem sLS(n m:Nat)(hn:n<=1000)(hm:m<=1000)(f g:Nat->Sp):AM.Pure aD Γ 143 [.rd 3 n (λ i=>sR (f i)),.rd 3 m (λ i=>sR (g i))] (oL n m (λ i=>cS (f i) (g i))):=by
 refine bT Tryz.func143 rfl 26 rfl bB rfl λ k=>?_;obtain⟨E,eE⟩:∃E,E=oL n m (λ i=>cS (f i) (g i)):=⟨_,rfl⟩;rw[<-eE];have kp:=gZ k [0,1,4,5,10,14,25];refine wl ?_;refine oT (λ ht=>?_) λ ht=>?_;.refine bV rfl ⟨_,rfl,bC ?_⟩;rw[eE,qG oO]
 refine bY (X:=Nat) rfl [0,1,4,5,10,14,25] k (λ i=>[(5,i)]) (λ i=>[]) (λ i=>i<=n/\∀j,j<i->(cS (f j) (g j))=aB) (λ i=>n-i) 0 ?_ ⟨aZ _,λ j hj=>absurd hj (bO _)⟩ ?_;.refine rR ?_;apply zN;exact pQ
 rintro i ⟨hi,hall⟩;refine rR ?_;apply zN;refine wl ?_;refine jV ⟨λ ht ht=>zN ?_⟩ ⟨λ ht ht=>zN ?_⟩ ⟨λ ht=>zN ?_⟩;.refine bV rfl ⟨_,rfl,bC ?_⟩;rw[eE,qH (i:=i) oO (by first|(rw[gB];simp[cS]at ht⊢;omega)|(simpa [cS]using ht))]
 .refine⟨i+1,⟨oO,λ j hj=>?_⟩,oO,?_⟩
  .by_cases he:j=i;.subst he;first|(simp[cS];omega)|(simpa [cS]using ht)
   exact hall j oO
  exact pQ
 refine bV rfl ⟨_,rfl,bC ?_⟩;rw[eE,jY oO (λ j hj=>hall j oO)]
theorem sLG(n m:Nat)(hn:n<=1000)(hm:m<=1000)(f g:Nat->Int×Int):AM.Pure aD Γ 214 [.rd 2 n (λ i=>mK (f i)),.rd 2 m (λ i=>mK (g i))] (oL n m (λ i=>cV (f i) (g i))):=by
 refine bT Tryz.func214 rfl 26 rfl bB rfl λ k=>?_;obtain⟨E,eE⟩:∃E,E=oL n m (λ i=>cV (f i) (g i)):=⟨_,rfl⟩;rw[<-eE];have kp:=gZ k [0,1,4,5,10,14,25];refine wl ?_;refine oT (λ ht=>?_) λ ht=>?_;.refine bV rfl ⟨_,rfl,bC ?_⟩;rw[eE,qG oO]
 refine bY (X:=Nat) rfl [0,1,4,5,10,14,25] k (λ i=>[(5,i)]) (λ i=>[]) (λ i=>i<=n/\∀j,j<i->(cV (f j) (g j))=aB) (λ i=>n-i) 0 ?_ ⟨aZ _,λ j hj=>absurd hj (bO _)⟩ ?_;.refine rR ?_;apply zN;exact pQ
 rintro i ⟨hi,hall⟩;refine rR ?_;apply zN;refine wl ?_;refine jV ⟨λ ht ht=>zN ?_⟩ ⟨λ ht ht=>zN ?_⟩ ⟨λ ht=>zN ?_⟩;.refine bV rfl ⟨_,rfl,bC ?_⟩;rw[eE,qH (i:=i) oO (by first|(rw[gB];simp[cV]at ht⊢;omega)|(simpa [cV]using ht))]
 .refine⟨i+1,⟨oO,λ j hj=>?_⟩,oO,?_⟩
  .by_cases he:j=i;.subst he;first|(simp[cV];omega)|(simpa [cV]using ht)
   exact hall j oO
  exact pQ
 refine bV rfl ⟨_,rfl,bC ?_⟩;rw[eE,jY oO (λ j hj=>hall j oO)]
end
theorem a7K(n m:Nat)(hn:n<=1000)(hm:m<=1000)(f g:Nat->Tk):AM.Pure aD Γ 81 [.rd 8 n (λ i=>tR (f i)),.rd 8 m (λ i=>tR (g i))] (oL n m (λ i=>cT (f i) (g i))):=by
 refine bT Tryz.func81 rfl 8 rfl bB rfl λ k=>?_;obtain⟨E,eE⟩:∃E,E=oL n m (λ i=>cT (f i) (g i)):=⟨_,rfl⟩;rw[<-eE];have kp:=gZ k [0,1,4];refine wl ?_;refine cA ?_;refine cl [.ret E] ?_;refine iE ?_ ?_;.rw[eE];exact sLT n m hn hm f g
 refine bV rfl ⟨_,rfl,bC ?_⟩;rfl
theorem a7L(n m:Nat)(hn:n<=1000)(hm:m<=1000)(f g:Nat->Sp):AM.Pure aD Γ 82 [.rd 3 n (λ i=>sR (f i)),.rd 3 m (λ i=>sR (g i))] (oL n m (λ i=>cS (f i) (g i))):=by
 refine bT Tryz.func82 rfl 8 rfl bB rfl λ k=>?_;obtain⟨E,eE⟩:∃E,E=oL n m (λ i=>cS (f i) (g i)):=⟨_,rfl⟩;rw[<-eE];have kp:=gZ k [0,1,4];refine wl ?_;refine cA ?_;refine cl [.ret E] ?_;refine iE ?_ ?_;.rw[eE];exact sLS n m hn hm f g
 refine bV rfl ⟨_,rfl,bC ?_⟩;rfl
theorem a0F(n m:Nat)(hn:n<=1000)(hm:m<=1000)(f g:Nat->Int×Int):AM.Pure aD Γ 141 [.rd 2 n (λ i=>mK (f i)),.rd 2 m (λ i=>mK (g i))] (oL n m (λ i=>cV (f i) (g i))):=by
 refine bT Tryz.func141 rfl 8 rfl bB rfl λ k=>?_;obtain⟨E,eE⟩:∃E,E=oL n m (λ i=>cV (f i) (g i)):=⟨_,rfl⟩;rw[<-eE];have kp:=gZ k [0,1,4];refine wl ?_;refine cA ?_;refine cl [.ret E] ?_;refine iE ?_ ?_;.rw[eE];exact sLG n m hn hm f g
 refine bV rfl ⟨_,rfl,bC ?_⟩;rfl
def cfE(a b:St):Bool:=a.cpus==b.cpus&&(a.credit==b.credit&&oL a.ng b.ng (λ i=>cV (a.par i,a.wt i) (b.par i,b.wt i)))
def kE(a b:St):Bool:=oL a.nk b.nk (λ i=>a.clk i==b.clk i)
def uE(a b:St):Bool:=oL a.nu b.nu (λ i=>a.cur i==b.cur i)
def tE(a b:St):Bool:=oL a.nt b.nt (λ i=>cT (a.tsk i) (b.tsk i))
def gE(a b:St)(g:Nat):Bool:=oL (a.nsp g) (b.nsp g) (λ i=>cS (a.sp g i) (b.sp g i))
def stE(a b:St):Bool:=cfE a b&&(kE a b&&(uE a b&&(tE a b&&oL a.ns b.ns (gE a b))))
theorem VJ{a b:St}(ha:Nrm a)(hb:Nrm b):stE a b=aB↔a=b:=by
 simp only[stE,cfE,kE,uE,tE,aH,beq_iff_eq,aKX,cV_iff,cT_iff,gE,a9X,Prod.mk.injEq];constructor
 .rintro⟨⟨h1,h2,h3,h4⟩,⟨h5,h6⟩,⟨h7,h8⟩,⟨h9,h10⟩,h11,h12⟩
  have hs:∀g,a.nsp g=b.nsp g:=λ g=>by
   by_cases hg:g<a.ns;.exact(h12 g hg).1
   rw[ha.n g oO,hb.n g oO]
  refine aHY h1 h2 h3 (funext λ i=>?_) (funext λ i=>?_) h5 (funext λ i=>?_) h7 (funext λ i=>?_) h9 (funext λ i=>?_) h11 (funext hs) (funext λ g=>funext λ c=>?_)
  .by_cases hi:i<a.ng;.exact(h4 i hi).1
   rw[(ha.g i oO).1,(hb.g i oO).1]
  .by_cases hi:i<a.ng;.exact(h4 i hi).2
   rw[(ha.g i oO).2,(hb.g i oO).2]
  .by_cases hi:i<a.nk;.exact h6 i hi
   rw[ha.k i oO,hb.k i oO]
  .by_cases hi:i<a.nu;.exact h8 i hi
   rw[ha.u i oO,hb.u i oO]
  .by_cases hi:i<a.nt;.exact h10 i hi
   rw[ha.t i oO,hb.t i oO]
  by_cases hg:g<a.ns
  .by_cases hc:c<a.nsp g;.exact(h12 g hg).2 c hc
   rw[ha.s g c oO,hb.s g c (by rw[<-hs g];omega)]
  have h0:=ha.n g oO;rw[ha.s g c oO,hb.s g c (by rw[<-hs g];omega)]
 rintro rfl;simp
theorem a0G(a b:St)(ha:a.Small)(hb:b.Small):AM.Pure aD Γ 79 [.agg a.cfg,.agg b.cfg] (cfE a b):=by
 obtain⟨z,ez⟩:∃z,z=oL a.ng b.ng (λ i=>cV (a.par i,a.wt i) (b.par i,b.wt i)):=⟨_,rfl⟩;have hgr:=a0F (Γ:=Γ) a.ng b.ng ha.ng hb.ng (λ i=>(a.par i,a.wt i)) (λ i=>(b.par i,b.wt i));rw[<-ez]at hgr;unfold cfE;rw[<-ez];refine bT Tryz.func79 rfl 24 rfl bB rfl λ k=>?_;have kp:=gZ k [0,1,2,3,4];refine wl ?_;refine cA ?_;refine cl [.ret z] ?_;refine CM ⟨⟨λ hg hg=>⟨?_⟩⟩⟩ ⟨⟨λ hg hg=>⟨?_⟩⟩⟩ ⟨⟨λ hg hg=>⟨?_⟩⟩⟩ ⟨⟨λ hg=>⟨?_⟩⟩⟩;.exact hgr
 all_goals(refine bV rfl ⟨_,rfl,bC ?_⟩;simp_all)
theorem aEF(a b:St)(ha:a.Small)(hb:b.Small):AM.Pure aD Γ 25 [.agg a.cells,.agg b.cells] (stE a b):=by
 have h0:=a0G (Γ:=Γ) a b ha hb;have h1:=a5O (Γ:=Γ) a.nk b.nk ha.nk hb.nk a.clk b.clk;have h2:=a5O (Γ:=Γ) a.nu b.nu ha.nu hb.nu a.cur b.cur;have h3:=a7K (Γ:=Γ) a.nt b.nt ha.nt hb.nt a.tsk b.tsk;obtain⟨z0,e0⟩:∃z,z=cfE a b:=⟨_,rfl⟩;obtain⟨z1,e1⟩:∃z,z=kE a b:=⟨_,rfl⟩;obtain⟨z2,e2⟩:∃z,z=uE a b:=⟨_,rfl⟩;obtain⟨z3,e3⟩:∃z,z=tE a b:=⟨_,rfl⟩;unfold stE;rw[<-e0,<-e1,<-e2,<-e3];rw[<-e0]at h0;rw[show oL a.nk b.nk (λ i=>a.clk i==b.clk i)=z1 from e1.symm]at h1;rw[show oL a.nu b.nu (λ i=>a.cur i==b.cur i)=z2 from e2.symm]at h2;rw[show oL a.nt b.nt (λ i=>cT (a.tsk i) (b.tsk i))=z3 from e3.symm]at h3;obtain⟨E,eE⟩:∃E,E=oL a.ns b.ns (gE a b):=⟨_,rfl⟩;rw[<-eE];obtain⟨hng,hnk,hnu,hnt,hns,hnsp⟩:=ha;obtain⟨hng',hnk',hnu',hnt',hns',hnsp'⟩:=hb;refine bT Tryz.func25 rfl 64 rfl bB rfl λ k=>?_;have kp:=gZ k [0,1,2,3,4,5,44,49,63];refine wl ?_;refine cA ?_;refine cl [.ret z0,.ret z1,.ret z2,.ret z3] ?_;refine zq9 (zs ?_) ⟨⟨λ hg=>⟨?_⟩⟩⟩ ⟨⟨λ hg hg=>⟨?_⟩⟩⟩ ⟨⟨λ hg hg hg=>⟨?_⟩⟩⟩ ⟨⟨λ hg hg hg hg=>⟨?_⟩⟩⟩ ⟨⟨λ hg hg hg hg=>⟨?_⟩⟩⟩ ⟨⟨λ hg hg hg=>⟨?_⟩⟩⟩ ⟨⟨λ hg hg=>⟨?_⟩⟩⟩ ⟨⟨λ hg=>⟨?_⟩⟩⟩;all_goals(try(first|exact h0|exact h1|exact h2|exact h3))
 .by_cases hns3:a.ns=b.ns
  .have hns2:((a.ns:Int)!=(b.ns:Int))=aE:=by simp[hns3]
   have uU:=hns2;refine wl ?_;refine dI λ ht=>?_;refine bY (X:=Nat) rfl [0,1,2,3,4,5,44,49,63] (k+2) (λ i=>[(5,i)]) (λ i=>[(k+1,⟨7,aB,[b.cells]⟩),(k,⟨7,aB,[a.cells]⟩)]) (λ i=>i<=a.ns/\∀j,j<i->gE a b j=aB) (λ i=>a.ns-i) 0 ?_ ⟨aZ _,λ j hj=>absurd hj (bO _)⟩ ?_;.refine rR ?_;apply zN;(have uU:=hns2;exact qT)
   rintro i ⟨hi,hall⟩;have uU:=Go.AM.uU;refine rR ?_;apply zN;refine wl ?_;refine oT (λ ht=>?_) λ ht=>?_
   .have hi2:=hnsp i oO;have hi3:=hnsp' i oO;have hsp:=a7L (Γ:=Γ) (a.nsp i) (b.nsp i) hi2 hi3 (a.sp i) (b.sp i);obtain⟨w,ew⟩:∃w,w=gE a b i:=⟨_,rfl⟩;rw[show oL (a.nsp i) (b.nsp i) (λ c=>cS (a.sp i c) (b.sp i c))=w from ew.symm]at hsp;refine dl [.ret w] ?_;refine iE ?_ ?_;all_goals(try omega)
    .exact hsp
    refine wl ?_;refine oT (λ ht=>?_) λ ht=>?_;.refine bV rfl ⟨_,rfl,bC ?_⟩;rw[eE,qH (i:=i) oO (by rw[<-ew];simp_all)];simp
    refine⟨i+1,⟨oO,λ j hj=>?_⟩,oO,?_⟩
    .by_cases he:j=i;.subst he;rw[<-ew];simp_all
     exact hall j oO
    refine rR ?_;apply zN;exact pQ
   refine bV rfl ⟨_,rfl,bC ?_⟩;have hE:E=aB:=by rw[eE,jY hns3 λ j hj=>hall j oO]
   simp_all
  have hns2:((a.ns:Int)!=(b.ns:Int))=aB:=by simp;omega
  have uU:=hns2;refine wl ?_;refine dI λ ht=>?_;refine bV rfl ⟨_,rfl,bC ?_⟩;rw[eE,qG hns3];simp
 all_goals((refine wl ?_;refine dI λ ht=>?_))
 all_goals(refine bV rfl ⟨_,rfl,bC ?_⟩;simp_all)
theorem aBY(hw:AM.Pure aD Γ 13 [] aB)(x:Nums)(hx:NumsOk x)(f:Nat->Sm)(hf:∀i,SmOk (f i))(nl:Nat)(hnl:nl<=9223372036854775807)(z:Int)(hz0:0<=z)(hz1:z<=255):
 AM.Pure aD Γ 8 [.agg x.cells,.rd 8 nl (λ i=>smc (f i)),.lit (.int .u8 z)] aB:=by
 obtain⟨n,ng,Ls,hM⟩:=aAO (Γ:=Γ) x hx f hf;obtain⟨q,hq⟩:∃q,q=min nl 40:=⟨_,rfl⟩;obtain⟨c,hc⟩:∃c:Nat,z%((q:Int)+1)=(c:Int):=⟨(z%((q:Int)+1)).toNat,(gA (RZ _ oO)).symm⟩;have hcq:c<=q:=by have:=rU z (oO:(0:Int)<(q:Int)+1);omega
 have hmade:=hM.made nl z q c hq hnl hz0 hz1 hc;have ma:=hM.ms (i:=c) oO;have mb:=hM.ms (i:=q) oO;have h2:=hM.two (i:=c) (j:=q) oO oO;clear hM;obtain⟨a,ea⟩:∃a,a=(Ls c).st:=⟨_,rfl⟩;obtain⟨b,eb⟩:∃b,b=(Ls q).st:=⟨_,rfl⟩;rw[<-ea]at hmade ma h2;rw[<-eb]at hmade mb h2;clear ea eb;have hab:=aCN (Γ:=Γ) ma mb h2;have hba:=aCN (Γ:=Γ) mb ma h2.swap;have haa:=aCN (Γ:=Γ) ma ma (LV ma);have pab:=aXS (Γ:=Γ) ma mb h2;have pba:=aXS (Γ:=Γ) mb ma h2.swap;have paa:=aXS (Γ:=Γ) ma ma (LV ma);have sa:=aEF (Γ:=Γ) a a ma.pre.sm ma.pre.sm;have sb:=aEF (Γ:=Γ) b b mb.pre.sm mb.pre.sm;rw[(VJ ma.nrm ma.nrm).2 rfl]at sa;rw[(VJ mb.nrm mb.nrm).2 rfl]at sb;have sab:=aEF (Γ:=Γ) a b ma.pre.sm mb.pre.sm;have zab:=yO ma mb;have zaa:=yO ma ma;have hl:=h2.lens;have hz:stE a b=decide (((tI (btw a b)).size:Int)=0):=by rw[bH,VJ ma.nrm mb.nrm,<-h2.zero,decide_eq_true_iff];omega
 have hn0:(tI (btw a a)).size=0:=(LV ma).zero.2 rfl;obtain⟨D,eD⟩:∃D,D=tI (btw a b):=⟨_,rfl⟩;obtain⟨B,eB⟩:∃B,B=tI (btw b a):=⟨_,rfl⟩;obtain⟨N,eN⟩:∃N,N=tI (btw a a):=⟨_,rfl⟩;rw[<-eD]at hab pab zab hl hz;rw[<-eB]at hba pba hl;rw[<-eN]at haa paa zaa hn0;clear eD eB eN;have sz:=IOq (Γ:=Γ) D oO;have sn:=IOq (Γ:=Γ) N oO;rw[hn0]at sn;have qd:=aKW (Γ:=Γ) D D oO oO;rw[PI]at qd;obtain⟨zz,ezz⟩:∃y,y=stE a b:=⟨_,rfl⟩;rw[<-ezz]at sab hz;obtain⟨dn,edn⟩:∃y:Int,y=(D.size:Int):=⟨_,rfl⟩;rw[<-edn]at sz hz;have l0:(D.n0:Int)=B.n0:=by rw[hl.1]
 have l5:(D.n5:Int)=B.n5:=by rw[hl.2]
 simp only[Nums.cells]at hmade;refine bT Tryz.func8 rfl 149 rfl bB rfl λ k=>?_;have h00:((0:Int)!=0)=aE:=rfl;have hzz:(dn==0)=zz:=by rw[hz,bH];simp
 have hl0:=l0;have kp:=gZ k [0,1,2,3,6,7,8,9,10,11,12,13,14,15,16,17,18,19,20,21,22,23,25,108];have uU:=zA @Nums.cells.eq_1 h00;refine wl ?_;refine cA ?_;refine cl [.ret aB] ?_;refine cA ?_;all_goals(try exact hw)
 refine wl ?_;refine dI λ ht=>?_;refine cl [.ret (.tup [.agg a.cells,.agg b.cells,aB])] ?_;refine iE ?_ ?_;all_goals(try exact hmade)
 refine wl ?_;refine cA ?_;refine cl [.ret (.tup [.agg D.cells,(0:Int)])] ?_;refine iE ?_ ?_;all_goals(try exact hab)
 refine wl ?_;refine cA ?_;refine cl [.ret (.tup [.agg B.cells,(0:Int)])] ?_;refine iE ?_ ?_;all_goals(try exact hba)
 refine wl ?_;refine cA ?_;refine cl [.ret (.tup [.agg b.cells,(0:Int)])] ?_;refine iE ?_ ?_;all_goals(try exact pab)
 refine wl ?_;refine cA ?_;refine cl [.ret (.tup [.agg a.cells,(0:Int)])] ?_;refine iE ?_ ?_;all_goals(try exact pba)
 refine wl ?_;refine cA ?_;refine cl [.ret (.tup [.agg N.cells,(0:Int)])] ?_;refine iE ?_ ?_;all_goals(try exact haa)
 refine wl ?_;refine cA ?_;refine cl [.ret (.tup [.agg a.cells,(0:Int)])] ?_;refine iE ?_ ?_;all_goals(try exact paa)
 refine wl ?_;refine cA ?_;refine cl [.ret aB,.ret aB,.ret aB,.ret (0:Int)] ?_;refine zq6 ⟨⟨λ hg=>⟨?_⟩⟩⟩ ⟨⟨λ hg=>⟨?_⟩⟩⟩ ⟨⟨λ hg=>⟨?_⟩⟩⟩ ⟨⟨λ hg=>⟨?_⟩⟩⟩ ⟨⟨λ hg=>⟨?_⟩⟩⟩ ⟨⟨λ hg=>⟨?_⟩⟩⟩;all_goals(try(first|exact sa|exact sb|exact sn))
 all_goals(try exact absurd trivial ‹¬True›)
 refine wl ?_;refine dI λ ht=>?_;refine cl [.ret (.tup [.agg D.cells,(0:Int)])] ?_;refine iE ?_ ?_;all_goals(try exact hab)
 refine wl ?_;refine cA ?_;refine dl [.ret aB,.ret dn,.ret zz] ?_;refine zq5 (zs ?_) (zs ?_) (zs ?_) ⟨⟨λ hg hg=>⟨?_⟩⟩⟩ ⟨⟨λ hg=>⟨?_⟩⟩⟩;all_goals(try(first|exact qd|exact sz|exact sab))
 all_goals(try exact absurd trivial ‹¬True›)
 .refine bV rfl ⟨_,rfl,bC ?_⟩;simp[l5]
 all_goals(exact absurd (by first|exact hzz|exact hl0|decide) hg)
end Go.Proofs.T
end
section
namespace Go.Proofs.T
open Go Go.AM Go.Proofs Go.ChangeMaps Go.ChangeShapes Go.WideShapes Go.ChangeAt Go.WideMaps Go.WideElems Go.RowKit Go.Proofs.YteimiejbhhgljaaGreatDoor
theorem aGS{Γ:dL}(hG:GT Γ)(x:Nums)(hx:NumsOk x)(f:Nat->Sm)(hf:∀i,SmOk (f i))(nl:Nat)(hnl:nl<=9223372036854775807)(z:Int)(hz0:0<=z)(hz1:z<=255):AM.Pure aD Γ 8 [.agg x.cells,.rd 8 nl (λ i=>smc (f i)),.lit (.int .u8 z)] aB:=aBY (aLM hG) x hx f hf nl hnl z hz0 hz1
theorem rowES(u:TypeId)(h:aD.typeName? 3 u=aA "*errors.errorString"):u=353:=by
 have star: "*"++ "errors.errorString"= "*errors.errorString":=by decide
 exact typeName_ptr_named (nm:= "errors.errorString") (by rw[star];kernel_rfl) iF (by decide) u (by rw[star];exact h)
theorem gt_of{W:World}(hL:laidMetH aD Rows.deltaLeadsRow.laid W)(hsh:W.ShapedOpen aD):∃Γ,GT Γ/\∀g cells,AM.look Γ g=aA cells->GlobIs W (λ b=>b<W.heap.size) g cells:=by
 have h1:laidMet aD [("internal/strconv.uint64pow10",Lib.tabData .u64 Lib.pow10Tab)] W:=laidMetH.filter (λ x=>x.1== "internal/strconv.uint64pow10") hL;have h2:laidMet aD [("strconv.ErrSyntax",Rows.laid_strconv_ErrSyntax)] W:=laidMetH.filter (λ x=>x.1== "strconv.ErrSyntax") hL;have h3:laidMet aD [("strconv.ErrRange",Rows.laid_strconv_ErrRange)] W:=laidMetH.filter (λ x=>x.1== "strconv.ErrRange") hL;have t1:=Lib.tabIs_of_head (g:=3) iF rfl rfl rfl iF iF h1;obtain⟨a2,_,v2, -, -, -⟩:=laid_sentinel (g:=0) h2 iF iF zY rowES zX zW rfl rfl jC iF iF;obtain⟨a3,_,v3, -, -, -⟩:=laid_sentinel (g:=1) h3 iF iF zY rowES zX zW rfl rfl jC iF iF;have g1:GlobIs W (λ b=>b<W.heap.size) 3 (Lib.pow10Tab.map λ z=> .lit (.int .u64 z)):=by have:=rG (g:=3) (cs:=Lib.pow10Tab.map λ z=>bA .u64 z) iF t1;rw[jM]at this;exact this
 have g2:=rG (g:=0) (cs:=[Value.iface 353 (.pointer (aA a2))]) iF v2;have g3:=rG (g:=1) (cs:=[Value.iface 353 (.pointer (aA a3))]) iF v3;obtain⟨m,g4⟩:=OY (g:=2) (t:=3) (k:= .i64) (zero:= #[.int .i64 0]) hsh (of_decide_eq_true iF) iF rfl iF iF jT;refine⟨[(3,Lib.pow10Tab.map λ z=> .lit (.int .u64 z)),(0,[.lit (.iface 353 (.pointer (aA a2)))]),(1,[.lit (.iface 353 (.pointer (aA a3)))]),(2,[m])],⟨rfl,⟨_,_,rfl⟩,⟨_,_,rfl⟩,⟨_,rfl⟩⟩,λ g cells hg=>?_⟩;simp only[AM.look]at hg;split at hg;.rename_i e;subst e;cases hg;exact g1
 split at hg;.rename_i e;subst e;cases hg;exact g2
 split at hg;.rename_i e;subst e;cases hg;exact g3
 split at hg;.rename_i e;subst e;cases hg;exact g4
 cases hg
end Go.Proofs.T
end
section
namespace Go.Proofs.T
open Go Go.Proofs Go.Proofs.YteimiejbhhgljaaGreatDoor
theorem jf0:(Rows.deltaLeadsRow.wf (OpenSpec.ofChange Rows.deltaLeadsSpec))=aB:=by kernel_rfl
theorem jf1:(laidOutB aD)=aB:=by kernel_rfl
theorem jf2:(mapsRowed aD)=aB:=by kernel_rfl
theorem jf3:(wE.params.all (aD.readableRec ·))=aB:=by kernel_rfl
theorem jf4:(namedTie aD Rows.deltaLeadsRow.named Rows.deltaLeadsSpec.vars)=aB:=by kernel_rfl
theorem jf5:((Rows.deltaLeadsRow.stops==[]))=aB:=by kernel_rfl
theorem jf6:((aD.stops==[]))=aB:=by kernel_rfl
theorem jf7:((Rows.deltaLeadsRow.knobs==[]))=aB:=by kernel_rfl
theorem jf8:((aD.stopKnobs==[]))=aB:=by kernel_rfl
theorem jf9:((Rows.deltaLeadsRow.inPlace==aD.inPlace 8))=aB:=by kernel_rfl
theorem jf10:((Rows.deltaLeadsRow.unfollowed==aD.unfollowed 8))=aB:=by kernel_rfl
theorem jf11:((Rows.deltaLeadsRow.recurses==aD.recurses 8))=aB:=by kernel_rfl
theorem jf12:((Rows.deltaLeadsRow.named==aD.varsNamed 8))=aB:=by kernel_rfl
theorem jf13:((Rows.deltaLeadsRow.maps==(wE.params.toList++Rows.deltaLeadsSpec.plain.varTypes aD).any (aD.mapsRec ·)))=aB:=by kernel_rfl
theorem jf14:((Rows.deltaLeadsRow.ifaces==(wE.params.toList++Rows.deltaLeadsSpec.plain.varTypes aD).any (aD.ifacesRec ·)))=aB:=by kernel_rfl
theorem jf15:((Rows.deltaLeadsRow.mapsOut==aD.mapsAmong wE.resultTypes.toList))=aB:=by kernel_rfl
theorem jf16:((Rows.deltaLeadsRow.loops==(wE.params.toList++Rows.deltaLeadsSpec.plain.varTypes aD).any (aD.loopsFrom ·)))=aB:=by kernel_rfl
theorem jf17:((Rows.deltaLeadsRow.wideKeys==(wE.params.toList++Rows.deltaLeadsSpec.plain.varTypes aD++wE.resultTypes.toList).any (aD.wideKeysFrom ·)))=aB:=by kernel_rfl
theorem jf18:(Rows.deltaLeadsSpec.vars.all (aD.varReadable ·))=aB:=by kernel_rfl
theorem jf19:(wE.resultTypes.all (λ t=>aD.readableRec t&&decide (t<aD.types.size)))=aB:=by kernel_rfl
theorem jf20:((Rows.deltaLeadsRow.ifacesOut==wE.resultTypes.toList.any (aD.ifacesRec ·)))=aB:=by kernel_rfl
theorem jf21:((Rows.deltaLeadsRow.loopsOut==wE.resultTypes.toList.any (aD.loopsFrom ·)))=aB:=by kernel_rfl
theorem jf22:((Rows.deltaLeadsRow.plainKeys==aD.plainKeys))=aB:=by kernel_rfl
theorem jf23:(Rows.deltaLeadsRow.shortTexts.isNone)=aB:=by kernel_rfl
theorem jf24:(aD.stopsHeard)=aB:=by kernel_rfl
theorem jf25:(aD.mayEnter)=aB:=by kernel_rfl
theorem jf26:((Rows.deltaLeadsRow.lifted==aD.liftsFinal))=aB:=by kernel_rfl
theorem jf27:((aD.make==aA Rows.deltaLeadsRow.make))=aB:=by kernel_rfl
theorem jf28:((Rows.deltaLeadsRow.kinds==(if Rows.deltaLeadsRow.domain.isEmpty then []else wE.params.toList.map λ t=>match aD.underlying t with|some (.int k)=>aA k|_=>aC)))=aB:=by kernel_rfl
theorem jf29:((Rows.deltaLeadsRow.pinned==Rows.deltaLeadsRow.pinnedBy))=aB:=by kernel_rfl
theorem jf30:((Rows.deltaLeadsRow.veiled==(wE.params.toList++Rows.deltaLeadsSpec.plain.varTypes aD++wE.resultTypes.toList).any (aD.veiledRec ·)))=aB:=by kernel_rfl
theorem jf31:(Rows.deltaLeadsRow.veiledFits aD wE.params.toList (wE.params.toList++Rows.deltaLeadsSpec.plain.varTypes aD++wE.resultTypes.toList))=aB:=by kernel_rfl
theorem jf:joinedFacts aD 8 wE Rows.deltaLeadsSpec Rows.deltaLeadsRow=aB:=by unfold joinedFacts;simp only[aH];exact⟨⟨⟨⟨⟨⟨⟨⟨⟨⟨⟨⟨⟨⟨⟨⟨⟨⟨⟨⟨⟨⟨⟨⟨⟨⟨⟨⟨⟨⟨⟨jf0,jf1⟩,jf2⟩,jf3⟩,jf4⟩,jf5⟩,jf6⟩,jf7⟩,jf8⟩,jf9⟩,jf10⟩,jf11⟩,jf12⟩,jf13⟩,jf14⟩,jf15⟩,jf16⟩,jf17⟩,jf18⟩,jf19⟩,jf20⟩,jf21⟩,jf22⟩,jf23⟩,jf24⟩,jf25⟩,jf26⟩,jf27⟩,jf28⟩,jf29⟩,jf30⟩,jf31⟩
end Go.Proofs.T
end
section
namespace Go.Proofs.T
open Go Go.AM Go.Proofs Go.ChangeMaps Go.ChangeShapes Go.WideShapes Go.ChangeAt Go.WideMaps Go.WideElems Go.RowKit Go.Proofs.YteimiejbhhgljaaGreatDoor
def zeroNums:Value:= .agg #[.int .u8 0,.int .u8 0,.int .u32 0,.int .u8 0,.int .u8 0,.int .u8 0,.int .u8 0,.int .u8 0,.int .u16 0,.int .u16 0,.int .u16 0,.int .u16 0,.int .u16 0]
theorem liftedRw(os:Os)(started:os.Started)(H:Type)(enc:TypeId×Value->H):
 ReturnsInHanded {} bKQ os 8 .any (λ w args=>(Rows.deltaLeadsSpec.pre enc aD wE [] aE w args/\laidMetH aD Rows.deltaLeadsRow.laid w)/\sizedMet enc aD wE (OpenSpec.ofChange Rows.deltaLeadsSpec) aE w args)
  (Rows.deltaLeadsSpec.post enc aD wE aE aB aE aE):=by
 refine ZM (C:=bKQ) (X:=λ w _=>laidMetH aD Rows.deltaLeadsRow.laid w) (λ _ _ _ hh h=>h.of_heap hh) bCJ started iF Tryz.func8
  (ChangeSpec.witness_shaped (enc:=enc) (C:=bKQ) (os:=os) (X:=λ w _=>laidMetH aD Rows.deltaLeadsRow.laid w) aE (World.laidAll aD os Rows.deltaLeadsRow.laid) #[zeroNums,.slice aC 0 0,.int .u8 0] 8 (World.laidAll_os _ _ _) (World.shaped_of_ZipB iF iF) iF iF iF
    (by rw[MakeChecks.laidMetH_plain _ _ _ iF];exact laidMet_laidAll _ iF iF)) ?_
 intro W base args ds gs before hval0 hW hsh hL;have hval:∀(j:Nat) t v,wE.params[j]? =aA t->args[j]? =aA v->bKN aD W .any base t v:=hval0;have hW':=hW;obtain⟨p,q,hA0,hV,rfl,hfz,hnd⟩:=hW;have hA:DataW.TrodAll enc aD W 0 (λ _=>aB) aB wE.params.toList args.toList ds p:=hA0;rw[Tryz.params8]at hA hval;obtain⟨v0,v1,v2,d0,d1,d2,p0,p1,p2,rfl,rfl,rfl,h0,h1,h2⟩:=trodAll_three hA;obtain⟨rfl,rfl⟩:=trodVars_none hV;clear hA0 hval0;obtain⟨x,hx,hv0⟩:=aJG (hval 0 55 v0 rfl rfl) h0;obtain⟨n,f,hn,hf,hv1⟩:=SO (hval 1 56 v1 rfl rfl) h1;obtain⟨z,rfl,rfl,rfl,hz⟩:=open_int dH (hval 2 5 v2 rfl rfl) h2;have hz':=sZ hz;obtain⟨Γ,hG,hΓ⟩:=gt_of hL hsh;refine(ST hΓ (aGS hG x hx f hf n hn z hz'.1 hz'.2) (aQO hv0 hv1 (.lit (v:= .int .u8 z)))).mono λ e W' ⟨he,hb⟩=>?_;subst he;have hlt0:∀x∈p0,x.block<W.heap.size:=λ x hx=>hW'.lt x (by simp[hx]);have hlt1:∀x∈p1,x.block<W.heap.size:=λ x hx=>hW'.lt x (by simp[hx]);refine⟨_,rfl,_,_,_,[],p0++(p1++[]),[],hW',?_,?_,rfl,EI hb _,λ h=>by cases h⟩;.exact trodAll_mk1 (shut_bool mB aB)
 exact trodAll_mk3 (Below.trod MA iF (of_decide_eq_true iF) h0 hb hlt0) (Below.trod MA iF (of_decide_eq_true iF) h1 hb hlt1) (shut_int dH hz)
theorem deltaLeads_holds:Rows.DeltaLeadsSaid:=
 OpenClaim.holds_of_wide 8 wE rfl rfl rfl rfl rfl rfl rfl ⟨rfl,rfl,rfl,rfl,rfl⟩ rfl rfl rfl rfl rfl iF Tryz.func8 jf
  (of_decide_eq_true iF) (by unfold Func.isWrapper;first|(rw[iP (by decide+kernel)];kernel_rfl)|(rw[iN (by decide+kernel)];exact⟨rfl,rfl⟩))
  (λ os started H enc _=>liftedRw os started H enc)
end Go.Proofs.T
end
