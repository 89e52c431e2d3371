import Derived.Test.YteimiejbhhgljaaGreatDoorZAL
set_option linter.unusedVariables false
set_option linter.unusedSimpArgs false
set_option maxHeartbeats 0
set_option maxRecDepth 100000
open Bool renaming and_false->KV,and_true->iC,false->aE,true->aB,true_and->lG
open Int renaming le_refl->bR,tmod_eq_emod_of_nonneg->dS,toNat_natCast->bP
open Go.IntKind renaming i64->aL,u32->lM,u64->aY,u8->fA
open List renaming all_cons->fU,all_nil->AA,cons_append->aV,getD->oH,getD_eq_getElem?_getD->aR,getElem_mem->JR,isEmpty_cons->YH,isEmpty_nil->bNX,map->rS,map_append->aM,map_cons->bI,map_map->jM,map_nil->bQ,mem_cons->eY,nil_append->aU,not_mem_nil->oS,range->aN
open Nat renaming add_assoc->gD,add_sub_cancel->a4V,add_sub_cancel_left->lE,le_refl->aF,le_succ->mF,lt_trichotomy->kA,mul_one->HW,sub_self->RX,sub_zero->iV,zero_le->aZ
open Option renaming some->aA
open Go.Proofs.Tryz renaming func88->RW,prog->aD
section
namespace Go.Proofs.T
open Go Go.AM Go.Proofs
variable{Γ:dL}
theorem aMU{id s i:Nat}{l:List (List AVal)}{H:aO}{B:Blk}(h:id≠i):xF (cL id s l H) i B=cL id s l (xF H i B):=by
 cases l with
 |nil=>rfl
 |cons a r=>simp only[cL,xF];rw[iN h]
theorem a4B{id k:Nat}{l:List (List AVal)}(h:id<k):bd (jS k) (dG id l)=aB:=aHJ (by simp only[jS,dTt];exact h)
theorem aXM{id k s:Nat}{l:List (List AVal)}{H:aO}(h:id<k):oM (jS k) (cL id s l H)=oM (jS k) H:=MP (by simp only[jS,dTt];exact h)
attribute [go_sem] aMU a4B aXM
theorem a7E(L:LSt)(n:Nat)(hS:Rt0 L n)(o:Opn)(hl:L.tl.length<1000)(hmk:0<=o.mask/\o.mask<18446744073709551616)(m tk k:Nat)(hm:m+6+L.sl.length<=tk)(hk:tk<k)(c g:Nat)(hc:o.cpu=(c:Int))(hgr:o.group=(g:Int))(hcn:c<n)(hg1:g<L.sl.length)(h2:1<=o.task/\o.task<=65535)(h4:1<=o.weight/\o.weight<=65536)(h5:¬o.mask=0)(h6:o.mask/2^n=0)(hr:FJ L o.task (-1))(h7:o.mask/2^c%2=1):OpOk Γ 88 L n o m tk k:=by
 have hnt:=hS.nt;have hcp:=hS.cpus;have hnu:=hS.nu;have hn1:=hS.n1;have hn64:=hS.n64;have hns:=hS.ns;have hng:=hS.ng;have hcpu:=cpu L o.cpu m tk (k+1) hm oO (Γ:=Γ);have htask:=KB o.task (Γ:=Γ);have hwgh:=wP o.weight (Γ:=Γ);have hwide:=aJK o.mask n hn1 hn64 hmk.1 hmk.2 (Γ:=Γ);rw[<-hcp]at hwide;rw[decide_eq_true oO,hc]at hcpu;rw[decide_eq_true h2]at htask;have hrow:=hS.rows g hg1;rw[decide_eq_true h4]at hwgh;rw[decide_eq_false (λ h=>h h6)]at hwide;have hfc:=find L o.task (-1) hr hS.sorted oO m tk (k+1) hm oO (Γ:=Γ);have hmb:aY.wrap ((BitVec.ofInt aY.bits (o.mask.fdiv (2^min c 64))&&&BitVec.ofInt aY.bits 1).toNat:Int)=o.mask/2^c%2:=by have:=qC (x:=o.mask) (c:=(c:Int)) hmk.1 hmk.2 oO oO;rwa [bP]at this
 have hneg:((c:Int)<0)=False:=eq_false oO;have hsa:=hS.sp g c hg1 hcn;obtain⟨T0,eT0⟩:∃T:Tk,T=⟨o.task,(g:Int),0,(c:Int),o.mask,aB,0,0⟩:=⟨_,rfl⟩;obtain⟨T,eT⟩:∃T:Tk,T=⟨o.task,(g:Int),o.weight,(c:Int),o.mask,aB,(L.sp g c).floor,0⟩:=⟨_,rfl⟩;have hT:TkOk L n T:=by rw[eT];exact⟨h2.1,h2.2,by show(0:Int)<=g;omega,by show(g:Int)<_;omega,by show(0:Int)<=c;omega,by show(c:Int)<n;omega,aLA h4.1 h4.2,hsa.2.2.2.2.1,hsa.2.2.2.2.2,bR _,hmk.1,hmk.2,h6,by show o.mask/2^((c:Int)).toNat%2=1;rw[bP];exact h7⟩
 have hTid:T.id=o.task:=by rw[eT]
 obtain⟨p,hp⟩:=aSL hS.sorted (id:=T.id) (λ i hi e=>by
  rcases hr with⟨_,h⟩|⟨j,_,h,_⟩;.exact h i hi (by rw[e,hTid])
  omega)
 obtain⟨hN,hNF⟩:=a8N hS hp hT hl;obtain⟨E,eE⟩:∃E,E=tG L L.sl.length g c:=⟨_,rfl⟩;have hE1:∀x,x∈E->0<x/\x<L.sl.length:=by rw[eE];exact zG hS hg1
 have hE2:E.length<=g:=by rw[eE];exact zH hS hg1
 have hemp:=empty L n c g hS hcn hg1 E eE m tk (k+1) hm oO (Γ:=Γ);have hwk:=hN.wake hcn (l:=E) hE1;have hplen:=hp.1;obtain⟨r,er⟩:∃r:Int,r=if p<L.tl.length then(p:Int)else-1:=⟨_,rfl⟩
 have hidx:=a8P L T p hp oO r er tk (k+2) (k+4) oO oO oO (Γ:=Γ);have hTc:tkc T=[.lit (.int .i64 o.task),.lit (.int .i64 (g:Int)),.lit (.int .i64 o.weight),.lit (.int .i64 (c:Int)),.lit (.int .u64 o.mask),.lit (.bool aB),.lit (.int .u64 (L.sp g c).floor),.lit (.int .u32 0)]:=by rw[eT];rfl
 have hT0c:tkc T0=[.lit (.int .i64 o.task),.lit (.int .i64 (g:Int)),.lit (.int .i64 0),.lit (.int .i64 (c:Int)),.lit (.int .u64 o.mask),.lit (.bool aB),.lit (.int .u64 0),.lit (.int .u32 0)]:=by rw[eT0];rfl
 have hput:=aNN T0 (L.sp g c).floor 0 o.weight [tkc T0] (k+2) 0 rfl oO oO (k+4) oO (Γ:=Γ);rw[show [tkc T0].set 0 (tkc {T0 with v:=(L.sp g c).floor,r:=0,weight:=o.weight})=[tkc T]by rw[eT0,eT];rfl]at hput;have hsin:=a0D (oJ L) (tkc T) L.tl.length p tk (k+4) (k+5) (tN _) hplen oO (aIN _) rfl oO oO oO (Γ:=Γ);rw[hTc]at hidx hput hsin;rw[hT0c]at hput;obtain⟨Nx,eN⟩:∃Nx,Nx=L.ins p T:=⟨_,rfl⟩;have eMH:=bAP (m:=m) (tk:=k+5) (L:=L) (T:=T) hplen;rw[hTc,<-eN]at eMH;rw[<-eN]at hN hNF hwk;have hNs:Nx.sl.length=L.sl.length:=hNF.ns;have hwc:=wake Nx n c hN hcn E (λ x hx=>by rw[hNs];exact hE1 x hx) oO m (k+5) (k+6) (k+7) oO oO oO (Γ:=Γ);have hWs:(oI Nx c E).sl.length=L.sl.length:=by rw[hwk.2.1.ns,hNs]
 refine⟨oI Nx c E,0,0,k+5,k+7,hwk.1,⟨hNF.trans hwk.2.1 (.inl (by rw[hwk.2.2])),.inl rfl⟩,oO,⟨oO,.inr oO⟩,oO,?_⟩;obtain⟨RH,eRH⟩:∃x:aO,x=MH m (k+5) (oI Nx c E):=⟨_,rfl⟩;obtain⟨RV,eRV⟩:∃x:AVal,x=jQ 0 0:=⟨_,rfl⟩;refine Tr.mono (dR (kk:=k+7) (V:=RV) (RH:=RH) oO (by rw[eRV];rfl) (by rw[eRH];exact fL oO oO) ?_) (λ _ _ _ h=>⟨h.1,h.2.1.trans eRV,h.2.2.trans eRH⟩);refine cN RW rfl 139 rfl bB ?_;simp only[MH,LH];have kp:Kp [0,1,3,4,5,6,7,8,9,11,15,21,26,40,60,66,117] (λ i=>if k<=i then i-k+1 else 0):=jZ;have uU:=zA hc hgr;refine dJ ?_;refine cA ?_;refine jR [.far (.lit (.bool aB)) (k+1) [(k,⟨8,aB,[gJ o]⟩)] (MH m tk L) (MH m tk L)] ?_;refine jV (zs ?_) (zs ?_) (zs ?_);.intro q;simp only[MH,LH,fG,gJ,hc,hgr,aV,aU]
 .exact cB (λ i hi=>by simp only[AM.look];repeat(rw[iN oO])) rfl
 simp only[MH,LH];refine fR ?_;apply zN;refine dJ ?_;refine dI λ ht=>?_;refine jR [.ret aB] ?_;refine cA ?_;refine dJ ?_;refine oU ⟨λ ht ht=>⟨λ hg=>⟨?_⟩⟩⟩;refine AI [.ret aB,.ret aE] ?_;refine oU ⟨⟨λ hg=>⟨?_⟩⟩⟩;all_goals(try(exact absurd trivial ‹¬True›))
 refine dJ ?_;refine dI λ ht=>?_;refine jR [.far (.lit (.int .i64 (-1))) (k+1) [(k,⟨8,aB,[gJ o]⟩)] (MH m tk L) (MH m tk L)] ?_;refine jV (zs ?_) (zs ?_) (zs ?_);.intro q;simp only[MH,LH,fG,gJ,hc,hgr,aV,aU]
 .exact cB (λ i hi=>by simp only[AM.look];repeat(rw[iN oO])) rfl
 simp only[MH,LH];refine fR ?_;apply zN;have uU:=ID hc hgr hmb hneg hrow;refine dJ ?_;refine oU ⟨λ ht ht=>zN ?_⟩;refine jR [.far (dG (k+1) (gR E)) (k+2) [(k,⟨8,aB,[gJ o]⟩)] (MH m tk L) (cL (k+1) 1 (gR E) (MH m tk L))] ?_;refine jV (zs ?_) (zs ?_) (zs ?_);.intro q;simp only[MH,LH,fG,gJ,hc,hgr,aV,aU]
 .exact QG (by simp only[AM.look];rw[iN oO]) (cB (λ i hi=>by simp only[AM.look];rw[iN oO]) rfl)
 simp only[MH,LH];refine fR ?_;apply zN;refine dJ ?_;refine cA ?_;refine AI [.ret (.tup [enc (L.sp g c).floor 0 o.weight,(0:Int)])] ?_;refine iE ?_ ?_;.exact bHM _ _ h4.1 h4.2
 refine dJ ?_;refine cA ?_;refine jR [.gen (.tup []) (k+4) [(k+2,⟨8,aB,[[o.task,g,(0:Int),c,.lit (.int .u64 o.mask),aB,.lit (.int .u64 0),.lit (.int .u32 0)]]⟩)] [(k+2,⟨8,aB,[[o.task,g,o.weight,c,.lit (.int .u64 o.mask),aB,.lit (.int .u64 (L.sp g c).floor),.lit (.int .u32 0)]]⟩)]] ?_;refine cA ?_;refine dJ ?_;refine cA ?_;by_cases hpl:p<L.tl.length
 .rw[iP hpl]at er;rw[er]at hidx;refine jR [.gen (.lit (.int .i64 (p:Int))) (k+4) [(tk,⟨8,aB,oJ L⟩),(k+2,⟨8,aB,[[o.task,g,o.weight,c,.lit (.int .u64 o.mask),aB,.lit (.int .u64 (L.sp g c).floor),.lit (.int .u32 0)]]⟩)] [(tk,⟨8,aB,oJ L⟩),(k+2,⟨8,aB,[[o.task,g,o.weight,c,.lit (.int .u64 o.mask),aB,.lit (.int .u64 (L.sp g c).floor),.lit (.int .u32 0)]]⟩)]] ?_;refine cA ?_;refine dJ ?_;refine dI λ ht=>?_;refine lJ [0,1,3,4,5,6,7,8,9,11,15,21,26,40,60,66,117] (k+7) [(7,dG (k+6) (gR E))] ((k,⟨8,aB,[gJ o]⟩)::cL (k+6) 1 (gR E) (MH m (k+5) Nx)) ?_ ?_;.have kp:Kp [0,1,3,4,5,6,7,8,9,11,15,21,26,40,60,66,117] (λ i=>if i=tk then 1 else if k<=i then i-k+2 else 0):=jZ;refine AI [.gen (.sl (k+5) 0 (L.tl.length+1)) (k+6) [(tk,⟨8,aB,oJ L⟩),(k+4,⟨8,aB,[[o.task,g,o.weight,c,.lit (.int .u64 o.mask),aB,.lit (.int .u64 (L.sp g c).floor),.lit (.int .u32 0)]]⟩)] [(k+5,⟨8,aB,vA (oJ L) p [o.task,g,o.weight,c,.lit (.int .u64 o.mask),aB,.lit (.int .u64 (L.sp g c).floor),.lit (.int .u32 0)]⟩)]] ?_;refine cA ?_;rw[eMH];exact Mv.trans (tX (k+1) oO) (nV wgD)
  have kp:Kp [0,1,3,4,5,6,7,8,9,11,15,21,26,40,60,66,117] (λ i=>if i=tk then 1 else if k<=i then i-k+2 else 0):=jZ;refine dJ ?_;refine cA ?_;refine jR [.far (.tup []) (k+7) [(k,⟨8,aB,[gJ o]⟩)] (cL (k+6) 1 (gR E) (MH m (k+5) Nx)) (cL (k+6) 1 (gR E) (MH m (k+5) (oI Nx c E)))] ?_;refine zq5 (zs ?_) (zs ?_) (zs ?_) (zs ?_) (zs ?_);.exact HL (by rw[vU];trivial)
  .exact DO HX
  .intro q;simp only[gJ,hc,hgr,aV,aU]
  .exact DN (by simp only[AM.look];rw[iN oO]) (cB (λ q hq=>by simp only[AM.look];rw[iN oO]) (by rw[hWs,hNs]))
  refine dJ ?_;refine cA ?_;have uU:=ID hc hgr hmb hneg hrow;refine kJ (zN ?_);refine⟨?_,?_⟩;.rw[eRV];rfl
  rw[eRH];simp only[MH,LH];exact fR gG
 rw[iN hpl]at er;rw[er]at hidx;have hpe:p=L.tl.length:=oO;refine jR [.gen (.lit (.int .i64 (-1))) (k+4) [(tk,⟨8,aB,oJ L⟩),(k+2,⟨8,aB,[[o.task,g,o.weight,c,.lit (.int .u64 o.mask),aB,.lit (.int .u64 (L.sp g c).floor),.lit (.int .u32 0)]]⟩)] [(tk,⟨8,aB,oJ L⟩),(k+2,⟨8,aB,[[o.task,g,o.weight,c,.lit (.int .u64 o.mask),aB,.lit (.int .u64 (L.sp g c).floor),.lit (.int .u32 0)]]⟩)]] ?_;refine cA ?_;refine dJ ?_;refine dI λ ht=>?_;rw[(oO:((L.tl.length:Nat):Int)=(p:Int))];refine lJ [0,1,3,4,5,6,7,8,9,11,15,21,26,40,60,66,117] (k+7) [(7,dG (k+6) (gR E))] ((k,⟨8,aB,[gJ o]⟩)::cL (k+6) 1 (gR E) (MH m (k+5) Nx)) ?_ ?_;.have kp:Kp [0,1,3,4,5,6,7,8,9,11,15,21,26,40,60,66,117] (λ i=>if i=tk then 1 else if k<=i then i-k+2 else 0):=jZ;refine AI [.gen (.sl (k+5) 0 (L.tl.length+1)) (k+6) [(tk,⟨8,aB,oJ L⟩),(k+4,⟨8,aB,[[o.task,g,o.weight,c,.lit (.int .u64 o.mask),aB,.lit (.int .u64 (L.sp g c).floor),.lit (.int .u32 0)]]⟩)] [(k+5,⟨8,aB,vA (oJ L) p [o.task,g,o.weight,c,.lit (.int .u64 o.mask),aB,.lit (.int .u64 (L.sp g c).floor),.lit (.int .u32 0)]⟩)]] ?_;refine cA ?_;rw[eMH];exact Mv.trans (tX (k+1) oO) (nV wgD)
 have kp:Kp [0,1,3,4,5,6,7,8,9,11,15,21,26,40,60,66,117] (λ i=>if i=tk then 1 else if k<=i then i-k+2 else 0):=jZ;refine dJ ?_;refine cA ?_;refine jR [.far (.tup []) (k+7) [(k,⟨8,aB,[gJ o]⟩)] (cL (k+6) 1 (gR E) (MH m (k+5) Nx)) (cL (k+6) 1 (gR E) (MH m (k+5) (oI Nx c E)))] ?_;refine zq5 (zs ?_) (zs ?_) (zs ?_) (zs ?_) (zs ?_);.exact HL (by rw[vU];trivial)
 .exact DO HX
 .intro q;simp only[gJ,hc,hgr,aV,aU]
 .exact DN (by simp only[AM.look];rw[iN oO]) (cB (λ q hq=>by simp only[AM.look];rw[iN oO]) (by rw[hWs,hNs]))
 refine dJ ?_;refine cA ?_;have uU:=ID hc hgr hmb hneg hrow;refine kJ (zN ?_);refine⟨?_,?_⟩;.rw[eRV];rfl
 rw[eRH];simp only[MH,LH];exact fR gG
theorem bCB(L:LSt)(n:Nat)(hS:Rt0 L n)(o:Opn)(hl:L.tl.length<1000)(hmk:0<=o.mask/\o.mask<18446744073709551616)(m tk k:Nat)(hm:m+6+L.sl.length<=tk)(hk:tk<k):OpOk Γ 88 L n o m tk k:=by
 have hnt:=hS.nt;have hcp:=hS.cpus;have hnu:=hS.nu;have hn1:=hS.n1;have hn64:=hS.n64;have hns:=hS.ns;have hng:=hS.ng;have hcpu:=cpu L o.cpu m tk (k+1) hm oO (Γ:=Γ);have htask:=KB o.task (Γ:=Γ);have hwgh:=wP o.weight (Γ:=Γ);have hwide:=aJK o.mask n hn1 hn64 hmk.1 hmk.2 (Γ:=Γ);rw[<-hcp]at hwide;by_cases h1:0<=o.cpu/\o.cpu<L.cpus;rotate_left
 .rw[decide_eq_false h1]at hcpu;refine⟨L,0,300,tk,k,hS,⟨fN L,.inr rfl⟩,hm,⟨hk,.inl rfl⟩,aF _,?_⟩;obtain⟨RH,eRH⟩:∃x:aO,x=MH m tk L:=⟨_,rfl⟩;obtain⟨RV,eRV⟩:∃x:AVal,x=jQ (0) 300:=⟨_,rfl⟩;refine Tr.mono (dR (k:=k) (V:=RV) (RH:=RH) oO (by rw[eRV];rfl) (by rw[eRH];exact fL oO oO) ?_) (λ _ _ _ h=>⟨h.1,h.2.1.trans eRV,h.2.2.trans eRH⟩);refine cN RW rfl 139 rfl bB ?_;simp only[MH,LH];have kp:Kp [0,1,3,4,5,6,7,8,9,11,15,21,26,40,60,66,117] (λ i=>if k<=i then i-k+1 else 0):=jZ;refine dJ ?_;refine cA ?_;refine jR [.far (.lit (.bool aE)) (k+1) [(k,⟨8,aB,[gJ o]⟩)] (MH m tk L) (MH m tk L)] ?_;refine jV (zs ?_) (zs ?_) (zs ?_);.intro q;simp only[MH,LH,fG,gJ,aV,aU]
  .exact cB (λ i hi=>by simp only[AM.look];repeat(rw[iN oO])) rfl
  simp only[MH,LH];refine fR ?_;apply zN;refine dJ ?_;refine dI λ ht=>?_;refine kJ (zN ?_);refine⟨?_,?_⟩;.rw[eRV];rfl
  rw[eRH];simp only[MH,LH];exact fR gG
 rw[decide_eq_true h1]at hcpu;obtain⟨c,hc⟩:∃c:Nat,o.cpu=(c:Int):=⟨o.cpu.toNat,oO⟩;rw[hc]at hcpu;have hcn:c<n:=oO;by_cases h2:1<=o.task/\o.task<=65535;rotate_left
 .rw[decide_eq_false h2]at htask;refine⟨L,0,301,tk,k,hS,⟨fN L,.inr rfl⟩,hm,⟨hk,.inl rfl⟩,aF _,?_⟩;obtain⟨RH,eRH⟩:∃x:aO,x=MH m tk L:=⟨_,rfl⟩;obtain⟨RV,eRV⟩:∃x:AVal,x=jQ (0) 301:=⟨_,rfl⟩;refine Tr.mono (dR (k:=k) (V:=RV) (RH:=RH) oO (by rw[eRV];rfl) (by rw[eRH];exact fL oO oO) ?_) (λ _ _ _ h=>⟨h.1,h.2.1.trans eRV,h.2.2.trans eRH⟩);refine cN RW rfl 139 rfl bB ?_;simp only[MH,LH];have kp:Kp [0,1,3,4,5,6,7,8,9,11,15,21,26,40,60,66,117] (λ i=>if k<=i then i-k+1 else 0):=jZ;have uU:=hc;refine dJ ?_;refine cA ?_;refine jR [.far (.lit (.bool aB)) (k+1) [(k,⟨8,aB,[gJ o]⟩)] (MH m tk L) (MH m tk L)] ?_;refine jV (zs ?_) (zs ?_) (zs ?_);.intro q;simp only[MH,LH,fG,gJ,hc,aV,aU]
  .exact cB (λ i hi=>by simp only[AM.look];repeat(rw[iN oO])) rfl
  simp only[MH,LH];refine fR ?_;apply zN;refine dJ ?_;refine dI λ ht=>?_;refine jR [.ret aE] ?_;refine cA ?_;refine dJ ?_;refine dI λ ht=>?_;have uU:=hc;refine kJ (zN ?_);refine⟨?_,?_⟩;.rw[eRV];rfl
  rw[eRH];simp only[MH,LH];exact fR gG
 rw[decide_eq_true h2]at htask;by_cases h3:0<=o.group/\o.group<L.sl.length;rotate_left
 .refine⟨L,0,302,tk,k,hS,⟨fN L,.inr rfl⟩,hm,⟨hk,.inl rfl⟩,aF _,?_⟩;obtain⟨RH,eRH⟩:∃x:aO,x=MH m tk L:=⟨_,rfl⟩;obtain⟨RV,eRV⟩:∃x:AVal,x=jQ (0) 302:=⟨_,rfl⟩;refine Tr.mono (dR (k:=k) (V:=RV) (RH:=RH) oO (by rw[eRV];rfl) (by rw[eRH];exact fL oO oO) ?_) (λ _ _ _ h=>⟨h.1,h.2.1.trans eRV,h.2.2.trans eRH⟩);refine cN RW rfl 139 rfl bB ?_;simp only[MH,LH];have kp:Kp [0,1,3,4,5,6,7,8,9,11,15,21,26,40,60,66,117] (λ i=>if k<=i then i-k+1 else 0):=jZ;have uU:=hc;refine dJ ?_;refine cA ?_;refine jR [.far (.lit (.bool aB)) (k+1) [(k,⟨8,aB,[gJ o]⟩)] (MH m tk L) (MH m tk L)] ?_;refine jV (zs ?_) (zs ?_) (zs ?_);.intro q;simp only[MH,LH,fG,gJ,hc,aV,aU]
  .exact cB (λ i hi=>by simp only[AM.look];repeat(rw[iN oO])) rfl
  simp only[MH,LH];refine fR ?_;apply zN;refine dJ ?_;refine dI λ ht=>?_;refine jR [.ret aB] ?_;refine cA ?_;refine dJ ?_;refine SG ⟨λ ht ht=>⟨λ hg=>⟨?_⟩⟩⟩ ⟨λ ht ht=>⟨λ hg=>⟨?_⟩⟩⟩;all_goals(first|(exfalso;omega)|skip)
  iterate 2
   · have uU:=hc;refine kJ (zN ?_)
     refine⟨?_,?_⟩
     · rw[eRV];rfl
     · rw[eRH]
       simp only[MH,LH]
       exact fR gG
 obtain⟨g,hgr⟩:∃g:Nat,o.group=(g:Int):=⟨o.group.toNat,oO⟩;have hg1:g<L.sl.length:=oO;have hrow:=hS.rows g hg1;have hO:gJ o=[.lit (.int .u8 o.kind),.lit (.int .i64 (c:Int)),.lit (.int .i64 o.task),.lit (.int .i64 (g:Int)),.lit (.int .i64 o.weight),.lit (.int .i64 o.to),.lit (.int .i64 o.ticks),.lit (.int .u64 o.mask)]:=by rw[<-hc,<-hgr];rfl
 by_cases h4:1<=o.weight/\o.weight<=65536;rotate_left
 .rw[decide_eq_false h4]at hwgh;refine⟨L,0,2,tk,k,hS,⟨fN L,.inr rfl⟩,hm,⟨hk,.inl rfl⟩,aF _,?_⟩;obtain⟨RH,eRH⟩:∃x:aO,x=MH m tk L:=⟨_,rfl⟩;obtain⟨RV,eRV⟩:∃x:AVal,x=jQ (0) 2:=⟨_,rfl⟩;refine Tr.mono (dR (k:=k) (V:=RV) (RH:=RH) oO (by rw[eRV];rfl) (by rw[eRH];exact fL oO oO) ?_) (λ _ _ _ h=>⟨h.1,h.2.1.trans eRV,h.2.2.trans eRH⟩);refine cN RW rfl 139 rfl bB ?_;simp only[MH,LH];have kp:Kp [0,1,3,4,5,6,7,8,9,11,15,21,26,40,60,66,117] (λ i=>if k<=i then i-k+1 else 0):=jZ;have uU:=zA hc hgr;refine dJ ?_;refine cA ?_;refine jR [.far (.lit (.bool aB)) (k+1) [(k,⟨8,aB,[gJ o]⟩)] (MH m tk L) (MH m tk L)] ?_;refine jV (zs ?_) (zs ?_) (zs ?_);.intro q;simp only[MH,LH,fG,gJ,hc,hgr,aV,aU]
  .exact cB (λ i hi=>by simp only[AM.look];repeat(rw[iN oO])) rfl
  simp only[MH,LH];refine fR ?_;apply zN;refine dJ ?_;refine dI λ ht=>?_;refine jR [.ret aB] ?_;refine cA ?_;refine dJ ?_;refine oU ⟨λ ht ht=>⟨λ hg=>⟨?_⟩⟩⟩;refine AI [.ret aE,.ret aB] ?_;refine cA ?_;refine dJ ?_;refine dI λ ht=>?_;have uU:=zA hc hgr;refine kJ (zN ?_);refine⟨?_,?_⟩;.rw[eRV];rfl
  rw[eRH];simp only[MH,LH];exact fR gG
 rw[decide_eq_true h4]at hwgh;by_cases h5:o.mask=0
 .refine⟨L,0,2,tk,k,hS,⟨fN L,.inr rfl⟩,hm,⟨hk,.inl rfl⟩,aF _,?_⟩;obtain⟨RH,eRH⟩:∃x:aO,x=MH m tk L:=⟨_,rfl⟩;obtain⟨RV,eRV⟩:∃x:AVal,x=jQ (0) 2:=⟨_,rfl⟩;refine Tr.mono (dR (k:=k) (V:=RV) (RH:=RH) oO (by rw[eRV];rfl) (by rw[eRH];exact fL oO oO) ?_) (λ _ _ _ h=>⟨h.1,h.2.1.trans eRV,h.2.2.trans eRH⟩);refine cN RW rfl 139 rfl bB ?_;simp only[MH,LH];have kp:Kp [0,1,3,4,5,6,7,8,9,11,15,21,26,40,60,66,117] (λ i=>if k<=i then i-k+1 else 0):=jZ;have uU:=tZ hc hgr h5;refine dJ ?_;refine cA ?_;refine jR [.far (.lit (.bool aB)) (k+1) [(k,⟨8,aB,[gJ o]⟩)] (MH m tk L) (MH m tk L)] ?_;refine jV (zs ?_) (zs ?_) (zs ?_);.intro q;simp only[MH,LH,fG,gJ,hc,hgr,aV,aU]
  .exact cB (λ i hi=>by simp only[AM.look];repeat(rw[iN oO])) rfl
  simp only[MH,LH];refine fR ?_;apply zN;refine dJ ?_;refine dI λ ht=>?_;refine jR [.ret aB] ?_;refine cA ?_;refine dJ ?_;refine oU ⟨λ ht ht=>⟨λ hg=>⟨?_⟩⟩⟩;refine AI [.ret aB,.ret aB] ?_;refine cA ?_;refine dJ ?_;refine dI λ ht=>?_;have uU:=tZ hc hgr h5;refine kJ (zN ?_);refine⟨?_,?_⟩;.rw[eRV];rfl
  rw[eRH];simp only[MH,LH];exact fR gG
 by_cases h6:o.mask/2^n=0;rotate_left
 .rw[decide_eq_true h6]at hwide;refine⟨L,0,2,tk,k,hS,⟨fN L,.inr rfl⟩,hm,⟨hk,.inl rfl⟩,aF _,?_⟩;obtain⟨RH,eRH⟩:∃x:aO,x=MH m tk L:=⟨_,rfl⟩;obtain⟨RV,eRV⟩:∃x:AVal,x=jQ (0) 2:=⟨_,rfl⟩;refine Tr.mono (dR (k:=k) (V:=RV) (RH:=RH) oO (by rw[eRV];rfl) (by rw[eRH];exact fL oO oO) ?_) (λ _ _ _ h=>⟨h.1,h.2.1.trans eRV,h.2.2.trans eRH⟩);refine cN RW rfl 139 rfl bB ?_;simp only[MH,LH];have kp:Kp [0,1,3,4,5,6,7,8,9,11,15,21,26,40,60,66,117] (λ i=>if k<=i then i-k+1 else 0):=jZ;have uU:=zA hc hgr;refine dJ ?_;refine cA ?_;refine jR [.far (.lit (.bool aB)) (k+1) [(k,⟨8,aB,[gJ o]⟩)] (MH m tk L) (MH m tk L)] ?_;refine jV (zs ?_) (zs ?_) (zs ?_);.intro q;simp only[MH,LH,fG,gJ,hc,hgr,aV,aU]
  .exact cB (λ i hi=>by simp only[AM.look];repeat(rw[iN oO])) rfl
  simp only[MH,LH];refine fR ?_;apply zN;refine dJ ?_;refine dI λ ht=>?_;refine jR [.ret aB] ?_;refine cA ?_;refine dJ ?_;refine oU ⟨λ ht ht=>⟨λ hg=>⟨?_⟩⟩⟩;refine AI [.ret aB,.ret aB] ?_;refine oU ⟨⟨λ hg=>⟨?_⟩⟩⟩;all_goals(try(exact absurd trivial ‹¬True›))
  refine dJ ?_;refine dI λ ht=>?_;have uU:=zA hc hgr;refine kJ (zN ?_);refine⟨?_,?_⟩;.rw[eRV];rfl
  rw[eRH];simp only[MH,LH];exact fR gG
 rw[decide_eq_false (λ h=>h h6)]at hwide;rcases zB hS o.task with hr|⟨i,hi,hid,hr⟩;rotate_left
 .have hfc:=find L o.task i hr hS.sorted oO m tk (k+1) hm oO (Γ:=Γ);refine⟨L,0,303,tk,k,hS,⟨fN L,.inr rfl⟩,hm,⟨hk,.inl rfl⟩,aF _,?_⟩;obtain⟨RH,eRH⟩:∃x:aO,x=MH m tk L:=⟨_,rfl⟩;obtain⟨RV,eRV⟩:∃x:AVal,x=jQ (0) 303:=⟨_,rfl⟩;refine Tr.mono (dR (k:=k) (V:=RV) (RH:=RH) oO (by rw[eRV];rfl) (by rw[eRH];exact fL oO oO) ?_) (λ _ _ _ h=>⟨h.1,h.2.1.trans eRV,h.2.2.trans eRH⟩);refine cN RW rfl 139 rfl bB ?_;simp only[MH,LH];have kp:Kp [0,1,3,4,5,6,7,8,9,11,15,21,26,40,60,66,117] (λ i=>if k<=i then i-k+1 else 0):=jZ;have uU:=zA hc hgr;refine dJ ?_;refine cA ?_;refine jR [.far (.lit (.bool aB)) (k+1) [(k,⟨8,aB,[gJ o]⟩)] (MH m tk L) (MH m tk L)] ?_;refine jV (zs ?_) (zs ?_) (zs ?_);.intro q;simp only[MH,LH,fG,gJ,hc,hgr,aV,aU]
  .exact cB (λ i hi=>by simp only[AM.look];repeat(rw[iN oO])) rfl
  simp only[MH,LH];refine fR ?_;apply zN;refine dJ ?_;refine dI λ ht=>?_;refine jR [.ret aB] ?_;refine cA ?_;refine dJ ?_;refine oU ⟨λ ht ht=>⟨λ hg=>⟨?_⟩⟩⟩;refine AI [.ret aB,.ret aE] ?_;refine oU ⟨⟨λ hg=>⟨?_⟩⟩⟩;all_goals(try(exact absurd trivial ‹¬True›))
  refine dJ ?_;refine dI λ ht=>?_;refine jR [.far (.lit (.int .i64 (i:Int))) (k+1) [(k,⟨8,aB,[gJ o]⟩)] (MH m tk L) (MH m tk L)] ?_;refine jV (zs ?_) (zs ?_) (zs ?_);.intro q;simp only[MH,LH,fG,gJ,hc,hgr,aV,aU]
  .exact cB (λ i hi=>by simp only[AM.look];repeat(rw[iN oO])) rfl
  simp only[MH,LH];refine fR ?_;apply zN;refine dJ ?_;refine dI λ ht=>?_;have uU:=zA hc hgr;refine kJ (zN ?_);refine⟨?_,?_⟩;.rw[eRV];rfl
  rw[eRH];simp only[MH,LH];exact fR gG
 have hfc:=find L o.task (-1) hr hS.sorted oO m tk (k+1) hm oO (Γ:=Γ);have hmb:aY.wrap ((BitVec.ofInt aY.bits (o.mask.fdiv (2^min c 64))&&&BitVec.ofInt aY.bits 1).toNat:Int)=o.mask/2^c%2:=by have:=qC (x:=o.mask) (c:=(c:Int)) hmk.1 hmk.2 oO oO;rwa [bP]at this
 have hneg:((c:Int)<0)=False:=eq_false oO;have hmod:=Int.emod_two_eq (o.mask/2^c);by_cases h7:o.mask/2^c%2=0
 .refine⟨L,0,305,tk,k,hS,⟨fN L,.inr rfl⟩,hm,⟨hk,.inl rfl⟩,aF _,?_⟩;obtain⟨RH,eRH⟩:∃x:aO,x=MH m tk L:=⟨_,rfl⟩;obtain⟨RV,eRV⟩:∃x:AVal,x=jQ (0) 305:=⟨_,rfl⟩;refine Tr.mono (dR (k:=k) (V:=RV) (RH:=RH) oO (by rw[eRV];rfl) (by rw[eRH];exact fL oO oO) ?_) (λ _ _ _ h=>⟨h.1,h.2.1.trans eRV,h.2.2.trans eRH⟩);refine cN RW rfl 139 rfl bB ?_;simp only[MH,LH];have kp:Kp [0,1,3,4,5,6,7,8,9,11,15,21,26,40,60,66,117] (λ i=>if k<=i then i-k+1 else 0):=jZ;have uU:=zA hc hgr;refine dJ ?_;refine cA ?_;refine jR [.far (.lit (.bool aB)) (k+1) [(k,⟨8,aB,[gJ o]⟩)] (MH m tk L) (MH m tk L)] ?_;refine jV (zs ?_) (zs ?_) (zs ?_);.intro q;simp only[MH,LH,fG,gJ,hc,hgr,aV,aU]
  .exact cB (λ i hi=>by simp only[AM.look];repeat(rw[iN oO])) rfl
  simp only[MH,LH];refine fR ?_;apply zN;refine dJ ?_;refine dI λ ht=>?_;refine jR [.ret aB] ?_;refine cA ?_;refine dJ ?_;refine oU ⟨λ ht ht=>⟨λ hg=>⟨?_⟩⟩⟩;refine AI [.ret aB,.ret aE] ?_;refine oU ⟨⟨λ hg=>⟨?_⟩⟩⟩;all_goals(try(exact absurd trivial ‹¬True›))
  refine dJ ?_;refine dI λ ht=>?_;refine jR [.far (.lit (.int .i64 (-1))) (k+1) [(k,⟨8,aB,[gJ o]⟩)] (MH m tk L) (MH m tk L)] ?_;refine jV (zs ?_) (zs ?_) (zs ?_);.intro q;simp only[MH,LH,fG,gJ,hc,hgr,aV,aU]
  .exact cB (λ i hi=>by simp only[AM.look];repeat(rw[iN oO])) rfl
  simp only[MH,LH];refine fR ?_;apply zN;have uU:=DR hc hgr hmb hneg;refine dJ ?_;refine oU ⟨λ ht ht=>zN ?_⟩;have uU:=DR hc hgr hmb hneg;refine kJ (zN ?_);refine⟨?_,?_⟩;.rw[eRV];rfl
  rw[eRH];simp only[MH,LH];exact fR gG
 exact a7E L n hS o hl hmk m tk k hm hk c g hc hgr hcn hg1 h2 h4 h5 h6 hr oO
def bGC(L:LSt)(c i:Nat):Prop:=i<L.tl.length/\(L.tsk i).ready=aB/\(L.tsk i).mask/2^c%2=1/\L.cur (L.tsk i).cpu.toNat≠(L.tsk i).id
theorem aOW{L:LSt}{n i:Nat}(h:Rt0 L n)(hi:i<L.tl.length)(hc:L.cur (L.tsk i).cpu.toNat≠(L.tsk i).id):∀c,c<n->L.cur c≠(L.tsk i).id:=λ c hcn e=>by
 have hT:=h.tk i hi;rcases h.cur c hcn with h0|⟨j,h2,h3,h4,h5⟩;.have:=hT.id1;omega
 have hji:j=i:=by
  rcases kA j i with hl|hl|hl;.have:=h.sorted j i hl hi;omega
  .exact hl
  have:=h.sorted i j hl h2;omega
 subst hji;rw[h4,bP]at hc;exact hc e
def fmN(L:LSt)(c:Nat):Nat->Int×Int
 |0=>(-1, -1)
 |j+1=>if(j:Int)≠c/\(fmN L c j).2<IE L (j:Int) L.tl.length then((j:Int),IE L (j:Int) L.tl.length)else fmN L c j
def xO(L:LSt)(c:Nat)(fr:Int)(i:Nat):Prop:=(L.tsk i).ready=aB/\(L.tsk i).cpu=fr/\(L.tsk i).mask/2^c%2=1/\L.cur (L.tsk i).cpu.toNat≠(L.tsk i).id
def HK(L:LSt)(mo W:Int)(i:Nat)(b:Int):Prop:=2*(L.tsk i).weight<=aL.wrap (mo-W)/\(b<0\/(L.tsk b.toNat).weight<(L.tsk i).weight)
instance (L:LSt)(c:Nat)(fr:Int)(i:Nat):Decidable (xO L c fr i):=by unfold xO;infer_instance
instance (L:LSt)(mo W:Int)(i:Nat)(b:Int):Decidable (HK L mo W i b):=by unfold HK;infer_instance
def bsN(L:LSt)(c:Nat)(fr mo W:Int):Nat->Int
 |0=> -1
 |i+1=>if xO L c fr i/\HK L mo W i (bsN L c fr mo W i)then(i:Int)else bsN L c fr mo W i
def Bst(L:LSt)(c:Nat)(b:Int):Prop:=b= -1\/∃j:Nat,b=(j:Int)/\bGC L c j
theorem aHG{L:LSt}{c:Nat}{fr mo W:Int}:∀ {i:Nat},i<=L.tl.length->Bst L c (bsN L c fr mo W i)
 |0,_=> .inl rfl
 |i+1,hi=>by
  rw[bsN];split;.rename_i h;exact .inr ⟨i,rfl,oO,h.1.1,h.1.2.2.1,h.1.2.2.2⟩
  exact aHG oO
theorem bHG(L:LSt)(n:Nat)(hS:Rt0 L n)(o:Opn)(m tk k:Nat)(hm:m+6+L.sl.length<=tk)(hk:tk<k)(c:Nat)(hc:o.cpu=(c:Int))(hcn:c<n)(i:Nat)(hi2:i<L.tl.length)(p:Int×Int)(W b:Int)(hwp:AM.Pure aD Γ 173 [.rp (mcL L),c] W)(hno:¬xO L c p.1 i)(N:Nat->Fr->aO->Prop)(Q:AQ)(hN:∀k1 fr1 H1,Mv k k1 fr1 H1 (k+1) (IT [0,1,3,4,5,6,7,8,9,10,11,12,13,14,19,25,26,27,40,48,49,50,51,116,120] [(50,(i+1:Nat)),(10,(b))] [(0,.ptr m 0 0),(3,.ptr k 0 0),(6,p.1),(7,p.2),(48,.sl tk 0 L.tl.length),(49,L.tl.length)]) ((k,⟨8,aB,[gJ o]⟩)::MH m tk L)->N k1 fr1 H1):
 AM.W aD Γ 136 k (hY (gN Tryz.f96) [0,0,1,0,1,1,1,1,1]) (mX N Q) (k+1) (IT [0,1,3,4,5,6,7,8,9,10,11,12,13,14,19,25,26,27,40,48,49,50,51,116,120] [(50,i),(10,b)] [(0,.ptr m 0 0),(3,.ptr k 0 0),(6,p.1),(7,p.2),(48,.sl tk 0 L.tl.length),(49,L.tl.length)]) ((k,⟨8,aB,[gJ o]⟩)::MH m tk L):=by
 have hnt:=hS.nt;have hcp:=hS.cpus;have hnu:=hS.nu;have hn1:=hS.n1;have hn64:=hS.n64;have hns:=hS.ns;have hneg:((c:Int)<0)=False:=eq_false oO;have hO:gJ o=[.lit (.int .u8 o.kind),.lit (.int .i64 (c:Int)),.lit (.int .i64 o.task),.lit (.int .i64 o.group),.lit (.int .i64 o.weight),.lit (.int .i64 o.to),.lit (.int .i64 o.ticks),.lit (.int .u64 o.mask)]:=by rw[<-hc];rfl
 obtain⟨NM,eNM⟩:∃x,x=(MH m tk L).map (·.1):=⟨_,rfl⟩;have hNM:YM (NM.map (λ i=>if k<=i then i-k+1 else 0))=[0]:=by rw[eNM];exact sQ hm hk (λ i hi=>iN oO)
 have hT:=hS.tk i hi2;have hTe:=hT.e;simp only[pK,dTt]at hTe;obtain⟨d,hd⟩:∃d:Nat,(L.tsk i).cpu=(d:Int):=⟨(L.tsk i).cpu.toNat,by have:=hT.c0;omega⟩;have hdn:d<n:=by have:=hT.c1;omega
 have hmb:aY.wrap ((BitVec.ofInt aY.bits ((L.tsk i).mask.fdiv (2^min c 64))&&&BitVec.ofInt aY.bits 1).toNat:Int)=(L.tsk i).mask/2^c%2:=by have:=qC (x:=(L.tsk i).mask) (c:=(c:Int)) hT.m0 hT.m1 oO oO;rwa [bP]at this
 have hmay:xO L c p.1 i↔(L.tsk i).ready=aB/\(d:Int)=p.1/\(L.tsk i).mask/2^c%2=1/\L.cur d≠(L.tsk i).id:=by unfold xO;rw[hd,bP]
 have hw2:aL.wrap (2*(L.tsk i).weight)=2*(L.tsk i).weight:=wrap_i64 oO oO;obtain⟨V,eV⟩:∃V,V=aL.wrap (p.2-W):=⟨_,rfl⟩;have eV2:=eV.symm;have hcan:HK L p.2 W i b↔2*(L.tsk i).weight<=V/\(b<0\/(L.tsk b.toNat).weight<(L.tsk i).weight):=by unfold HK;rw[<-eV]
 rw[hO]at hN⊢
 simp only[MH,LH];try(simp-dsimp-implicitDefEqProofs (disch:=omega)only[go_sem,gY,eq_self,↓reduceIte])
 rw[hmay]at hno;by_cases r1:(L.tsk i).ready=aB;rotate_left
 .have r1':(L.tsk i).ready=aE:=by simpa using r1
  have kp:Kp [0,1,3,4,5,6,7,8,9,10,11,12,13,14,19,25,26,27,40,48,49,50,51,116,120] (λ i=>if k<=i then i-k+1 else 0):=jZ;have uU:=xC hd hmb hneg hNM hw2 eV2 r1';refine dJ ?_;refine dI λ ht=>?_;refine AI [.raw (aA 95) ⟨.lit (.int .i64 W),k+2,[],NM⟩] ?_;refine cA ?_;all_goals(first|exact RF (loc:=[(k+1,⟨8,aB,_⟩),(k,⟨8,aB,_⟩)]) hm rfl iF rfl rfl rfl (λ x hx=>by simp only[eY,oS,or_false]at hx;rcases hx with hx|hx<;>rw[hx]<;>simp only[]<;>omega) hwp eNM|skip)
  all_goals((refine dJ ?_;refine dI λ ht=>?_))
  all_goals(refine hN _ _ _ ?_)
  all_goals(try(simp only[MH,LH]))
  all_goals(try(simp-dsimp-implicitDefEqProofs (disch:=omega)only[go_sem,gY,hd,hmb,hneg,hNM,hw2,eV2,r1',eq_self,↓reduceIte]))
  all_goals(exact gM)
 by_cases r2:(d:Int)=p.1;rotate_left
 .have r2b:((d:Int)==p.1)=aE:=by rw[beq_eq_false_iff_ne];exact r2
  have kp:Kp [0,1,3,4,5,6,7,8,9,10,11,12,13,14,19,25,26,27,40,48,49,50,51,116,120] (λ i=>if k<=i then i-k+1 else 0):=jZ;have uU:=AO hd hmb hneg hNM hw2 eV2 r1 r2b;refine dJ ?_;refine dI λ ht=>?_;refine AI [.raw (aA 95) ⟨.lit (.int .i64 W),k+2,[],NM⟩] ?_;refine cA ?_;all_goals(first|exact RF (loc:=[(k+1,⟨8,aB,_⟩),(k,⟨8,aB,_⟩)]) hm rfl iF rfl rfl rfl (λ x hx=>by simp only[eY,oS,or_false]at hx;rcases hx with hx|hx<;>rw[hx]<;>simp only[]<;>omega) hwp eNM|skip)
  all_goals((refine dJ ?_;refine dI λ ht=>?_))
  all_goals(refine hN _ _ _ ?_)
  all_goals(try(simp only[MH,LH]))
  all_goals(try(simp-dsimp-implicitDefEqProofs (disch:=omega)only[go_sem,gY,hd,hmb,hneg,hNM,hw2,eV2,r1,r2b,eq_self,↓reduceIte]))
  all_goals(exact gM)
 by_cases r3:(L.tsk i).mask/2^c%2=1;rotate_left
 .have r2b:((d:Int)==p.1)=aB:=by rw[beq_iff_eq];exact r2
  have r3b:((L.tsk i).mask/2^c%2==1)=aE:=by rw[beq_eq_false_iff_ne];exact r3
  have kp:Kp [0,1,3,4,5,6,7,8,9,10,11,12,13,14,19,25,26,27,40,48,49,50,51,116,120] (λ i=>if k<=i then i-k+1 else 0):=jZ;have uU:=fP hd hmb hneg hNM hw2 eV2 r1 r2b r3b;refine dJ ?_;refine dI λ ht=>?_;refine AI [.raw (aA 95) ⟨.lit (.int .i64 W),k+2,[],NM⟩] ?_;refine cA ?_;all_goals(first|exact RF (loc:=[(k+1,⟨8,aB,_⟩),(k,⟨8,aB,_⟩)]) hm rfl iF rfl rfl rfl (λ x hx=>by simp only[eY,oS,or_false]at hx;rcases hx with hx|hx<;>rw[hx]<;>simp only[]<;>omega) hwp eNM|skip)
  all_goals((refine dJ ?_;refine dI λ ht=>?_))
  all_goals(refine hN _ _ _ ?_)
  all_goals(try(simp only[MH,LH]))
  all_goals(try(simp-dsimp-implicitDefEqProofs (disch:=omega)only[go_sem,gY,hd,hmb,hneg,hNM,hw2,eV2,r1,r2b,r3b,eq_self,↓reduceIte]))
  all_goals(exact gM)
 have r4:L.cur d=(L.tsk i).id:=Decidable.byContradiction λ h=>hno ⟨r1,r2,r3,h⟩;have r2b:((d:Int)==p.1)=aB:=by rw[beq_iff_eq];exact r2
 have r4b:(L.cur d !=(L.tsk i).id)=aE:=by rw[r4];simp
 have kp:Kp [0,1,3,4,5,6,7,8,9,10,11,12,13,14,19,25,26,27,40,48,49,50,51,116,120] (λ i=>if k<=i then i-k+1 else 0):=jZ;have uU:=fP hd hmb hneg hNM hw2 eV2 r1 r2b (zA r3 r4b);refine dJ ?_;refine dI λ ht=>?_;refine AI [.raw (aA 95) ⟨.lit (.int .i64 W),k+2,[],NM⟩] ?_;refine cA ?_;all_goals(first|exact RF (loc:=[(k+1,⟨8,aB,_⟩),(k,⟨8,aB,_⟩)]) hm rfl iF rfl rfl rfl (λ x hx=>by simp only[eY,oS,or_false]at hx;rcases hx with hx|hx<;>rw[hx]<;>simp only[]<;>omega) hwp eNM|skip)
 all_goals((refine dJ ?_;refine dI λ ht=>?_))
 all_goals(refine hN _ _ _ ?_)
 all_goals(try(simp only[MH,LH]))
 all_goals(try(simp-dsimp-implicitDefEqProofs (disch:=omega)only[go_sem,gY,hd,hmb,hneg,hNM,hw2,eV2,r1,r2b,r3,r4b,eq_self,↓reduceIte]))
 all_goals(exact gM)
theorem bHK(L:LSt)(n:Nat)(hS:Rt0 L n)(o:Opn)(m tk k:Nat)(hm:m+6+L.sl.length<=tk)(hk:tk<k)(c:Nat)(hc:o.cpu=(c:Int))(hcn:c<n)(i:Nat)(hi2:i<L.tl.length)(p:Int×Int)(W b:Int)(hwp:AM.Pure aD Γ 173 [.rp (mcL L),c] W)(hyes:xO L c p.1 i)(hca:¬(2*(L.tsk i).weight<=aL.wrap (p.2-W)))(N:Nat->Fr->aO->Prop)(Q:AQ)(hN:∀k1 fr1 H1,Mv k k1 fr1 H1 (k+1) (IT [0,1,3,4,5,6,7,8,9,10,11,12,13,14,19,25,26,27,40,48,49,50,51,116,120] [(50,(i+1:Nat)),(10,(b))] [(0,.ptr m 0 0),(3,.ptr k 0 0),(6,p.1),(7,p.2),(48,.sl tk 0 L.tl.length),(49,L.tl.length)]) ((k,⟨8,aB,[gJ o]⟩)::MH m tk L)->N k1 fr1 H1):
 AM.W aD Γ 136 k (hY (gN Tryz.f96) [0,0,1,0,1,1,1,1,1]) (mX N Q) (k+1) (IT [0,1,3,4,5,6,7,8,9,10,11,12,13,14,19,25,26,27,40,48,49,50,51,116,120] [(50,i),(10,b)] [(0,.ptr m 0 0),(3,.ptr k 0 0),(6,p.1),(7,p.2),(48,.sl tk 0 L.tl.length),(49,L.tl.length)]) ((k,⟨8,aB,[gJ o]⟩)::MH m tk L):=by
 have hnt:=hS.nt;have hcp:=hS.cpus;have hnu:=hS.nu;have hn1:=hS.n1;have hn64:=hS.n64;have hns:=hS.ns;have hneg:((c:Int)<0)=False:=eq_false oO;have hO:gJ o=[.lit (.int .u8 o.kind),.lit (.int .i64 (c:Int)),.lit (.int .i64 o.task),.lit (.int .i64 o.group),.lit (.int .i64 o.weight),.lit (.int .i64 o.to),.lit (.int .i64 o.ticks),.lit (.int .u64 o.mask)]:=by rw[<-hc];rfl
 obtain⟨NM,eNM⟩:∃x,x=(MH m tk L).map (·.1):=⟨_,rfl⟩;have hNM:YM (NM.map (λ i=>if k<=i then i-k+1 else 0))=[0]:=by rw[eNM];exact sQ hm hk (λ i hi=>iN oO)
 have hT:=hS.tk i hi2;have hTe:=hT.e;simp only[pK,dTt]at hTe;obtain⟨d,hd⟩:∃d:Nat,(L.tsk i).cpu=(d:Int):=⟨(L.tsk i).cpu.toNat,by have:=hT.c0;omega⟩;have hdn:d<n:=by have:=hT.c1;omega
 have hmb:aY.wrap ((BitVec.ofInt aY.bits ((L.tsk i).mask.fdiv (2^min c 64))&&&BitVec.ofInt aY.bits 1).toNat:Int)=(L.tsk i).mask/2^c%2:=by have:=qC (x:=(L.tsk i).mask) (c:=(c:Int)) hT.m0 hT.m1 oO oO;rwa [bP]at this
 have hmay:xO L c p.1 i↔(L.tsk i).ready=aB/\(d:Int)=p.1/\(L.tsk i).mask/2^c%2=1/\L.cur d≠(L.tsk i).id:=by unfold xO;rw[hd,bP]
 have hw2:aL.wrap (2*(L.tsk i).weight)=2*(L.tsk i).weight:=wrap_i64 oO oO;obtain⟨V,eV⟩:∃V,V=aL.wrap (p.2-W):=⟨_,rfl⟩;have eV2:=eV.symm;have hcan:HK L p.2 W i b↔2*(L.tsk i).weight<=V/\(b<0\/(L.tsk b.toNat).weight<(L.tsk i).weight):=by unfold HK;rw[<-eV]
 rw[hO]at hN⊢
 simp only[MH,LH];try(simp-dsimp-implicitDefEqProofs (disch:=omega)only[go_sem,gY,eq_self,↓reduceIte])
 obtain⟨r1,r2,r3,r4⟩:=hmay.1 hyes;rw[<-eV]at hca;have q1:(2*(L.tsk i).weight<=V)=False:=eq_false hca;have r2b:((d:Int)==p.1)=aB:=by rw[beq_iff_eq];exact r2
 have r4b:(L.cur d !=(L.tsk i).id)=aB:=by simp[r4]
 have kp:Kp [0,1,3,4,5,6,7,8,9,10,11,12,13,14,19,25,26,27,40,48,49,50,51,116,120] (λ i=>if k<=i then i-k+1 else 0):=jZ;have uU:=fP hd hmb hneg hNM hw2 eV2 r1 r2b (tZ r3 r4b q1);refine dJ ?_;refine dI λ ht=>?_;refine AI [.raw (aA 95) ⟨.lit (.int .i64 W),k+2,[],NM⟩] ?_;refine iE ?_ ?_;all_goals(first|exact RF (loc:=[(k+1,⟨8,aB,_⟩),(k,⟨8,aB,_⟩)]) hm rfl iF rfl rfl rfl (λ x hx=>by simp only[eY,oS,or_false]at hx;rcases hx with hx|hx<;>rw[hx]<;>simp only[]<;>omega) hwp eNM|skip)
 all_goals((refine dJ ?_;refine dI λ ht=>?_))
 all_goals(refine hN _ _ _ ?_)
 all_goals(try(simp only[MH,LH]))
 all_goals(try(simp-dsimp-implicitDefEqProofs (disch:=omega)only[go_sem,gY,hd,hmb,hneg,hNM,hw2,eV2,r1,r2b,r3,r4b,q1,eq_self,↓reduceIte]))
 all_goals(exact gM)
theorem bHJ(L:LSt)(n:Nat)(hS:Rt0 L n)(o:Opn)(m tk k:Nat)(hm:m+6+L.sl.length<=tk)(hk:tk<k)(c:Nat)(hc:o.cpu=(c:Int))(hcn:c<n)(i:Nat)(hi2:i<L.tl.length)(p:Int×Int)(W b:Int)(hwp:AM.Pure aD Γ 173 [.rp (mcL L),c] W)(hyes:xO L c p.1 i)(hca:2*(L.tsk i).weight<=aL.wrap (p.2-W))(hb:b= -1)(N:Nat->Fr->aO->Prop)(Q:AQ)(hN:∀k1 fr1 H1,Mv k k1 fr1 H1 (k+1) (IT [0,1,3,4,5,6,7,8,9,10,11,12,13,14,19,25,26,27,40,48,49,50,51,116,120] [(50,(i+1:Nat)),(10,((i:Int)))] [(0,.ptr m 0 0),(3,.ptr k 0 0),(6,p.1),(7,p.2),(48,.sl tk 0 L.tl.length),(49,L.tl.length)]) ((k,⟨8,aB,[gJ o]⟩)::MH m tk L)->N k1 fr1 H1):
 AM.W aD Γ 136 k (hY (gN Tryz.f96) [0,0,1,0,1,1,1,1,1]) (mX N Q) (k+1) (IT [0,1,3,4,5,6,7,8,9,10,11,12,13,14,19,25,26,27,40,48,49,50,51,116,120] [(50,i),(10,b)] [(0,.ptr m 0 0),(3,.ptr k 0 0),(6,p.1),(7,p.2),(48,.sl tk 0 L.tl.length),(49,L.tl.length)]) ((k,⟨8,aB,[gJ o]⟩)::MH m tk L):=by
 have hnt:=hS.nt;have hcp:=hS.cpus;have hnu:=hS.nu;have hn1:=hS.n1;have hn64:=hS.n64;have hns:=hS.ns;have hneg:((c:Int)<0)=False:=eq_false oO;have hO:gJ o=[.lit (.int .u8 o.kind),.lit (.int .i64 (c:Int)),.lit (.int .i64 o.task),.lit (.int .i64 o.group),.lit (.int .i64 o.weight),.lit (.int .i64 o.to),.lit (.int .i64 o.ticks),.lit (.int .u64 o.mask)]:=by rw[<-hc];rfl
 obtain⟨NM,eNM⟩:∃x,x=(MH m tk L).map (·.1):=⟨_,rfl⟩;have hNM:YM (NM.map (λ i=>if k<=i then i-k+1 else 0))=[0]:=by rw[eNM];exact sQ hm hk (λ i hi=>iN oO)
 have hT:=hS.tk i hi2;have hTe:=hT.e;simp only[pK,dTt]at hTe;obtain⟨d,hd⟩:∃d:Nat,(L.tsk i).cpu=(d:Int):=⟨(L.tsk i).cpu.toNat,by have:=hT.c0;omega⟩;have hdn:d<n:=by have:=hT.c1;omega
 have hmb:aY.wrap ((BitVec.ofInt aY.bits ((L.tsk i).mask.fdiv (2^min c 64))&&&BitVec.ofInt aY.bits 1).toNat:Int)=(L.tsk i).mask/2^c%2:=by have:=qC (x:=(L.tsk i).mask) (c:=(c:Int)) hT.m0 hT.m1 oO oO;rwa [bP]at this
 have hmay:xO L c p.1 i↔(L.tsk i).ready=aB/\(d:Int)=p.1/\(L.tsk i).mask/2^c%2=1/\L.cur d≠(L.tsk i).id:=by unfold xO;rw[hd,bP]
 have hw2:aL.wrap (2*(L.tsk i).weight)=2*(L.tsk i).weight:=wrap_i64 oO oO;obtain⟨V,eV⟩:∃V,V=aL.wrap (p.2-W):=⟨_,rfl⟩;have eV2:=eV.symm;have hcan:HK L p.2 W i b↔2*(L.tsk i).weight<=V/\(b<0\/(L.tsk b.toNat).weight<(L.tsk i).weight):=by unfold HK;rw[<-eV]
 rw[hO]at hN⊢
 simp only[MH,LH];try(simp-dsimp-implicitDefEqProofs (disch:=omega)only[go_sem,gY,eq_self,↓reduceIte])
 obtain⟨r1,r2,r3,r4⟩:=hmay.1 hyes;rw[<-eV]at hca;subst hb;have q1:(2*(L.tsk i).weight<=V)=True:=eq_true hca;have q3:((-1:Int)<0)=True:=eq_true oO;have r2b:((d:Int)==p.1)=aB:=by rw[beq_iff_eq];exact r2
 have r4b:(L.cur d !=(L.tsk i).id)=aB:=by simp[r4]
 have kp:Kp [0,1,3,4,5,6,7,8,9,10,11,12,13,14,19,25,26,27,40,48,49,50,51,116,120] (λ i=>if k<=i then i-k+1 else 0):=jZ;have uU:=fP hd hmb hneg hNM hw2 eV2 r1 r2b (DR r3 r4b q1 q3);refine dJ ?_;refine dI λ ht=>?_;refine AI [.raw (aA 95) ⟨.lit (.int .i64 W),k+2,[],NM⟩] ?_;refine iE ?_ ?_;all_goals(first|exact RF (loc:=[(k+1,⟨8,aB,_⟩),(k,⟨8,aB,_⟩)]) hm rfl iF rfl rfl rfl (λ x hx=>by simp only[eY,oS,or_false]at hx;rcases hx with hx|hx<;>rw[hx]<;>simp only[]<;>omega) hwp eNM|skip)
 all_goals((refine dJ ?_;refine dI λ ht=>?_))
 all_goals(refine hN _ _ _ ?_)
 all_goals(try(simp only[MH,LH]))
 all_goals(try(simp-dsimp-implicitDefEqProofs (disch:=omega)only[go_sem,gY,hd,hmb,hneg,hNM,hw2,eV2,r1,r2b,r3,r4b,q1,q3,eq_self,↓reduceIte]))
 all_goals(exact gM)
theorem bHI(L:LSt)(n:Nat)(hS:Rt0 L n)(o:Opn)(m tk k:Nat)(hm:m+6+L.sl.length<=tk)(hk:tk<k)(c:Nat)(hc:o.cpu=(c:Int))(hcn:c<n)(i:Nat)(hi2:i<L.tl.length)(p:Int×Int)(W b:Int)(hwp:AM.Pure aD Γ 173 [.rp (mcL L),c] W)(hyes:xO L c p.1 i)(hca:2*(L.tsk i).weight<=aL.wrap (p.2-W))(y:Nat)(hb:b=(y:Int))(hy:y<L.tl.length)(q2:(L.tsk y).weight<(L.tsk i).weight)(N:Nat->Fr->aO->Prop)(Q:AQ)(hN:∀k1 fr1 H1,Mv k k1 fr1 H1 (k+1) (IT [0,1,3,4,5,6,7,8,9,10,11,12,13,14,19,25,26,27,40,48,49,50,51,116,120] [(50,(i+1:Nat)),(10,((i:Int)))] [(0,.ptr m 0 0),(3,.ptr k 0 0),(6,p.1),(7,p.2),(48,.sl tk 0 L.tl.length),(49,L.tl.length)]) ((k,⟨8,aB,[gJ o]⟩)::MH m tk L)->N k1 fr1 H1):
 AM.W aD Γ 136 k (hY (gN Tryz.f96) [0,0,1,0,1,1,1,1,1]) (mX N Q) (k+1) (IT [0,1,3,4,5,6,7,8,9,10,11,12,13,14,19,25,26,27,40,48,49,50,51,116,120] [(50,i),(10,b)] [(0,.ptr m 0 0),(3,.ptr k 0 0),(6,p.1),(7,p.2),(48,.sl tk 0 L.tl.length),(49,L.tl.length)]) ((k,⟨8,aB,[gJ o]⟩)::MH m tk L):=by
 have hnt:=hS.nt;have hcp:=hS.cpus;have hnu:=hS.nu;have hn1:=hS.n1;have hn64:=hS.n64;have hns:=hS.ns;have hneg:((c:Int)<0)=False:=eq_false oO;have hO:gJ o=[.lit (.int .u8 o.kind),.lit (.int .i64 (c:Int)),.lit (.int .i64 o.task),.lit (.int .i64 o.group),.lit (.int .i64 o.weight),.lit (.int .i64 o.to),.lit (.int .i64 o.ticks),.lit (.int .u64 o.mask)]:=by rw[<-hc];rfl
 obtain⟨NM,eNM⟩:∃x,x=(MH m tk L).map (·.1):=⟨_,rfl⟩;have hNM:YM (NM.map (λ i=>if k<=i then i-k+1 else 0))=[0]:=by rw[eNM];exact sQ hm hk (λ i hi=>iN oO)
 have hT:=hS.tk i hi2;have hTe:=hT.e;simp only[pK,dTt]at hTe;obtain⟨d,hd⟩:∃d:Nat,(L.tsk i).cpu=(d:Int):=⟨(L.tsk i).cpu.toNat,by have:=hT.c0;omega⟩;have hdn:d<n:=by have:=hT.c1;omega
 have hmb:aY.wrap ((BitVec.ofInt aY.bits ((L.tsk i).mask.fdiv (2^min c 64))&&&BitVec.ofInt aY.bits 1).toNat:Int)=(L.tsk i).mask/2^c%2:=by have:=qC (x:=(L.tsk i).mask) (c:=(c:Int)) hT.m0 hT.m1 oO oO;rwa [bP]at this
 have hmay:xO L c p.1 i↔(L.tsk i).ready=aB/\(d:Int)=p.1/\(L.tsk i).mask/2^c%2=1/\L.cur d≠(L.tsk i).id:=by unfold xO;rw[hd,bP]
 have hw2:aL.wrap (2*(L.tsk i).weight)=2*(L.tsk i).weight:=wrap_i64 oO oO;obtain⟨V,eV⟩:∃V,V=aL.wrap (p.2-W):=⟨_,rfl⟩;have eV2:=eV.symm;have hcan:HK L p.2 W i b↔2*(L.tsk i).weight<=V/\(b<0\/(L.tsk b.toNat).weight<(L.tsk i).weight):=by unfold HK;rw[<-eV]
 rw[hO]at hN⊢
 simp only[MH,LH];try(simp-dsimp-implicitDefEqProofs (disch:=omega)only[go_sem,gY,eq_self,↓reduceIte])
 obtain⟨r1,r2,r3,r4⟩:=hmay.1 hyes;rw[<-eV]at hca;subst hb;have q1:(2*(L.tsk i).weight<=V)=True:=eq_true hca;have q3:((y:Int)<0)=False:=eq_false oO;have q4:((L.tsk y).weight<(L.tsk i).weight)=True:=eq_true q2;have r2b:((d:Int)==p.1)=aB:=by rw[beq_iff_eq];exact r2
 have r4b:(L.cur d !=(L.tsk i).id)=aB:=by simp[r4]
 have kp:Kp [0,1,3,4,5,6,7,8,9,10,11,12,13,14,19,25,26,27,40,48,49,50,51,116,120] (λ i=>if k<=i then i-k+1 else 0):=jZ;have uU:=fP hd hmb hneg hNM hw2 eV2 r1 r2b (ID r3 r4b q1 q3 q4);refine dJ ?_;refine dI λ ht=>?_;refine AI [.raw (aA 95) ⟨.lit (.int .i64 W),k+2,[],NM⟩] ?_;refine iE ?_ ?_;all_goals(first|exact RF (loc:=[(k+1,⟨8,aB,_⟩),(k,⟨8,aB,_⟩)]) hm rfl iF rfl rfl rfl (λ x hx=>by simp only[eY,oS,or_false]at hx;rcases hx with hx|hx<;>rw[hx]<;>simp only[]<;>omega) hwp eNM|skip)
 all_goals((refine dJ ?_;refine dI λ ht=>?_))
 all_goals(refine hN _ _ _ ?_)
 all_goals(try(simp only[MH,LH]))
 all_goals(try(simp-dsimp-implicitDefEqProofs (disch:=omega)only[go_sem,gY,hd,hmb,hneg,hNM,hw2,eV2,r1,r2b,r3,r4b,q1,q3,q4,eq_self,↓reduceIte]))
 all_goals(exact gM)
theorem bHH(L:LSt)(n:Nat)(hS:Rt0 L n)(o:Opn)(m tk k:Nat)(hm:m+6+L.sl.length<=tk)(hk:tk<k)(c:Nat)(hc:o.cpu=(c:Int))(hcn:c<n)(i:Nat)(hi2:i<L.tl.length)(p:Int×Int)(W b:Int)(hwp:AM.Pure aD Γ 173 [.rp (mcL L),c] W)(hyes:xO L c p.1 i)(hca:2*(L.tsk i).weight<=aL.wrap (p.2-W))(y:Nat)(hb:b=(y:Int))(hy:y<L.tl.length)(q2:¬(L.tsk y).weight<(L.tsk i).weight)(N:Nat->Fr->aO->Prop)(Q:AQ)(hN:∀k1 fr1 H1,Mv k k1 fr1 H1 (k+1) (IT [0,1,3,4,5,6,7,8,9,10,11,12,13,14,19,25,26,27,40,48,49,50,51,116,120] [(50,(i+1:Nat)),(10,(b))] [(0,.ptr m 0 0),(3,.ptr k 0 0),(6,p.1),(7,p.2),(48,.sl tk 0 L.tl.length),(49,L.tl.length)]) ((k,⟨8,aB,[gJ o]⟩)::MH m tk L)->N k1 fr1 H1):
 AM.W aD Γ 136 k (hY (gN Tryz.f96) [0,0,1,0,1,1,1,1,1]) (mX N Q) (k+1) (IT [0,1,3,4,5,6,7,8,9,10,11,12,13,14,19,25,26,27,40,48,49,50,51,116,120] [(50,i),(10,b)] [(0,.ptr m 0 0),(3,.ptr k 0 0),(6,p.1),(7,p.2),(48,.sl tk 0 L.tl.length),(49,L.tl.length)]) ((k,⟨8,aB,[gJ o]⟩)::MH m tk L):=by
 have hnt:=hS.nt;have hcp:=hS.cpus;have hnu:=hS.nu;have hn1:=hS.n1;have hn64:=hS.n64;have hns:=hS.ns;have hneg:((c:Int)<0)=False:=eq_false oO;have hO:gJ o=[.lit (.int .u8 o.kind),.lit (.int .i64 (c:Int)),.lit (.int .i64 o.task),.lit (.int .i64 o.group),.lit (.int .i64 o.weight),.lit (.int .i64 o.to),.lit (.int .i64 o.ticks),.lit (.int .u64 o.mask)]:=by rw[<-hc];rfl
 obtain⟨NM,eNM⟩:∃x,x=(MH m tk L).map (·.1):=⟨_,rfl⟩;have hNM:YM (NM.map (λ i=>if k<=i then i-k+1 else 0))=[0]:=by rw[eNM];exact sQ hm hk (λ i hi=>iN oO)
 have hT:=hS.tk i hi2;have hTe:=hT.e;simp only[pK,dTt]at hTe;obtain⟨d,hd⟩:∃d:Nat,(L.tsk i).cpu=(d:Int):=⟨(L.tsk i).cpu.toNat,by have:=hT.c0;omega⟩;have hdn:d<n:=by have:=hT.c1;omega
 have hmb:aY.wrap ((BitVec.ofInt aY.bits ((L.tsk i).mask.fdiv (2^min c 64))&&&BitVec.ofInt aY.bits 1).toNat:Int)=(L.tsk i).mask/2^c%2:=by have:=qC (x:=(L.tsk i).mask) (c:=(c:Int)) hT.m0 hT.m1 oO oO;rwa [bP]at this
 have hmay:xO L c p.1 i↔(L.tsk i).ready=aB/\(d:Int)=p.1/\(L.tsk i).mask/2^c%2=1/\L.cur d≠(L.tsk i).id:=by unfold xO;rw[hd,bP]
 have hw2:aL.wrap (2*(L.tsk i).weight)=2*(L.tsk i).weight:=wrap_i64 oO oO;obtain⟨V,eV⟩:∃V,V=aL.wrap (p.2-W):=⟨_,rfl⟩;have eV2:=eV.symm;have hcan:HK L p.2 W i b↔2*(L.tsk i).weight<=V/\(b<0\/(L.tsk b.toNat).weight<(L.tsk i).weight):=by unfold HK;rw[<-eV]
 rw[hO]at hN⊢
 simp only[MH,LH];try(simp-dsimp-implicitDefEqProofs (disch:=omega)only[go_sem,gY,eq_self,↓reduceIte])
 obtain⟨r1,r2,r3,r4⟩:=hmay.1 hyes;rw[<-eV]at hca;subst hb;have q1:(2*(L.tsk i).weight<=V)=True:=eq_true hca;have q3:((y:Int)<0)=False:=eq_false oO;have q4:((L.tsk y).weight<(L.tsk i).weight)=False:=eq_false q2;have r2b:((d:Int)==p.1)=aB:=by rw[beq_iff_eq];exact r2
 have r4b:(L.cur d !=(L.tsk i).id)=aB:=by simp[r4]
 have kp:Kp [0,1,3,4,5,6,7,8,9,10,11,12,13,14,19,25,26,27,40,48,49,50,51,116,120] (λ i=>if k<=i then i-k+1 else 0):=jZ;have uU:=fP hd hmb hneg hNM hw2 eV2 r1 r2b (ID r3 r4b q1 q3 q4);refine dJ ?_;refine dI λ ht=>?_;refine AI [.raw (aA 95) ⟨.lit (.int .i64 W),k+2,[],NM⟩] ?_;refine iE ?_ ?_;all_goals(first|exact RF (loc:=[(k+1,⟨8,aB,_⟩),(k,⟨8,aB,_⟩)]) hm rfl iF rfl rfl rfl (λ x hx=>by simp only[eY,oS,or_false]at hx;rcases hx with hx|hx<;>rw[hx]<;>simp only[]<;>omega) hwp eNM|skip)
 all_goals((refine dJ ?_;refine dI λ ht=>?_))
 all_goals(refine hN _ _ _ ?_)
 all_goals(try(simp only[MH,LH]))
 all_goals(try(simp-dsimp-implicitDefEqProofs (disch:=omega)only[go_sem,gY,hd,hmb,hneg,hNM,hw2,eV2,r1,r2b,r3,r4b,q1,q3,q4,eq_self,↓reduceIte]))
 all_goals(exact gM)
theorem a4D(L:LSt)(n:Nat)(hS:Rt0 L n)(o:Opn)(m tk k:Nat)(hm:m+6+L.sl.length<=tk)(hk:tk<k):OpOk Γ 96 L n o m tk k:=by
 have hnt:=hS.nt;have hcp:=hS.cpus;have hnu:=hS.nu;have hn1:=hS.n1;have hn64:=hS.n64;have hns:=hS.ns;have hcpu:=cpu L o.cpu m tk (k+1) hm oO (Γ:=Γ);by_cases h1:0<=o.cpu/\o.cpu<L.cpus;rotate_left
 .rw[decide_eq_false h1]at hcpu;refine⟨L,0,300,tk,k,hS,⟨fN L,.inr rfl⟩,hm,⟨hk,.inl rfl⟩,aF _,?_⟩;obtain⟨RH,eRH⟩:∃x:aO,x=MH m tk L:=⟨_,rfl⟩;obtain⟨RV,eRV⟩:∃x:AVal,x=jQ (0) 300:=⟨_,rfl⟩;refine Tr.mono (dR (k:=k) (V:=RV) (RH:=RH) oO (by rw[eRV];rfl) (by rw[eRH];exact fL oO oO) ?_) (λ _ _ _ h=>⟨h.1,h.2.1.trans eRV,h.2.2.trans eRH⟩);refine cN Tryz.func96 rfl 136 rfl bB ?_;simp only[MH,LH];have kp:Kp [0,1,3,4,5,6,7,8,9,10,11,12,13,14,19,25,26,27,40,48,49,50,51,116,120] (λ i=>if k<=i then i-k+1 else 0):=jZ;refine dJ ?_;refine cA ?_;refine jR [.far (.lit (.bool aE)) (k+1) [(k,⟨8,aB,[gJ o]⟩)] (MH m tk L) (MH m tk L)] ?_;refine jV (zs ?_) (zs ?_) (zs ?_);.intro q;simp only[MH,LH,fG,gJ,aV,aU]
  .exact cB (λ i hi=>by simp only[AM.look];repeat(rw[iN oO])) rfl
  simp only[MH,LH];refine fR ?_;apply zN;refine dJ ?_;refine dI λ ht=>?_;refine kJ (zN ?_);refine⟨?_,?_⟩;.rw[eRV];rfl
  rw[eRH];simp only[MH,LH];exact fR gG
 rw[decide_eq_true h1]at hcpu;obtain⟨c,hc⟩:∃c:Nat,o.cpu=(c:Int):=⟨o.cpu.toNat,oO⟩;rw[hc]at hcpu;have hcn:c<n:=oO;have hneg:((c:Int)<0)=False:=eq_false oO;have hO:gJ o=[.lit (.int .u8 o.kind),.lit (.int .i64 (c:Int)),.lit (.int .i64 o.task),.lit (.int .i64 o.group),.lit (.int .i64 o.weight),.lit (.int .i64 o.to),.lit (.int .i64 o.ticks),.lit (.int .u64 o.mask)]:=by rw[<-hc];rfl
 obtain⟨NM,eNM⟩:∃x,x=(MH m tk L).map (·.1):=⟨_,rfl⟩;have hNM:YM (NM.map (λ i=>if k<=i then i-k+1 else 0))=[0]:=by rw[eNM];exact sQ hm hk (λ i hi=>iN oO)
 have hwp:=aZE L (c:Int) oO (Γ:=Γ);obtain⟨W,eW⟩:∃W,W=IE L (c:Int) L.tl.length:=⟨_,rfl⟩;rw[<-eW]at hwp;obtain⟨fm,efm⟩:∃fm,fm=fmN L c n:=⟨_,rfl⟩;obtain⟨B,eB⟩:∃B,B=bsN L c fm.1 fm.2 W L.tl.length:=⟨_,rfl⟩;have hBst:Bst L c B:=by rw[eB];exact aHG (aF _)
 suffices hmain:∀(RV:AVal) (RH:aO) (L':LSt),L'.sl.length=L.sl.length->(B= -1->RV=jQ 0 6/\RH=MH m tk L)->(∀j:Nat,B=(j:Int)->j<L.tl.length/\RV=jQ (L.tsk j).id 0/\RH=MH m tk L'/\Tr aD Γ 172 (k+1) [.ptr m 0 0,j,c] (MH m tk L) (λ k1 r1 H1=>k1=k+1/\r1= .tup []/\H1=MH m tk L'))->Tr aD Γ 96 k [.ptr m 0 0,.agg (gJ o)] (MH m tk L) (λ k1 r1 H1=>r1=RV/\QS H1 RH)by
  rcases hBst with hb|⟨j,hb,hj⟩;.refine⟨L,0,6,tk,k,hS,⟨fN L,.inr rfl⟩,hm,⟨hk,.inl rfl⟩,aF _,?_⟩;obtain⟨RH,eRH⟩:∃x:aO,x=MH m tk L:=⟨_,rfl⟩;obtain⟨RV,eRV⟩:∃x:AVal,x=jQ 0 6:=⟨_,rfl⟩;refine Tr.mono (dR (kk:=k) (V:=RV) (RH:=RH) oO (by rw[eRV];rfl) (by rw[eRH];exact fL oO oO) ?_) (λ _ _ _ h=>⟨h.1,h.2.1.trans eRV,h.2.2.trans eRH⟩);exact hmain RV RH L rfl (λ _=>⟨eRV,eRH⟩) (λ j h=>oO)
  obtain⟨L',hL',hF',hmove⟩:=move L n hS j hj.1 c hcn hj.2.2.1 (aOW hS hj.1 hj.2.2.2) m tk (k+1) hm oO (Γ:=Γ);have hLs:=hF'.ns;refine⟨L',(L.tsk j).id,0,tk,k,hL',⟨hF',.inl rfl⟩,hm,⟨hk,.inl rfl⟩,aF _,?_⟩;obtain⟨RH,eRH⟩:∃x:aO,x=MH m tk L':=⟨_,rfl⟩;obtain⟨RV,eRV⟩:∃x:AVal,x=jQ (L.tsk j).id 0:=⟨_,rfl⟩;refine Tr.mono (dR (kk:=k) (V:=RV) (RH:=RH) oO (by rw[eRV];rfl) (by rw[eRH];exact fL oO oO) ?_) (λ _ _ _ h=>⟨h.1,h.2.1.trans eRV,h.2.2.trans eRH⟩);exact hmain RV RH L' hLs (λ h=>oO) (λ q hq=>by obtain rfl:q=j:=oO;exact⟨hj.1,eRV,eRH,hmove⟩)
 intro RV RH L' hL' hno hyes;refine cN Tryz.func96 rfl 136 rfl bB ?_;simp only[MH,LH];have kp:Kp [0,1,3,4,5,6,7,8,9,10,11,12,13,14,19,25,26,27,40,48,49,50,51,116,120] (λ i=>if k<=i then i-k+1 else 0):=jZ;have uU:=hc;refine dJ ?_;refine cA ?_;refine jR [.far (.lit (.bool aB)) (k+1) [(k,⟨8,aB,[gJ o]⟩)] (MH m tk L) (MH m tk L)] ?_;refine jV (zs ?_) (zs ?_) (zs ?_);.intro q;simp only[MH,LH,fG,gJ,hc,aV,aU]
 .exact cB (λ i hi=>by simp only[AM.look];repeat(rw[iN oO])) rfl
 simp only[MH,LH];refine fR ?_;apply zN;refine dJ ?_;refine dI λ ht=>?_;refine bY (X:=Nat) rfl [0,1,3,4,5,6,7,8,9,10,11,12,13,14,19,25,26,27,40,48,49,50,51,116,120] (k+1) (λ j=>[(26,j),(6,.lit (.int .i64 (fmN L c j).1)),(7,.lit (.int .i64 (fmN L c j).2))]) (λ j=>(k,⟨8,aB,[gJ o]⟩)::MH m tk L) (λ j=>j<=n) (λ j=>n-j) 0 ?_ (aZ _) ?_
 .simp only[MH,LH];try simp only[gJ,hc]
  rw[fmN];refine fR ?_;apply zN;exact gM
 intro j hj;obtain⟨p,ep⟩:∃p,p=fmN L c j:=⟨_,rfl⟩;rw[<-ep];simp only[MH,LH];try simp only[gJ,hc]
 refine fR ?_;apply zN;by_cases hj2:j<n
 .have hw:=weight L (j:Int) m tk (k+1) hm oO oO (Γ:=Γ);obtain⟨w,ew⟩:∃w,w=IE L (j:Int) L.tl.length:=⟨_,rfl⟩;rw[<-ew]at hw;have hsu:fmN L c (j+1)=if(j:Int)≠c/\p.2<w then((j:Int),w)else p:=by rw[fmN,<-ep,<-ew]
  refine dJ ?_;refine dI λ ht=>?_;refine jR [.far (.lit (.int .i64 w)) (k+1) [(k,⟨8,aB,[gJ o]⟩)] (MH m tk L) (MH m tk L)] ?_;refine jV (zs ?_) (zs ?_) (zs ?_);.intro q;simp only[MH,LH,fG,gJ,hc,aV,aU]
  .exact cB (λ i hi=>by simp only[AM.look];repeat(rw[iN oO])) rfl
  simp only[MH,LH];refine fR ?_;apply zN;by_cases hq:(j:Int)≠c/\p.2<w
  .rw[iP hq]at hsu;refine dJ ?_;refine oU ⟨λ ht=>⟨λ hg=>⟨?_⟩⟩⟩;refine⟨j+1,oO,oO,?_⟩;rw[hsu];simp only[MH,LH];try simp only[gJ,hc]
   refine fR ?_;apply zN;exact gM
  rw[iN hq]at hsu;refine dJ ?_;refine SG ⟨λ ht=>⟨λ hg=>⟨?_⟩⟩⟩ ⟨λ ht=>⟨λ hg=>⟨?_⟩⟩⟩;all_goals(refine⟨j+1,oO,oO,?_⟩)
  all_goals(rw[hsu])
  all_goals(try(simp only[MH,LH]))
  all_goals(try simp only[gJ,hc])
  all_goals(try(simp-dsimp-implicitDefEqProofs (disch:=omega)only[go_sem,gY,hc,eq_self,↓reduceIte]))
  all_goals(exact gM)
 have hjn:j=n:=oO;rw[hjn,<-efm]at ep;subst ep;refine dJ ?_;refine dI λ ht=>?_;refine gL (nV (fr1:=[(0,.ptr m 0 0),(3,.ptr k 0 0),(6,.lit (.int .i64 p.1)),(7,.lit (.int .i64 p.2)),(48,.sl tk 0 L.tl.length),(49,.lit (.int .i64 (L.tl.length:Int))),(50,.lit (.int .i64 0)),(10,.lit (.int .i64 (-1)))]) (k1:=k+1) (H1:=(k,⟨8,aB,[gJ o]⟩)::MH m tk L) (pH oO (sW @hc) (by rw[hO];simp only[MH,LH];simp-dsimp-implicitDefEqProofs (disch:=omega)only[go_sem,gY,hc,aM,eq_self,↓reduceIte]) (by simp-dsimp-implicitDefEqProofs (disch:=omega)only[go_sem,gY,RE,ltB_iff,aM,eq_self,↓reduceIte]) (by rw[hO];simp only[MH,LH];simp-dsimp-implicitDefEqProofs (disch:=omega)only[go_sem,gY,RE,ltB_iff,aM,eq_self,↓reduceIte]))) ?_;refine bY (X:=Nat) rfl [0,1,3,4,5,6,7,8,9,10,11,12,13,14,19,25,26,27,40,48,49,50,51,116,120] (k+1) (λ i=>[(50,i),(10,(bsN L c p.1 p.2 W i))]) (λ i=>(k,⟨8,aB,[gJ o]⟩)::MH m tk L) (λ i=>i<=L.tl.length) (λ i=>L.tl.length-i) 0 ?_ (aZ _) ?_
 .rw[bsN,hO];simp only[MH,LH];try(simp-dsimp-implicitDefEqProofs (disch:=omega)only[go_sem,gY,hc,eq_self,↓reduceIte])
  exact gM
 intro i hi;obtain⟨b,eb⟩:∃b,b=bsN L c p.1 p.2 W i:=⟨_,rfl⟩;have hB:Bst L c b:=by rw[eb];exact aHG hi
 rw[<-eb];by_cases hi2:i<L.tl.length
 .have hsu:bsN L c p.1 p.2 W (i+1)=if xO L c p.1 i/\HK L p.2 W i b then(i:Int)else b:=by rw[bsN,<-eb]
  by_cases hmay:xO L c p.1 i;rotate_left
  .refine bHG L n hS o m tk k hm hk c hc hcn i hi2 p W b hwp hmay _ _ (λ k1 fr1 H1 h=>⟨i+1,oO,oO,?_⟩);rw[hsu,iN (λ h=>hmay h.1)];exact h
  by_cases hca:2*(L.tsk i).weight<=aL.wrap (p.2-W);rotate_left
  .refine bHK L n hS o m tk k hm hk c hc hcn i hi2 p W b hwp hmay hca _ _ (λ k1 fr1 H1 h=>⟨i+1,oO,oO,?_⟩);rw[hsu,iN (λ h=>hca h.2.1)];exact h
  rcases hB with hb|⟨y,hb,hy⟩;.refine bHJ L n hS o m tk k hm hk c hc hcn i hi2 p W b hwp hmay hca hb _ _ (λ k1 fr1 H1 h=>⟨i+1,oO,oO,?_⟩);rw[hsu,iP ⟨hmay,hca,.inl oO⟩];exact h
  by_cases q2:(L.tsk y).weight<(L.tsk i).weight;.refine bHI L n hS o m tk k hm hk c hc hcn i hi2 p W b hwp hmay hca y hb hy.1 q2 _ _ (λ k1 fr1 H1 h=>⟨i+1,oO,oO,?_⟩);rw[hsu,iP ⟨hmay,hca,.inr (by rw[hb,bP];exact q2)⟩];exact h
  refine bHH L n hS o m tk k hm hk c hc hcn i hi2 p W b hwp hmay hca y hb hy.1 q2 _ _ (λ k1 fr1 H1 h=>⟨i+1,oO,oO,?_⟩);rw[hsu,iN (λ h=>by have:=h.2.2;rw[hb,bP]at this;omega)]
  exact h
 rw[hO];simp only[MH,LH];try(simp-dsimp-implicitDefEqProofs (disch:=omega)only[go_sem,gY,hc,eq_self,↓reduceIte])
 have hil:i=L.tl.length:=oO;rw[hil,<-eB]at eb;subst eb;rcases hB with hb|⟨y,hb,hy⟩
 .obtain⟨eRV,eRH⟩:=hno hb;subst hb;refine dJ ?_;refine oU ⟨λ ht ht=>zN ?_⟩;have uU:=hc;refine kJ (zN ?_);refine⟨?_,?_⟩;.rw[eRV];rfl
  rw[eRH];simp only[MH,LH];exact fR gG
 obtain⟨hy1,eRV,eRH,hmv⟩:=hyes y hb;subst hb;refine dJ ?_;refine oU ⟨λ ht ht=>zN ?_⟩;refine jR [.far (.tup []) (k+1) [(k,⟨8,aB,[gJ o]⟩)] (MH m tk L) (MH m tk L')] ?_;refine jV (zs ?_) (zs ?_) (zs ?_);.intro q;simp only[MH,LH,fG,gJ,hc,aV,aU]
 .exact cB (λ i hi=>by simp only[AM.look];repeat(rw[iN oO])) hL'
 simp only[MH,LH];refine fR ?_;apply zN;refine dJ ?_;refine cA ?_;have uU:=hc;refine kJ (zN ?_);refine⟨?_,?_⟩;.rw[eRV];rfl
 rw[eRH];simp only[MH,LH];exact fR gG
structure OpnOk (o:Opn):Prop where
 k1:1<=o.kind
 k2:o.kind<=10
 m0:0<=o.mask
 m1:o.mask<18446744073709551616
def opF(kd:Int):FuncId:=if kd=1 then 88 else if kd=2 then 89 else if kd=3 then 90 else if kd=4 then 90 else if kd=5 then 91 else if kd=6 then 92 else if kd=7 then 93 else if kd=8 then 94 else if kd=9 then 95 else 96
theorem a7Y(L:LSt)(n:Nat)(hS:Rt0 L n)(o:Opn)(hl:L.tl.length<1000)(ho:OpnOk o)(m tk k:Nat)(hm:m+6+L.sl.length<=tk)(hk:tk<k):OpOk Γ (opF o.kind) L n o m tk k:=by
 unfold opF;repeat' split
 .exact bCB L n hS o hl ⟨ho.m0,ho.m1⟩ m tk k hm hk
 .exact bCE L n hS o m tk k hm hk
 .exact a5W L n hS o m tk k hm hk
 .exact a5W L n hS o m tk k hm hk
 .exact bGU L n hS o m tk k hm hk
 .exact pick L n hS o m tk k hm hk
 .exact aSE L n hS o m tk k hm hk
 .exact a0M L n hS o m tk k hm hk
 .exact a1L L n hS o m tk k hm hk
 exact a4D L n hS o m tk k hm hk
def a5L(m:Nat):List (List AVal):=[[.bfn 88 m 0 0],[.bfn 89 m 0 0],[.bfn 90 m 0 0],[.bfn 90 m 0 0],[.bfn 91 m 0 0],[.bfn 92 m 0 0],[.bfn 93 m 0 0],[.bfn 94 m 0 0],[.bfn 95 m 0 0],[.bfn 96 m 0 0]]
theorem aMH{m:Nat}{kd:Int}(h1:1<=kd)(h2:kd<=10):(a5L m)[(kd-1).toNat]? =aA [.bfn (opF kd) m 0 0]:=by
 obtain⟨q,rfl⟩:∃q:Nat,kd=(q:Int)+1:=⟨(kd-1).toNat,oO⟩;have hq:q<10:=oO;have e:((q:Int)+1-1).toNat=q:=oO;rw[e]
 match q,hq with
 |0,_=>rfl
 |1,_=>rfl
 |2,_=>rfl
 |3,_=>rfl
 |4,_=>rfl
 |5,_=>rfl
 |6,_=>rfl
 |7,_=>rfl
 |8,_=>rfl
 |9,_=>rfl
 |q+10,h=>omega
theorem aST{kd:Int}:aT aD (opF kd)=aB:=by
 unfold opF;repeat' split
 all_goals(first|exact y15|exact tf_callable_89|exact tf_callable_90|exact tf_callable_91|exact tf_callable_92|exact tf_callable_93|exact tf_callable_94|exact tf_callable_95|exact tf_callable_96)
theorem mdo(L:LSt)(n:Nat)(hS:Rt L n)(o:Opn)(hl:L.tl.length<1000)(ho:OpnOk o)(m tk k:Nat)(hm:m+6+L.sl.length<=tk)(hk:tk<k):
 ∃ L' a e tk' k',Rt L' n/\Later L L'/\L'.tl.length<=L.tl.length+1/\m+6+L.sl.length<=tk'/\tk'<k'/\(tk'=tk\/k<=tk')/\k<=k'∧
   Tr aD Γ 33 k [.ptr m 0 0,.agg (gJ o)] (MH m tk L) (λ k1 r1 H1=>k1=k'/\r1=jQ a e/\H1=MH m tk' L'):=by
 obtain⟨M,a,e,tk',k',hM,⟨hF,hU⟩,h1,⟨h2,h2'⟩,h3,hT⟩:=a7Y L n hS.r0 o hl ho m tk (k+2) hm oO (Γ:=Γ);have hMl:=hF.ns;have hkd:fA.wrap (o.kind-1)=o.kind-1:=nX (by have:=ho.k1;omega) (by have:=ho.k2;omega);have hko:=ho.k1;have hk2:=ho.k2;have hget:=aMH (m:=m) hko hk2;obtain⟨SR,eSR⟩:∃x,x=a5L m:=⟨_,rfl⟩;rw[<-eSR]at hget;have hSRl:SR.length=10:=by rw[eSR];rfl
 have hcal:aT aD (opF o.kind)=aB:=aST;simp only[gJ,jQ]at hT;by_cases he:e=0
 .obtain⟨hR,hRf,hRF,hRt⟩:=aSD hM;have hrise:=bHL M n hM m tk' k' oO h2 (Γ:=Γ);have hRl:=hRF.ns;have hLat:=hF.later.trans hRF.later;refine⟨xJ M n,a,0,tk',k',⟨hR,hRf,aPB hS.r0 hR hLat hS.cfg⟩,hLat,by rw[hRt];exact hF.nt,h1,h2,oO,oO,?_⟩;subst he;obtain⟨RH,eRH⟩:∃x:aO,x=MH m tk' (xJ M n):=⟨_,rfl⟩;obtain⟨RV,eRV⟩:∃x:AVal,x=jQ a 0:=⟨_,rfl⟩;refine Tr.mono (dR (kk:=k') (V:=RV) (RH:=RH) oO (by rw[eRV];rfl) (by rw[eRH];exact fL oO oO) ?_) (λ _ _ _ h=>⟨h.1,h.2.1.trans eRV,h.2.2.trans eRH⟩);refine cN Tryz.func33 rfl 67 rfl bB ?_;simp only[MH,LH];have kp:Kp [0,1,3,4,5,6,7,8,17,49,62] (λ i=>if k<=i then i-k+1 else 0):=jZ;have uU:=hkd;refine dJ ?_;refine oU ⟨λ ht ht=>⟨λ hg=>⟨?_⟩⟩⟩;rw[show([[.bfn 88 m 0 0],[.bfn 89 m 0 0],[.bfn 90 m 0 0],[.bfn 90 m 0 0],[.bfn 91 m 0 0],[.bfn 92 m 0 0],[.bfn 93 m 0 0],[.bfn 94 m 0 0],[.bfn 95 m 0 0],[.bfn 96 m 0 0]]:List (List AVal))=SR by rw[eSR];rfl];refine aLT rfl [0,1,3,4,5,6,7,8,17,49,62] [.far (.tup [a,(0:Int)]) k' [(k+1,⟨1,aE,SR⟩),(k,⟨8,aB,[gJ o]⟩)] (MH m tk L) (MH m tk' M)] iF rfl (λ K hK=>?_);simp-dsimp-implicitDefEqProofs (disch:=omega)only[go_sem,gY,hkd,hget,hSRl,hcal,eq_self,↓reduceIte];(repeat'(first|(refine And.intro ?_ ?_)|(refine kY (λ hb=>?_) (λ hb=>?_)<;>(have hg:=hb;(try simp only[nfb]at hg);simp-dsimp-implicitDefEqProofs (disch:=omega)only[go_sem,gY,hkd,hget,hSRl,hcal,hb,hg,eq_self,↓reduceIte];clear hb;(try simp only[nfe]at hg)))));(all_goals(try omega));.intro q;simp only[MH,LH,fG,gJ,aV,aU]
  .exact cB (λ i hi=>by simp only[AM.look];repeat(rw[iN oO])) hMl
  refine hK _ _ _ _ (aVW (by simp only[bI,bQ,shC,YH,bNX,List.isEmpty_map,aYR,BW,KV];rfl) (by decide+kernel) (by simp only[fU,AA,iC,lG];exact FB (fL oO oO) (fL oO oO))) (λ hx=>?_)
  clear hx hK;simp only[MH,LH];have uU:=DR hkd hget hSRl hcal;refine fR ?_;apply zN;refine dJ ?_;refine dI λ ht=>?_;refine jR [.far (.tup []) k' [(k+1,⟨1,aE,SR⟩),(k,⟨8,aB,[gJ o]⟩)] (MH m tk' M) (MH m tk' (xJ M n))] ?_;refine jV (zs ?_) (zs ?_) (zs ?_);.intro q;simp only[MH,LH,fG,gJ,aV,aU]
  .exact cB (λ i hi=>by simp only[AM.look];repeat(rw[iN oO])) hRl
  simp only[MH,LH];refine fR ?_;apply zN;refine dJ ?_;refine cA ?_;have uU:=DR hkd hget hSRl hcal;refine kJ (zN ?_);refine⟨?_,?_⟩;.rw[eRV];rfl
  rw[eRH];simp only[MH,LH];exact fR gG
 obtain rfl:M=L:=hU.resolve_left he;refine⟨M,0,e,tk',k',hS,JS M,mF _,h1,h2,oO,oO,?_⟩;obtain⟨RH,eRH⟩:∃x:aO,x=MH m tk' M:=⟨_,rfl⟩;obtain⟨RV,eRV⟩:∃x:AVal,x=jQ 0 e:=⟨_,rfl⟩;refine Tr.mono (dR (kk:=k') (V:=RV) (RH:=RH) oO (by rw[eRV];rfl) (by rw[eRH];exact fL oO oO) ?_) (λ _ _ _ h=>⟨h.1,h.2.1.trans eRV,h.2.2.trans eRH⟩);refine cN Tryz.func33 rfl 67 rfl bB ?_;simp only[MH,LH];have kp:Kp [0,1,3,4,5,6,7,8,17,49,62] (λ i=>if k<=i then i-k+1 else 0):=jZ;have uU:=hkd;refine dJ ?_;refine oU ⟨λ ht ht=>⟨λ hg=>⟨?_⟩⟩⟩;rw[show([[.bfn 88 m 0 0],[.bfn 89 m 0 0],[.bfn 90 m 0 0],[.bfn 90 m 0 0],[.bfn 91 m 0 0],[.bfn 92 m 0 0],[.bfn 93 m 0 0],[.bfn 94 m 0 0],[.bfn 95 m 0 0],[.bfn 96 m 0 0]]:List (List AVal))=SR by rw[eSR];rfl];refine aLT rfl [0,1,3,4,5,6,7,8,17,49,62] [.far (.tup [a,e]) k' [(k+1,⟨1,aE,SR⟩),(k,⟨8,aB,[gJ o]⟩)] (MH m tk M) (MH m tk' M)] iF rfl (λ K hK=>?_);simp-dsimp-implicitDefEqProofs (disch:=omega)only[go_sem,gY,hkd,hget,hSRl,hcal,eq_self,↓reduceIte];(repeat'(first|(refine And.intro ?_ ?_)|(refine kY (λ hb=>?_) (λ hb=>?_)<;>(have hg:=hb;(try simp only[nfb]at hg);simp-dsimp-implicitDefEqProofs (disch:=omega)only[go_sem,gY,hkd,hget,hSRl,hcal,hb,hg,eq_self,↓reduceIte];clear hb;(try simp only[nfe]at hg)))));(all_goals(try omega));.intro q;simp only[MH,LH,fG,gJ,aV,aU]
 .exact cB (λ i hi=>by simp only[AM.look];repeat(rw[iN oO])) hMl
 refine hK _ _ _ _ (aVW (by simp only[bI,bQ,shC,YH,bNX,List.isEmpty_map,aYR,BW,KV];rfl) (by decide+kernel) (by simp only[fU,AA,iC,lG];exact FB (fL oO oO) (fL oO oO))) (λ hx=>?_)
 clear hx hK;simp only[MH,LH];have uU:=DR hkd hget hSRl hcal;refine fR ?_;apply zN;refine dJ ?_;refine dI λ ht=>?_;have uU:=DR hkd hget hSRl hcal;refine kJ (zN ?_);refine⟨?_,?_⟩;.rw[eRV];rfl
 rw[eRH];simp only[MH,LH];exact fR gG
structure Sm where
 kind:Int
 cpu:Int
 task:Int
 group:Int
 to:Int
 weight:Int
 ticks:Int
 mask:Int
def smc(x:Sm):List AVal:=[.lit (.int .u8 x.kind),.lit (.int .u8 x.cpu),.lit (.int .u8 x.task),.lit (.int .u8 x.group),.lit (.int .u8 x.to),.lit (.int .u16 x.weight),.lit (.int .u32 x.ticks),.lit (.int .u8 x.mask)]
structure SmOk (x:Sm):Prop where
 k0:0<=x.kind/\x.kind<=255
 c0:0<=x.cpu/\x.cpu<=255
 t0:0<=x.task/\x.task<=255
 g0:0<=x.group/\x.group<=255
 o0:0<=x.to/\x.to<=255
 w0:0<=x.weight/\x.weight<=65535
 i0:0<=x.ticks/\x.ticks<=4294967295
 m0:0<=x.mask/\x.mask<=255
def kindL:List Int:=[1,1,1,2,2,3,3,4,5,5,5,5,6,6,6,6,7,8,9,10]
def aAC(to cpu:Int):Int:=aY.wrap ((BitVec.ofInt aY.bits (aY.wrap (aY.wrap (1*2^min (1+to).toNat 64)-1))|||BitVec.ofInt aY.bits (aY.wrap (1*2^min cpu.toNat 64))).toNat:Int)
def TC(x:Sm):Opn:=⟨kindL.getD (x.kind%20).toNat 0,x.cpu%4,1+x.task%12,x.group%6,1+x.weight,x.to%4,1+x.ticks%16777216,if x.mask%4>0 then aAC (x.to%4) (x.cpu%4)else x.mask⟩
def opL(f:Nat->Sm)(i:Nat):List (List AVal):=(aN i).map λ j=>gJ (TC (f j))
theorem aSS(f:Nat->Sm):opL f 0=[]:=rfl
theorem ZY(f:Nat->Sm)(i:Nat):opL f (i+1)=opL f i++[gJ (TC (f i))]:=NS
theorem aJF(f:Nat->Sm)(i:Nat):(opL f i).length=i:=by simp[opL]
attribute [go_sem] aJF smc
theorem aUI{q:Nat}(h:q<20):(kindL.map λ k=>AVal.lit (.int .u8 k))[q]? =aA (.lit (.int .u8 (kindL.getD q 0))):=by have:q<kindL.length:=h;simp[oH,this]
theorem a1Q(f:Nat->Sm)(hf:∀i,SmOk (f i))(nl most q:Nat)(hq:q=min nl most)(hn:q<=1000)(hm2:most<=1000)(hnl:nl<=9223372036854775807):AM.Pure aD Γ 32 [.rd 8 nl (λ i=>smc (f i)),most] (.rd 8 q (λ i=>gJ (TC (f i)))):=by
 refine bT Tryz.func32 rfl 79 rfl bB rfl λ k=>?_;have e0:(if(nl:Int)<(most:Int)then(nl:Int)else(most:Int))=(q:Int):=by split<;>omega
 have e1:(if(most:Int)<(nl:Int)then(most:Int)else(nl:Int))=(q:Int):=by split<;>omega
 have kp:=gZ k [0,1,4,5,7,8,14,15,16,17,53];have uU:=zA e0 e1;refine wl ?_;refine cA ?_;refine bY (X:=Nat) rfl [0,1,4,5,7,8,14,15,16,17,53] (k+1) (λ i=>[(16,i),(5,dG k (opL f i))]) (λ i=>cL k 8 (opL f i) []) (λ i=>i<=q) (λ i=>q-i) 0 ?_ (aZ _) ?_;.rw[aSS];refine rR ?_;apply zN;exact nV (wV (And.intro (@e0) (@e1)))
 intro i hi;obtain⟨hk0,hc0,ht0,hg0,ho0,hw0,hi0,hm0⟩:=hf i;obtain⟨y,ey⟩:∃y,y=f i:=⟨_,rfl⟩;rw[<-ey]at hk0 hc0 ht0 hg0 ho0 hw0 hi0 hm0;have hqi:(((q-0:Nat):Int))=(q:Int):=oO;have uU:=zA hqi @iV;refine rR ?_;apply zN;by_cases hi2:i<q
 .have a1:aL.wrap y.cpu=y.cpu:=wrap_i64 oO oO;have a2:aL.wrap y.task=y.task:=wrap_i64 oO oO;have a3:aL.wrap y.group=y.group:=wrap_i64 oO oO;have a4:aL.wrap y.to=y.to:=wrap_i64 oO oO;have a5:aL.wrap y.weight=y.weight:=wrap_i64 oO oO;have a6:aY.wrap y.mask=y.mask:=wrap_u64 oO oO;have b1:y.cpu.tmod 4=y.cpu%4:=dS oO;have b2:y.task.tmod 12=y.task%12:=dS oO;have b3:y.group.tmod 6=y.group%6:=dS oO;have b4:y.to.tmod 4=y.to%4:=dS oO;have b5:y.ticks.tmod 16777216=y.ticks%16777216:=dS oO;have b6:y.mask.tmod 4=y.mask%4:=dS oO;have b7:y.kind.tmod 20=y.kind%20:=dS oO;have c1:aL.wrap (y.cpu%4)=y.cpu%4:=wrap_i64 oO oO;have c2:aL.wrap (y.task%12)=y.task%12:=wrap_i64 oO oO;have c3:aL.wrap (y.group%6)=y.group%6:=wrap_i64 oO oO;have c4:aL.wrap (y.to%4)=y.to%4:=wrap_i64 oO oO;have c5:lM.wrap (y.ticks%16777216)=y.ticks%16777216:=wrap_u32 oO oO;have c6:fA.wrap (y.mask%4)=y.mask%4:=nX oO oO;have c7:fA.wrap (y.kind%20)=y.kind%20:=nX oO oO;have d1:aL.wrap (1+y.task%12)=1+y.task%12:=wrap_i64 oO oO;have d2:aL.wrap (1+y.weight)=1+y.weight:=wrap_i64 oO oO;have d3:aL.wrap (y.ticks%16777216)=y.ticks%16777216:=wrap_i64 oO oO;have d4:aL.wrap (1+y.ticks%16777216)=1+y.ticks%16777216:=wrap_i64 oO oO;have d5:aL.wrap (1+y.to%4)=1+y.to%4:=wrap_i64 oO oO;obtain⟨q1,hq1⟩:∃q1:Nat,y.kind%20=(q1:Int):=⟨(y.kind%20).toNat,oO⟩;have g1:=aUI (q:=q1) oO;simp only[kindL,bI,bQ]at g1;rw[<-HW q1]at g1;have hq20:(0<=(q1:Int)/\(q1:Int)<20)=True:=eq_true oO;have s1:(1+y.to%4<0)=False:=eq_false oO;have s2:(y.cpu%4<0)=False:=eq_false oO;have ey2:=ey.symm;have uU:=fP hqi @iV ey2 a1 a2 a3 a4 a5 (fP a6 b1 b2 b3 b4 b5 b6 b7 (fP c1 c2 c3 c4 c5 c6 c7 d1 (fP d2 d3 d4 d5 hq1 g1 hq20 s1 s2)));refine wl ?_;refine SG ⟨λ ht ht=>zN ?_⟩ ⟨λ ht ht=>zN ?_⟩
  .refine⟨i+1,oO,oO,?_⟩;have ho:gJ (TC (f i))=[.lit (.int .u8 ([1,1,1,2,2,3,3,4,5,5,5,5,6,6,6,6,7,8,9,10].getD (q1*1) 0)),.lit (.int .i64 (y.cpu%4)),.lit (.int .i64 (1+y.task%12)),.lit (.int .i64 (y.group%6)),.lit (.int .i64 (1+y.weight)),.lit (.int .i64 (y.to%4)),.lit (.int .i64 (1+y.ticks%16777216)),.lit (.int .u64 (aAC (y.to%4) (y.cpu%4)))]:=by rw[<-ey];simp only[gJ,TC,hq1,bP,HW,kindL];rw[iP oO];first|rfl|skip
   rw[aAC]at ho;rw[ZY,ho];refine rR ?_;apply zN;exact DZ (k+4) k (pH oO (by simp-dsimp-implicitDefEqProofs only[go_sem,hqi,iV,ey2,a1,a2,a3,a4,a5,a6,b1,b2,b3,b4,b5,b6,b7,c1,c2,c3,c4,c5,c6,c7,d1,d2,d3,d4,d5,hq1,g1,hq20,s1,s2,aM,eq_self,↓reduceIte]) (by simp-dsimp-implicitDefEqProofs only[go_sem,hqi,iV,ey2,a1,a2,a3,a4,a5,a6,b1,b2,b3,b4,b5,b6,b7,c1,c2,c3,c4,c5,c6,c7,d1,d2,d3,d4,d5,hq1,g1,hq20,s1,s2,aM,eq_self,↓reduceIte]) (by simp-dsimp-implicitDefEqProofs only[go_sem,hqi,iV,ey2,a1,a2,a3,a4,a5,a6,b1,b2,b3,b4,b5,b6,b7,c1,c2,c3,c4,c5,c6,c7,d1,d2,d3,d4,d5,hq1,g1,hq20,s1,s2,aM,eq_self,↓reduceIte]) (by simp-dsimp-implicitDefEqProofs only[go_sem,hqi,iV,ey2,a1,a2,a3,a4,a5,a6,b1,b2,b3,b4,b5,b6,b7,c1,c2,c3,c4,c5,c6,c7,d1,d2,d3,d4,d5,hq1,g1,hq20,s1,s2,aM,eq_self,↓reduceIte]))
  refine⟨i+1,oO,oO,?_⟩;have ho:gJ (TC (f i))=[.lit (.int .u8 ([1,1,1,2,2,3,3,4,5,5,5,5,6,6,6,6,7,8,9,10].getD (q1*1) 0)),.lit (.int .i64 (y.cpu%4)),.lit (.int .i64 (1+y.task%12)),.lit (.int .i64 (y.group%6)),.lit (.int .i64 (1+y.weight)),.lit (.int .i64 (y.to%4)),.lit (.int .i64 (1+y.ticks%16777216)),.lit (.int .u64 y.mask)]:=by rw[<-ey];simp only[gJ,TC,hq1,bP,HW,kindL];rw[iN oO];first|rfl|skip
  rw[ZY,ho];refine rR ?_;apply zN;exact DZ (k+4) k (pH oO (by simp-dsimp-implicitDefEqProofs only[go_sem,hqi,iV,ey2,a1,a2,a3,a4,a5,a6,b1,b2,b3,b4,b5,b6,b7,c1,c2,c3,c4,c5,c6,c7,d1,d2,d3,d4,d5,hq1,g1,hq20,s1,s2,aM,eq_self,↓reduceIte]) (by simp-dsimp-implicitDefEqProofs only[go_sem,hqi,iV,ey2,a1,a2,a3,a4,a5,a6,b1,b2,b3,b4,b5,b6,b7,c1,c2,c3,c4,c5,c6,c7,d1,d2,d3,d4,d5,hq1,g1,hq20,s1,s2,aM,eq_self,↓reduceIte]) (by simp-dsimp-implicitDefEqProofs only[go_sem,hqi,iV,ey2,a1,a2,a3,a4,a5,a6,b1,b2,b3,b4,b5,b6,b7,c1,c2,c3,c4,c5,c6,c7,d1,d2,d3,d4,d5,hq1,g1,hq20,s1,s2,aM,eq_self,↓reduceIte]) (by simp-dsimp-implicitDefEqProofs only[go_sem,hqi,iV,ey2,a1,a2,a3,a4,a5,a6,b1,b2,b3,b4,b5,b6,b7,c1,c2,c3,c4,c5,c6,c7,d1,d2,d3,d4,d5,hq1,g1,hq20,s1,s2,aM,eq_self,↓reduceIte]))
 have hi':i=q:=oO;subst hi';refine wl ?_;refine dI λ ht=>?_;refine aIF rfl (id:=k) (s:=8) (l:=opL f i) 4 (by simp-dsimp-implicitDefEqProofs only[go_sem,hqi,iV,aM,eq_self,↓reduceIte]) (by simp-dsimp-implicitDefEqProofs only[go_sem,hqi,iV,aM,eq_self,↓reduceIte]) ?_;refine⟨_,rfl,?_⟩;rw[rows,aJF];exact vW _ _ _
theorem a1H(a b:Int):0<=aAC a b/\aAC a b<18446744073709551616:=by unfold aAC;rw[IntKind.wrap_u64];omega
theorem a7X{x:Sm}(hx:SmOk x):OpnOk (TC x):=by
 have hk:=hx.k0;have hm:=hx.m0;obtain⟨q,hq⟩:∃q:Nat,x.kind%20=(q:Int):=⟨(x.kind%20).toNat,oO⟩;have hq2:q<20:=oO;have hkd:(TC x).kind=kindL.getD q 0:=by simp only[TC,hq,bP]
 have hall:∀q,q<20->1<=kindL.getD q 0/\kindL.getD q 0<=10:=by decide
 have:=hall q hq2
 have hmask:0<=(TC x).mask/\(TC x).mask<18446744073709551616:=by
  show 0<=(if x.mask%4>0 then aAC (x.to%4) (x.cpu%4)else x.mask)/\(if x.mask%4>0 then aAC (x.to%4) (x.cpu%4)else x.mask)<18446744073709551616;split;.exact a1H _ _
  omega
 exact⟨oO,oO,hmask.1,hmask.2⟩
end Go.Proofs.T
end
