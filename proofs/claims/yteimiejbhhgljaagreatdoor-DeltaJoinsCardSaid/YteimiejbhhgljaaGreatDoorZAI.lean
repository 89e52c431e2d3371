import Derived.Test.YteimiejbhhgljaaGreatDoorZAH
set_option linter.unusedVariables false
set_option linter.unusedSimpArgs false
set_option maxHeartbeats 0
set_option maxRecDepth 100000
open Bool renaming and_eq_true->aH,and_true->iC,false->aE,false_or->AE,true->aB,true_or->AD
open Int renaming ediv_nonneg->a5D,fdiv_eq_ediv_of_nonneg->dU,pow_nonneg->AW,toNat_natCast->bP
open Go.IntKind renaming u64->aY
open List renaming all_cons->fU,all_eq_true->aW,cons_append->aV,ext_getElem?->dZ,getD->oH,getD_eq_getElem?_getD->aR,getElem?_eq_none->aX,getElem?_map->aP,getElem?_range->mG,getElem?_set->dD,getElem_mem->JR,map->rS,map_append->aM,map_congr_left->fD,map_cons->bI,map_map->jM,map_nil->bQ,mem_map->dB,mem_range->dK,nil_append->aU,range->aN,replicate->bE
open Nat renaming add_assoc->gD,add_sub_cancel->a4V,add_sub_cancel_left->lE,le_refl->aF,mod_eq_of_lt->JP,mul_one->HW,not_lt_zero->bO,sub_self->RX,zero_le->aZ
open Option renaming map_eq_none_iff->dO,map_eq_some_iff->aG,map_some->bU,none->aC,some->aA
open Go.Proofs.Tryz renaming func122->bKP,func95->bFX,prog->aD
section
namespace Go.Proofs.T
open Go Go.AM Go.Proofs
variable{Γ:dL}
theorem a4L{x:Int}(h1:0<=x)(h2:x<18446744073709551616):aY.wrap ((BitVec.ofInt aY.bits x&&&BitVec.ofInt aY.bits 1).toNat:Int)=x%2:=by
 obtain⟨n,rfl⟩:∃n:Nat,x=(n:Int):=⟨x.toNat,oO⟩
 have e1:(BitVec.ofInt aY.bits (n:Int)&&&BitVec.ofInt aY.bits 1).toNat=n%2:=by
  rw[BitVec.toNat_and];have a:(BitVec.ofInt aY.bits (n:Int)).toNat=n:=by show(BitVec.ofInt 64 (n:Int)).toNat=n;rw[BitVec.ofInt_natCast,BitVec.toNat_ofNat];exact JP oO
  have b:(BitVec.ofInt aY.bits 1).toNat=1:=by decide
  rw[a,b,Nat.and_one_is_mod]
 rw[e1];exact wrap_u64 oO oO
theorem qC{x:Int}{c:Int}(h1:0<=x)(h2:x<18446744073709551616)(h3:0<=c)(h4:c<64):aY.wrap ((BitVec.ofInt aY.bits (x.fdiv (2^min c.toNat 64))&&&BitVec.ofInt aY.bits 1).toNat:Int)=x/2^c.toNat%2:=by rw[(oO:min c.toNat 64=c.toNat),dU _ (AW oO)];have h5:0<=x/2^c.toNat:=a5D h1 (AW oO);have h6:x/2^c.toNat<=x:=Int.ediv_le_self _ h1;exact a4L h5 oO
theorem a1L(L:LSt)(n:Nat)(hS:Rt0 L n)(o:Opn)(m tk k:Nat)(hm:m+6+L.sl.length<=tk)(hk:tk<k):OpOk Γ 95 L n o m tk k:=by
 have hnt:=hS.nt;have hcp:=hS.cpus;have hnu:=hS.nu;have hn64:=hS.n64;have hcpu:=cpu L o.to m tk (k+1) hm oO (Γ:=Γ);have htask:=KB o.task (Γ:=Γ);by_cases h1:0<=o.to/\o.to<L.cpus;rotate_left
 .rw[decide_eq_false h1]at hcpu;refine⟨L,0,300,tk,k,hS,⟨fN L,.inr rfl⟩,hm,⟨hk,.inl rfl⟩,aF _,?_⟩;obtain⟨RH,eRH⟩:∃x:aO,x=MH m tk L:=⟨_,rfl⟩;obtain⟨RV,eRV⟩:∃x:AVal,x=jQ 0 300:=⟨_,rfl⟩;refine Tr.mono (dR (k:=k) (V:=RV) (RH:=RH) oO (by rw[eRV];rfl) (by rw[eRH];exact fL oO oO) ?_) (λ _ _ _ h=>⟨h.1,h.2.1.trans eRV,h.2.2.trans eRH⟩);refine cN bFX rfl 67 rfl bB ?_;simp only[MH,LH];have kp:=gZ k [0,1,3,4,5,6,7,13,22,25,34,47];refine dJ ?_;refine cA ?_;refine jR [.far (.lit (.bool aE)) (k+1) [(k,⟨8,aB,[gJ o]⟩)] (MH m tk L) (MH m tk L)] ?_;refine jV (zs ?_) (zs ?_) (zs ?_);.intro q;simp only[MH,LH,fG,gJ,aV,aU]
  .exact cB (λ i hi=>by simp only[AM.look];repeat(rw[iN oO])) rfl
  simp only[MH,LH];refine fR ?_;apply zN;refine dJ ?_;refine dI λ ht=>?_;refine kJ (zN ?_);refine⟨?_,?_⟩;.rw[eRV];rfl
  rw[eRH];simp only[MH,LH];exact fR gG
 rw[decide_eq_true h1]at hcpu;by_cases h2:1<=o.task/\o.task<=65535;rotate_left
 .rw[decide_eq_false h2]at htask;refine⟨L,0,301,tk,k,hS,⟨fN L,.inr rfl⟩,hm,⟨hk,.inl rfl⟩,aF _,?_⟩;obtain⟨RH,eRH⟩:∃x:aO,x=MH m tk L:=⟨_,rfl⟩;obtain⟨RV,eRV⟩:∃x:AVal,x=jQ 0 301:=⟨_,rfl⟩;refine Tr.mono (dR (k:=k) (V:=RV) (RH:=RH) oO (by rw[eRV];rfl) (by rw[eRH];exact fL oO oO) ?_) (λ _ _ _ h=>⟨h.1,h.2.1.trans eRV,h.2.2.trans eRH⟩);refine cN bFX rfl 67 rfl bB ?_;simp only[MH,LH];have kp:=gZ k [0,1,3,4,5,6,7,13,22,25,34,47];refine dJ ?_;refine cA ?_;refine jR [.far (.lit (.bool aB)) (k+1) [(k,⟨8,aB,[gJ o]⟩)] (MH m tk L) (MH m tk L)] ?_;refine jV (zs ?_) (zs ?_) (zs ?_);.intro q;simp only[MH,LH,fG,gJ,aV,aU]
  .exact cB (λ i hi=>by simp only[AM.look];repeat(rw[iN oO])) rfl
  simp only[MH,LH];refine fR ?_;apply zN;refine dJ ?_;refine dI λ ht=>?_;refine jR [.ret aE] ?_;refine cA ?_;refine dJ ?_;refine dI λ ht=>?_;refine kJ (zN ?_);refine⟨?_,?_⟩;.rw[eRV];rfl
  rw[eRH];simp only[MH,LH];exact fR gG
 rw[decide_eq_true h2]at htask;rcases zB hS o.task with hr|⟨i,hi,hid,hr⟩
 .have hfc:=find L o.task (-1) hr hS.sorted oO m tk (k+1) hm oO (Γ:=Γ);refine⟨L,0,6,tk,k,hS,⟨fN L,.inr rfl⟩,hm,⟨hk,.inl rfl⟩,aF _,?_⟩;obtain⟨RH,eRH⟩:∃x:aO,x=MH m tk L:=⟨_,rfl⟩;obtain⟨RV,eRV⟩:∃x:AVal,x=jQ 0 6:=⟨_,rfl⟩;refine Tr.mono (dR (k:=k) (V:=RV) (RH:=RH) oO (by rw[eRV];rfl) (by rw[eRH];exact fL oO oO) ?_) (λ _ _ _ h=>⟨h.1,h.2.1.trans eRV,h.2.2.trans eRH⟩);refine cN bFX rfl 67 rfl bB ?_;simp only[MH,LH];have kp:=gZ k [0,1,3,4,5,6,7,13,22,25,34,47];refine dJ ?_;refine cA ?_;refine jR [.far (.lit (.bool aB)) (k+1) [(k,⟨8,aB,[gJ o]⟩)] (MH m tk L) (MH m tk L)] ?_;refine jV (zs ?_) (zs ?_) (zs ?_);.intro q;simp only[MH,LH,fG,gJ,aV,aU]
  .exact cB (λ i hi=>by simp only[AM.look];repeat(rw[iN oO])) rfl
  simp only[MH,LH];refine fR ?_;apply zN;refine dJ ?_;refine dI λ ht=>?_;refine jR [.ret aB] ?_;refine cA ?_;refine dJ ?_;refine dI λ ht=>?_;refine jR [.far (.lit (.int .i64 (-1))) (k+1) [(k,⟨8,aB,[gJ o]⟩)] (MH m tk L) (MH m tk L)] ?_;refine jV (zs ?_) (zs ?_) (zs ?_);.intro q;simp only[MH,LH,fG,gJ,aV,aU]
  .exact cB (λ i hi=>by simp only[AM.look];repeat(rw[iN oO])) rfl
  simp only[MH,LH];refine fR ?_;apply zN;refine dJ ?_;refine dI λ ht=>?_;refine kJ (zN ?_);refine⟨?_,?_⟩;.rw[eRV];rfl
  rw[eRH];simp only[MH,LH];exact fR gG
 have hfc:=find L o.task i hr hS.sorted oO m tk (k+1) hm oO (Γ:=Γ);obtain⟨b,hb,hbp⟩:=aOY L o.task oO (Γ:=Γ);obtain⟨to,hto⟩:∃to:Nat,o.to=(to:Int):=⟨o.to.toNat,oO⟩;obtain⟨NM,eNM⟩:∃x,x=[m+3]:=⟨_,rfl⟩
 have hlend:∀ {o':Oper} {ev:Operand->Option AVal} {f:Operand} {args:Array Operand} {ty:Array TypeId} {B0:Blk} (ho:o'.op= .call {callee:= .value f,args:=args,argTypes:=ty}) (hg:aT aD 65=aB) (hf:ev f=aA (.fn 65 [])) (ha:pJ ev args.toList=aA [.sl (m+3) 0 L.ul.length,.lit (.int .i64 o.task)]),
  AM.Good aD Γ o' ev (AM.look ((k,B0)::MH m tk L)) (k+1) ⟨.lit (.bool b),k+1,[],[m+3]⟩:=λ {o'} {ev} {f} {args} {ty} {B0} ho hg hf ha=>
  aIS (Hc:=[(m+3,⟨1,aB,KW L⟩)]) ho hg hf ha (.cons (rK (B:=⟨1,aB,KW L⟩) (by simp[AM.look]) (by rw[FP];exact aF _) (λ _ _=>rfl) λ j hj=>⟨_,LN hj,nI rfl⟩) (.cons Bor.lit .nil)) (λ id B h=>by
   simp only[AM.look]at h;split at h;.rename_i e;subst e;cases h;simp only[MH,LH,AM.look];repeat(first|rw[iN oO]|rw[iP trivial])
   cases h) rfl hbp
 cases hbb:b with
 |true=>
  rw[hbb]at hlend;refine⟨L,0,304,tk,k,hS,⟨fN L,.inr rfl⟩,hm,⟨hk,.inl rfl⟩,aF _,?_⟩;obtain⟨RH,eRH⟩:∃x:aO,x=MH m tk L:=⟨_,rfl⟩;obtain⟨RV,eRV⟩:∃x:AVal,x=jQ 0 304:=⟨_,rfl⟩;refine Tr.mono (dR (k:=k) (V:=RV) (RH:=RH) oO (by rw[eRV];rfl) (by rw[eRH];exact fL oO oO) ?_) (λ _ _ _ h=>⟨h.1,h.2.1.trans eRV,h.2.2.trans eRH⟩);refine cN bFX rfl 67 rfl bB ?_;simp only[MH,LH];have kp:=gZ k [0,1,3,4,5,6,7,13,22,25,34,47];refine dJ ?_;refine cA ?_;refine jR [.far (.lit (.bool aB)) (k+1) [(k,⟨8,aB,[gJ o]⟩)] (MH m tk L) (MH m tk L)] ?_;refine jV (zs ?_) (zs ?_) (zs ?_);.intro q;simp only[MH,LH,fG,gJ,aV,aU]
  .exact cB (λ i hi=>by simp only[AM.look];repeat(rw[iN oO])) rfl
  simp only[MH,LH];refine fR ?_;apply zN;refine dJ ?_;refine dI λ ht=>?_;refine jR [.ret aB] ?_;refine cA ?_;refine dJ ?_;refine dI λ ht=>?_;refine jR [.far (.lit (.int .i64 (i:Int))) (k+1) [(k,⟨8,aB,[gJ o]⟩)] (MH m tk L) (MH m tk L)] ?_;refine jV (zs ?_) (zs ?_) (zs ?_);.intro q;simp only[MH,LH,fG,gJ,aV,aU]
  .exact cB (λ i hi=>by simp only[AM.look];repeat(rw[iN oO])) rfl
  simp only[MH,LH];refine fR ?_;apply zN;have kp:Kp [0,1,3,4,5,6,7,13,22,25,34,47] (λ i=>if k<=i then i-k+1 else 0):=jZ;refine dJ ?_;refine dI λ ht=>?_;refine AI [.raw (aA 33) ⟨.lit (.bool aB),k+1,[],[m+3]⟩] ?_;refine iE ?_ ?_;.exact hlend rfl iF rfl rfl
  refine dJ ?_;refine dI λ ht=>?_;refine kJ (zN ?_);refine⟨?_,?_⟩;.rw[eRV];rfl
  rw[eRH];simp only[MH,LH];exact fR gG
 |false=>
  rw[hbb]at hlend;have hnc:∀c,c<n->L.cur c≠o.task:=λ c hc e=>by have:=hb.2 ⟨c,oO,e⟩;rw[hbb]at this;cases this
  by_cases h5:(L.tsk i).cpu=o.to
  .refine⟨L,0,2,tk,k,hS,⟨fN L,.inr rfl⟩,hm,⟨hk,.inl rfl⟩,aF _,?_⟩;obtain⟨RH,eRH⟩:∃x:aO,x=MH m tk L:=⟨_,rfl⟩;obtain⟨RV,eRV⟩:∃x:AVal,x=jQ 0 2:=⟨_,rfl⟩;refine Tr.mono (dR (k:=k) (V:=RV) (RH:=RH) oO (by rw[eRV];rfl) (by rw[eRH];exact fL oO oO) ?_) (λ _ _ _ h=>⟨h.1,h.2.1.trans eRV,h.2.2.trans eRH⟩);refine cN bFX rfl 67 rfl bB ?_;simp only[MH,LH];have kp:Kp [0,1,3,4,5,6,7,13,22,25,34,47] (λ i=>if k<=i then i-k+1 else 0):=jZ;refine dJ ?_;refine cA ?_;refine jR [.far (.lit (.bool aB)) (k+1) [(k,⟨8,aB,[gJ o]⟩)] (MH m tk L) (MH m tk L)] ?_;refine jV (zs ?_) (zs ?_) (zs ?_);.intro q;simp only[MH,LH,fG,gJ,aV,aU]
   .exact cB (λ i hi=>by simp only[AM.look];repeat(rw[iN oO])) rfl
   simp only[MH,LH];refine fR ?_;apply zN;refine dJ ?_;refine dI λ ht=>?_;refine jR [.ret aB] ?_;refine cA ?_;refine dJ ?_;refine dI λ ht=>?_;refine jR [.far (.lit (.int .i64 (i:Int))) (k+1) [(k,⟨8,aB,[gJ o]⟩)] (MH m tk L) (MH m tk L)] ?_;refine jV (zs ?_) (zs ?_) (zs ?_);.intro q;simp only[MH,LH,fG,gJ,aV,aU]
   .exact cB (λ i hi=>by simp only[AM.look];repeat(rw[iN oO])) rfl
   simp only[MH,LH];refine fR ?_;apply zN;refine dJ ?_;refine dI λ ht=>?_;refine AI [.raw (aA 33) ⟨.lit (.bool aE),k+1,[],[m+3]⟩] ?_;refine iE ?_ ?_;.exact hlend rfl iF rfl rfl
   refine dJ ?_;refine oU ⟨λ ht ht=>zN ?_⟩;refine kJ (zN ?_);refine⟨?_,?_⟩;.rw[eRV];rfl
   rw[eRH];simp only[MH,LH];exact fR gG
  have hT:=hS.tk i hi;have hmb:=qC (x:=(L.tsk i).mask) (c:=o.to) hT.m0 hT.m1 h1.1 oO;have hneg:(o.to<0)=False:=eq_false oO;by_cases h6:(L.tsk i).mask/2^o.to.toNat%2=0
  .refine⟨L,0,305,tk,k,hS,⟨fN L,.inr rfl⟩,hm,⟨hk,.inl rfl⟩,aF _,?_⟩;obtain⟨RH,eRH⟩:∃x:aO,x=MH m tk L:=⟨_,rfl⟩;obtain⟨RV,eRV⟩:∃x:AVal,x=jQ 0 305:=⟨_,rfl⟩;refine Tr.mono (dR (k:=k) (V:=RV) (RH:=RH) oO (by rw[eRV];rfl) (by rw[eRH];exact fL oO oO) ?_) (λ _ _ _ h=>⟨h.1,h.2.1.trans eRV,h.2.2.trans eRH⟩);refine cN bFX rfl 67 rfl bB ?_;simp only[MH,LH];have kp:Kp [0,1,3,4,5,6,7,13,22,25,34,47] (λ i=>if k<=i then i-k+1 else 0):=jZ;refine dJ ?_;refine cA ?_;refine jR [.far (.lit (.bool aB)) (k+1) [(k,⟨8,aB,[gJ o]⟩)] (MH m tk L) (MH m tk L)] ?_;refine jV (zs ?_) (zs ?_) (zs ?_);.intro q;simp only[MH,LH,fG,gJ,aV,aU]
   .exact cB (λ i hi=>by simp only[AM.look];repeat(rw[iN oO])) rfl
   simp only[MH,LH];refine fR ?_;apply zN;refine dJ ?_;refine dI λ ht=>?_;refine jR [.ret aB] ?_;refine cA ?_;refine dJ ?_;refine dI λ ht=>?_;refine jR [.far (.lit (.int .i64 (i:Int))) (k+1) [(k,⟨8,aB,[gJ o]⟩)] (MH m tk L) (MH m tk L)] ?_;refine jV (zs ?_) (zs ?_) (zs ?_);.intro q;simp only[MH,LH,fG,gJ,aV,aU]
   .exact cB (λ i hi=>by simp only[AM.look];repeat(rw[iN oO])) rfl
   simp only[MH,LH];refine fR ?_;apply zN;refine dJ ?_;refine dI λ ht=>?_;refine AI [.raw (aA 33) ⟨.lit (.bool aE),k+1,[],[m+3]⟩] ?_;refine iE ?_ ?_;.exact hlend rfl iF rfl rfl
   refine dJ ?_;refine oU ⟨λ ht ht=>zN ?_⟩;have uU:=zA hneg hmb;refine dJ ?_;refine dI λ ht=>?_;have uU:=zA hneg hmb;refine kJ (zN ?_);refine⟨?_,?_⟩;.rw[eRV];rfl
   rw[eRH];simp only[MH,LH];exact fR gG
  obtain⟨L',hL',hF',hmove⟩:=move L n hS i hi to oO (by rw[hto]at h6;have:=Int.emod_two_eq ((L.tsk i).mask/2^to);simp only[bP]at h6;omega) (λ c hc=>by rw[hid];exact hnc c hc) m tk (k+1) hm oO (Γ:=Γ);have hLs:=hF'.ns;rw[<-hto]at hmove;refine⟨L',0,0,tk,k,hL',⟨hF',.inl rfl⟩,hm,⟨hk,.inl rfl⟩,aF _,?_⟩;obtain⟨RH,eRH⟩:∃x:aO,x=MH m tk L':=⟨_,rfl⟩;obtain⟨RV,eRV⟩:∃x:AVal,x=jQ 0 0:=⟨_,rfl⟩;refine Tr.mono (dR (k:=k) (V:=RV) (RH:=RH) oO (by rw[eRV];rfl) (by rw[eRH];exact fL oO oO) ?_) (λ _ _ _ h=>⟨h.1,h.2.1.trans eRV,h.2.2.trans eRH⟩);refine cN bFX rfl 67 rfl bB ?_;simp only[MH,LH];have kp:Kp [0,1,3,4,5,6,7,13,22,25,34,47] (λ i=>if k<=i then i-k+1 else 0):=jZ;refine dJ ?_;refine cA ?_;refine jR [.far (.lit (.bool aB)) (k+1) [(k,⟨8,aB,[gJ o]⟩)] (MH m tk L) (MH m tk L)] ?_;refine jV (zs ?_) (zs ?_) (zs ?_);.intro q;simp only[MH,LH,fG,gJ,aV,aU]
  .exact cB (λ i hi=>by simp only[AM.look];repeat(rw[iN oO])) rfl
  simp only[MH,LH];refine fR ?_;apply zN;refine dJ ?_;refine dI λ ht=>?_;refine jR [.ret aB] ?_;refine cA ?_;refine dJ ?_;refine dI λ ht=>?_;refine jR [.far (.lit (.int .i64 (i:Int))) (k+1) [(k,⟨8,aB,[gJ o]⟩)] (MH m tk L) (MH m tk L)] ?_;refine jV (zs ?_) (zs ?_) (zs ?_);.intro q;simp only[MH,LH,fG,gJ,aV,aU]
  .exact cB (λ i hi=>by simp only[AM.look];repeat(rw[iN oO])) rfl
  simp only[MH,LH];refine fR ?_;apply zN;refine dJ ?_;refine dI λ ht=>?_;refine AI [.raw (aA 33) ⟨.lit (.bool aE),k+1,[],[m+3]⟩] ?_;refine iE ?_ ?_;.exact hlend rfl iF rfl rfl
  refine dJ ?_;refine oU ⟨λ ht ht=>zN ?_⟩;have uU:=zA hneg hmb;refine dJ ?_;refine dI λ ht=>?_;refine jR [.far (.tup []) (k+1) [(k,⟨8,aB,[gJ o]⟩)] (MH m tk L) (MH m tk L')] ?_;refine jV (zs ?_) (zs ?_) (zs ?_);.intro q;simp only[MH,LH,fG,gJ,aV,aU]
  .exact cB (λ i hi=>by simp only[AM.look];repeat(rw[iN oO])) hF'.ns
  simp only[MH,LH];refine fR ?_;apply zN;refine dJ ?_;refine cA ?_;have uU:=zA hneg hmb;refine kJ (zN ?_);refine⟨?_,?_⟩;.rw[eRV];rfl
  rw[eRH];simp only[MH,LH];exact fR gG
def cpR(L:LSt)(i:Nat):List (List AVal):=(aN L.sl.length).map λ j=>if j<i then YK L.st j else [.lit (.slice aC 0 0)]
theorem HF(L:LSt)(i:Nat):(cpR L i).length=L.sl.length:=by simp[cpR]
theorem aWI(L:LSt):cpR L 0=bE L.sl.length [.lit (.slice aC 0 0)]:=dZ λ j=>by
 by_cases h:j<L.sl.length;.simp[cpR,h]
 rw[aX (by rw[HF];omega),aX (by simp;omega)]
theorem a3J(L:LSt)(i:Nat)(h:i<L.sl.length):(cpR L i).set i (YK L.st i)=cpR L (i+1):=dZ λ j=>by
 rw[dD];by_cases e:i=j;.subst e;rw[iP rfl,iP (by rw[HF];exact h)];simp[cpR,h]
 rw[iN e];by_cases hj:j<L.sl.length
 .simp only[cpR,aP,mG hj,bU];by_cases h1:j<i;.rw[iP h1,iP oO]
  rw[iN h1,iN oO]
 rw[aX (by rw[HF];omega),aX (by rw[HF];omega)]
theorem aWJ(L:LSt):cpR L L.sl.length=(aN L.sl.length).map (YK L.st):=fD λ j hj=>iP (dK.1 hj)
attribute [go_sem] HF stc
theorem jG{α:Type}(l:List α)(f:α->List AVal)(h:∀x,(f x).all AM.one=aB):((l.map f).all λ row=>row.all AM.one)=aB:=by rw[aW];intro row hr;simp only[dB]at hr;obtain⟨t,_,rfl⟩:=hr;exact h t
theorem aTS{m tk i:Nat}{L:LSt}(hm:m+6+L.sl.length<=tk)(hi:i<L.sl.length):AM.look (MH m tk L) (m+(6+i))=aA ⟨3,aB,BB L i⟩:=by
 simp only[MH,LH,AM.look];repeat rw[iN oO]
 exact TN hi
theorem a3M(L:LSt)(n:Nat)(hS:Rt0 L n)(m tk k:Nat)(hm:m+6+L.sl.length<=tk)(hk:tk<k):
 Tr aD Γ 87 k [.agg (stc m tk L)] (MH m tk L) (λ k1 r1 H1=>k1=k/\r1= .agg L.st.cells/\H1=MH m tk L):=by
 have hnt:=hS.nt;have hng:=hS.ng;have hnk:=hS.nk;have hnu:=hS.nu;have hn1:=hS.n1;have hn64:=hS.n64;have hns:=hS.ns;have hns1:=hS.ns1;obtain⟨RH,eRH⟩:∃x:aO,x=MH m tk L:=⟨_,rfl⟩;obtain⟨RV,eRV⟩:∃x:AVal,x= .agg L.st.cells:=⟨_,rfl⟩;refine Tr.mono (dR (kk:=k) (V:=RV) (RH:=RH) oO (by rw[eRV];rfl) (by rw[eRH];exact fL oO oO) ?_) (λ _ _ _ h=>⟨h.1,h.2.1.trans eRV,h.2.2.trans eRH⟩);have cG:=a9V (QT L) L.gl.length (gf L.st) (m+1) (k+2) (MF L) oO oO (jG _ _ λ _=>rfl) (λ i hi=>by rw[WV hi];rfl) oO (Γ:=Γ);have cK:=aWT (RG L) L.kl.length (kf L.st) (m+2) (k+4) (MC L) oO oO (jG _ _ λ _=>rfl) (λ i hi=>by rw[WN hi];rfl) oO (Γ:=Γ);have cU:=aWT (KW L) L.ul.length (uf L.st) (m+3) (k+6) (FP L) oO oO (jG _ _ λ _=>rfl) (λ i hi=>by rw[LN hi];rfl) oO (Γ:=Γ)
 have cT:Tr aD Γ 122 (k+8) [.sl tk 0 L.tl.length] [(tk,⟨8,aB,oJ L⟩)] (λ k1 r1 H1=>k1=k+8+2/\r1= .rd 8 L.tl.length (tf L.st)/\H1=[(tk,⟨8,aB,oJ L⟩)]):=by
  by_cases h0:L.tl.length=0;.rw[h0];exact a3P (oJ L) (tf L.st) tk (k+8) oO
  exact a9T (oJ L) L.tl.length (tf L.st) tk (k+8) (tN L) oO oO (jG _ _ λ _=>rfl) (λ i hi=>by rw[wH hi];rfl) oO
 refine cN Tryz.func87 rfl 45 rfl bB ?_;simp only[MH,LH];have kp:=gZ k [0,1,2,3,4,5,29,30,31,32];refine dJ ?_;refine cA ?_;refine jR [.gen (.rd 2 L.gl.length (gf L.st)) (k+4) [(m+1,⟨2,aB,QT L⟩)] [(m+1,⟨2,aB,QT L⟩)]] ?_;refine cA ?_;refine dJ ?_;refine cA ?_;have kp:Kp [0,1,2,3,4,5,29,30,31,32] (λ i=>if i=m+2 then 1 else if i=m+3 then 2 else if i=tk then 3 else if k<=i then i-k+4 else 0):=jZ;refine AI [.gen (.rd 1 L.kl.length (kf L.st)) (k+6) [(m+2,⟨1,aB,RG L⟩)] [(m+2,⟨1,aB,RG L⟩)],.gen (.rd 1 L.ul.length (uf L.st)) (k+8) [(m+3,⟨1,aB,KW L⟩)] [(m+3,⟨1,aB,KW L⟩)],.gen (.rd 8 L.tl.length (tf L.st)) (k+10) [(tk,⟨8,aB,oJ L⟩)] [(tk,⟨8,aB,oJ L⟩)]] ?_;refine cA ?_;refine dJ ?_;refine cA ?_;obtain⟨crow,ecr⟩:∃r:List AVal,r=[.lit (.int .i64 L.cpus),.lit (.int .u64 L.credit),.rd 2 L.gl.length (gf L.st),.rd 1 L.kl.length (kf L.st),.rd 1 L.ul.length (uf L.st),.rd 8 L.tl.length (tf L.st),.sl (m+5) 0 L.sl.length]:=⟨_,rfl⟩;obtain⟨zrow,ezr⟩:∃r:List AVal,r=[.lit (.int .i64 0),.lit (.int .u64 0),.lit (.slice aC 0 0),.lit (.slice aC 0 0),.lit (.slice aC 0 0),.lit (.slice aC 0 0),.lit (.slice aC 0 0)]:=⟨_,rfl⟩;refine bY (X:=Nat) rfl [0,1,2,3,4,5,29,30,31,32] (k+11) (λ i=>[(31,i)]) (λ i=>(k+10,⟨1,aB,cpR L i⟩)::(k+1,⟨7,aB,[zrow]⟩)::(k,⟨7,aE,[crow]⟩)::MH m tk L) (λ i=>i<=L.sl.length) (λ i=>L.sl.length-i) 0 ?_ (aZ _) ?_;.simp only[MH,LH];rw[aWI,ecr,ezr];refine fR ?_;apply zN;exact gM
 intro i hi;by_cases hi2:i<L.sl.length
 .have hrow:=hS.rows i hi2;have cS:=a9U L i n m tk (k+11) hm oO hi2 hrow oO oO (Γ:=Γ);have hset:=a3J L i hi2;rw[YK,show L.st.nsp i=n from hrow]at hset;have hcget:(cpR L i)[i]? =aA [.lit (.slice aC 0 0)]:=by simp[cpR,hi2]
  rw[ecr,ezr];simp only[MH,LH];have uU:=tZ hrow hset hcget;refine fR ?_;apply zN;have kp:Kp [0,1,2,3,4,5,29,30,31,32] (λ i=>if k<=i then i-k+1 else 0):=jZ;refine dJ ?_;refine dI λ ht=>?_;refine jR [.far (.rd 3 n (sf L.st i)) (k+13) [(k+10,⟨1,aB,cpR L i⟩),(k+1,⟨7,aB,[zrow]⟩),(k,⟨7,aE,[crow]⟩)] (MH m tk L) (MH m tk L)] ?_;refine CM (zs ?_) (zs ?_) (zs ?_) (zs ?_);.rw[aTS hm hi2];rfl
  .intro q;simp only[MH,LH,fG,ecr,ezr,aV,aU]
  .exact cB (λ i hi=>by simp only[AM.look];repeat(rw[iN oO])) rfl
  simp only[MH,LH];refine fR ?_;apply zN;refine dJ ?_;refine cA ?_;refine⟨i+1,oO,oO,?_⟩;try rw[ecr,ezr]
  try(simp only[MH,LH])
  try(simp-dsimp-implicitDefEqProofs (disch:=omega)only[go_sem,gY,hrow,hset,hcget,eq_self,↓reduceIte])
  exact gM
 have hil:i=L.sl.length:=oO;rw[ecr,ezr];subst hil;rw[aWJ];simp only[MH,LH];refine fR ?_;apply zN;have kp:Kp [0,1,2,3,4,5,29,30,31,32] (λ i=>if k<=i then i-k+1 else 0):=jZ;refine dJ ?_;refine dI λ ht=>?_;refine gL (gK (k+10) (B:=⟨1,aB,(aN L.sl.length).map (YK L.st)⟩) (by simp(disch:=omega)only[AM.look,gY,↓reduceIte]) rfl) ?_;simp-dsimp-implicitDefEqProofs only[pS,jA,go_sem,eq_self,↓reduceIte]
 have hrs:VLes [L.cpus,.lit (.int .u64 L.credit),.rd 2 L.gl.length (gf L.st),.rd 1 L.kl.length (kf L.st),.rd 1 L.ul.length (uf L.st),.rd 8 L.tl.length (tf L.st),.rd 1 L.sl.length (λ j=>((aN L.sl.length).map (YK L.st)).getD j [])] L.st.cells:=
  .cons (bJ _) (.cons (bJ _) (.cons (bJ _) (.cons (bJ _) (.cons (bJ _) (.cons (bJ _) (.cons (vW _ _ _) .nil))))))
 refine gL (Mv.row (k+1) (l:=[]) L.st.cells (by simp(disch:=omega)only[AM.look,gY,↓reduceIte,aU];rfl) hrs rfl) ?_;refine fR ?_;apply zN;have uU:=Go.AM.uU;refine kJ (zN ?_);refine⟨?_,?_⟩;.rw[eRV];rfl
 rw[eRH];simp only[MH,LH];exact fR gG
theorem aTD(L:LSt)(n:Nat)(hS:Rt0 L n)(m tk k:Nat)(hm:m+6+L.sl.length<=tk)(hk:tk<k):
 Tr aD Γ 31 k [.ptr m 0 0] (MH m tk L) (λ k1 r1 H1=>k1=k/\r1= .tup [.agg L.st.cells,(0:Int)]/\H1=MH m tk L):=by
 obtain⟨RH,eRH⟩:∃x:aO,x=MH m tk L:=⟨_,rfl⟩;obtain⟨RV,eRV⟩:∃x:AVal,x= .tup [.agg L.st.cells,.lit (.int .i64 0)]:=⟨_,rfl⟩;refine Tr.mono (dR (kk:=k) (V:=RV) (RH:=RH) oO (by rw[eRV];rfl) (by rw[eRH];exact fL oO oO) ?_) (λ _ _ _ h=>⟨h.1,h.2.1.trans eRV,h.2.2.trans eRH⟩);have hcp:=a3M L n hS m tk (k+1) hm oO (Γ:=Γ);simp only[stc,St.cells]at hcp;refine cN Tryz.func31 rfl 19 rfl bB ?_;simp only[MH,LH];have kp:Kp [0,2,3,12] (λ i=>if k<=i then i-k+1 else 0):=jZ;refine dJ ?_;refine dI λ ht=>?_;refine jR [.far (.agg [L.st.cpus,.lit (.int .u64 L.st.credit),.rd 2 L.st.ng (gf L.st),.rd 1 L.st.nk (kf L.st),.rd 1 L.st.nu (uf L.st),.rd 8 L.st.nt (tf L.st),.rd 1 L.st.ns (YK L.st)]) (k+1) [(k,⟨7,aB,[[(0:Int),.lit (.int .u64 0),(),(),(),(),()]]⟩)] (MH m tk L) (MH m tk L)] ?_;refine CM (zs ?_) (zs ?_) (zs ?_) (zs ?_);.simp only[MH,LH];exact fR gG;try rfl
 .intro q;simp only[MH,LH,fG,aV,aU]
 .exact cB (λ i hi=>by simp only[AM.look];repeat(rw[iN oO])) rfl
 refine kJ (zN ?_);refine⟨?_,?_⟩;.rw[eRV];rfl
 rw[eRH];simp only[MH,LH];exact fR gG
theorem ZX(n:Nat)(f:Nat->List AVal)(k:Nat)(hn0:0<n)(hn2:n<=100000)(hone:(((aN n).map f).all λ row=>row.all AM.one)=aB):
 Tr aD Γ 121 k [.rd 1 n f] [] (λ k1 r1 H1=>k1=k+2/\r1= .sl (k+1) 0 n/\H1=[(k+1,⟨1,aB,(aN n).map f⟩)]):=by
 obtain⟨R,eR⟩:∃R,R=(aN n).map f:=⟨_,rfl⟩;have hl:R.length=n:=by rw[eR];simp
 obtain⟨RH,eRH⟩:∃x:aO,x=[(k+1,⟨1,aB,R⟩)]:=⟨_,rfl⟩;rw[<-eR]at hone⊢
 refine Tr.mono (dR (kk:=k+2) (V:= .sl (k+1) 0 n) (RH:=RH) oO (by simp[bd,LJ,iM,jS]) (by rw[eRH];exact jB (by simp only[jS,dTt];omega) rfl) ?_) (λ _ _ _ h=>⟨h.1,h.2.1,h.2.2.trans eRH⟩);have hne:¬n=0:=oO;have eR2:=eR.symm;refine cN Tryz.func121 rfl 8 rfl bB ?_;have kp:=gZ k [0,2,4];have uU:=DR hone hne hn0 eR2;refine dJ ?_;refine dI λ ht=>?_;have uU:=DR hone hne hn0 eR2;refine kJ (zN ?_);refine⟨rfl,?_⟩;rw[eRH];exact fR gG
theorem a0T(n:Nat)(f:Nat->List AVal)(k:Nat)(hn0:0<n)(hn2:n<=100000)(hone:(((aN n).map f).all λ row=>row.all AM.one)=aB):
 Tr aD Γ 120 k [.rd 2 n f] [] (λ k1 r1 H1=>k1=k+2/\r1= .sl (k+1) 0 n/\H1=[(k+1,⟨2,aB,(aN n).map f⟩)]):=by
 obtain⟨R,eR⟩:∃R,R=(aN n).map f:=⟨_,rfl⟩;have hl:R.length=n:=by rw[eR];simp
 obtain⟨RH,eRH⟩:∃x:aO,x=[(k+1,⟨2,aB,R⟩)]:=⟨_,rfl⟩;rw[<-eR]at hone⊢
 refine Tr.mono (dR (kk:=k+2) (V:= .sl (k+1) 0 n) (RH:=RH) oO (by simp[bd,LJ,iM,jS]) (by rw[eRH];exact jB (by simp only[jS,dTt];omega) rfl) ?_) (λ _ _ _ h=>⟨h.1,h.2.1,h.2.2.trans eRH⟩);have hne:¬n=0:=oO;have eR2:=eR.symm;refine cN Tryz.func120 rfl 8 rfl bB ?_;have kp:=gZ k [0,2,4];have uU:=DR hone hne hn0 eR2;refine dJ ?_;refine dI λ ht=>?_;have uU:=DR hone hne hn0 eR2;refine kJ (zN ?_);refine⟨rfl,?_⟩;rw[eRH];exact fR gG
theorem a0S(n:Nat)(f:Nat->List AVal)(k:Nat)(hn0:0<n)(hn2:n<=100000)(hone:(((aN n).map f).all λ row=>row.all AM.one)=aB):
 Tr aD Γ 124 k [.rd 3 n f] [] (λ k1 r1 H1=>k1=k+2/\r1= .sl (k+1) 0 n/\H1=[(k+1,⟨3,aB,(aN n).map f⟩)]):=by
 obtain⟨R,eR⟩:∃R,R=(aN n).map f:=⟨_,rfl⟩;have hl:R.length=n:=by rw[eR];simp
 obtain⟨RH,eRH⟩:∃x:aO,x=[(k+1,⟨3,aB,R⟩)]:=⟨_,rfl⟩;rw[<-eR]at hone⊢
 refine Tr.mono (dR (kk:=k+2) (V:= .sl (k+1) 0 n) (RH:=RH) oO (by simp[bd,LJ,iM,jS]) (by rw[eRH];exact jB (by simp only[jS,dTt];omega) rfl) ?_) (λ _ _ _ h=>⟨h.1,h.2.1,h.2.2.trans eRH⟩);have hne:¬n=0:=oO;have eR2:=eR.symm;refine cN Tryz.func124 rfl 8 rfl bB ?_;have kp:=gZ k [0,2,4];have uU:=DR hone hne hn0 eR2;refine dJ ?_;refine dI λ ht=>?_;have uU:=DR hone hne hn0 eR2;refine kJ (zN ?_);refine⟨rfl,?_⟩;rw[eRH];exact fR gG
theorem bHP:AM.Pure aD Γ 122 [()] ():=by refine bT bKP rfl 8 rfl bB rfl λ k=>?_;have kp:=gZ k [0,2,4];refine dJ ?_;refine dI λ ht=>?_;refine bV rfl ⟨_,rfl,bC ?_⟩;rfl
def zI:List AVal:=[.lit (.int .i64 0)]
def zS:List AVal:=[.lit (.int .u64 0),.lit (.int .u32 0),.lit (.int .u64 0)]
def sY(b ns n:Nat)(i:Nat):List (List AVal):=(aN ns).map λ j=>if j<i then [.sl (b+j) 0 n]else [.lit (.slice aC 0 0)]
theorem wX(b ns n i:Nat):(sY b ns n i).length=ns:=by simp[sY]
theorem aWK(b ns n:Nat):sY b ns n 0=bE ns [.lit (.slice aC 0 0)]:=dZ λ j=>by
 by_cases h:j<ns;.simp[sY,h]
 rw[aX (by rw[wX];omega),aX (by simp;omega)]
theorem a3K(b ns n i:Nat)(h:i<ns):(sY b ns n i).set i [.sl (b+i) 0 n]=sY b ns n (i+1):=dZ λ j=>by
 rw[dD];by_cases e:i=j;.subst e;rw[iP rfl,iP (by rw[wX];exact h)];simp[sY,h]
 rw[iN e];by_cases hj:j<ns
 .simp only[sY,aP,mG hj,bU];by_cases h1:j<i;.rw[iP h1,iP oO]
  rw[iN h1,iN oO]
 rw[aX (by rw[wX];omega),aX (by rw[wX];omega)]
theorem sG(b ns n:Nat):sY b ns n ns=(aN ns).map λ j=>[.sl (b+j) 0 n]:=fD λ j hj=>iP (dK.1 hj)
attribute [go_sem] wX zI zS
theorem aGB{H:aO}{f s n:Nat}{R:Nat->List (List AVal)}:xW H f s (n+1) R↔xW H f s n R/\AM.look H (f+n)=aA ⟨s,aB,R n⟩:=by
 constructor;.exact λ h=>⟨λ g hg=>h g oO,h n oO⟩
 rintro⟨h1,h2⟩ g hg;by_cases e:g=n;.subst e;exact h2
 exact h1 g oO
theorem MS {kb k k2:Nat}{fr:Fr}{H:aO}(h:k<=k2):Mv kb k fr H k2 fr H:=λ hk=>⟨oO,λ Γ nt A0 w G ρ a hA hi=>by
 have hal:∀i,kS A0 kb k i->kS A0 kb k2 i:=λ i h'=>h'.imp id λ h''=>⟨h''.1,oO⟩;refine⟨G,ρ,⟨hi.rel.allow (bK H (kS A0 kb k2)) (λ id hn=>?_) (λ id B A' hs=>?_),hi.size,hi.defers,λ t v hv=>(hi.frm t v hv).mono (λ _ h=>h) (λ _ _=>rfl) (λ _ _=>rfl) hal (λ _ _=> .inr rfl)⟩,kQ _ _ _ _⟩;.simp only[bK,dO]at hn⊢;exact hn
 simp only[bK,aG]at hs;obtain⟨B1,h1,h2⟩:=hs;cases h2;exact⟨kS A0 kb k,by simp[bK,h1],hal⟩⟩
theorem aGA{H:aO}{f s:Nat}{R:Nat->List (List AVal)}:xW H f s 0 R=True:=eq_true λ g hg=>absurd hg (bO _)
attribute [go_sem] aGA
theorem sC{H:aO}{f s n:Nat}{R:Nat->List (List AVal)}:xW H f s (n+1) R=(xW H f s n R/\AM.look H (f+n)=aA ⟨s,aB,R n⟩):=propext aGB
theorem a9S{b ns n i x:Nat}(h:b+ns<=x)(hi:i<ns):((sY b ns n i).set i [.sl x 0 n]).map (λ row=>row.map (AP x (b+i)))=sY b ns n (i+1):=dZ λ j=>by
 rw[aP,dD];by_cases e:i=j;.subst e;rw[iP rfl,iP (by rw[wX];exact hi)];simp only[sY,aP,mG hi,bU,bI,bQ,AP,sw];rw[iP trivial,iP oO]
 rw[iN e];by_cases hj:j<ns
 .simp only[sY,aP,mG hj,bU];by_cases h1:j<i;.rw[iP h1,iP oO];simp only[bI,bQ,AP,sw];rw[iN oO,iN oO]
  rw[iN h1,iN oO];rfl
 rw[aX (by rw[wX];omega),aX (by rw[wX];omega)];rfl
theorem HG{b ns n i kk:Nat}(h:b+ns<=kk):((sY b ns n i).all λ row=>row.all (iM (jS kk)))=aB:=by
 rw[aW];intro row hr;simp only[sY,dB,dK]at hr;obtain⟨g,hg,rfl⟩:=hr;split;.simp[iM,jS];omega
 rfl
attribute [go_sem] HG sC
theorem a3L(cpus credit:Int)(ng n ns:Nat)(gF:Nat->List AVal)(hgone:(((aN ng).map gF).all λ row=>row.all AM.one)=aB)(h1:0<ng)(h2:ng<=1000)(h3:0<n)(h4:n<=1000)(h5:0<ns)(h6:ns<=1000)(k:Nat):
 Tr aD Γ 87 k [.agg [cpus,.lit (.int .u64 credit),.rd 2 ng gF,.rd 1 n (λ _=>zI),.rd 1 n (λ _=>zI),(),.rd 1 ns (λ _=>[.rd 3 n (λ _=>zS)])]] []
  (λ k1 r1 H1=>k1=k+(16+ns)/\r1= .agg [cpus,.lit (.int .u64 credit),.sl (k+10) 0 ng,.sl (k+11) 0 n,.sl (k+12) 0 n,(),.sl (k+14) 0 ns]∧
    H1=(k+10,⟨2,aB,(aN ng).map gF⟩)::(k+11,⟨1,aB,(aN n).map λ _=>zI⟩)::(k+12,⟨1,aB,(aN n).map λ _=>zI⟩)::(k+14,⟨1,aE,sY (k+15) ns n ns⟩)::mE (k+15) 3 ns (λ _=>(aN n).map λ _=>zS)):=by
 obtain⟨kx,hkx⟩:∃x,x=k+(16+ns):=⟨_,rfl⟩;rw[<-hkx];have cG:=a0T ng gF (k+2) h1 oO hgone (Γ:=Γ);have zIone:(((aN n).map λ _=>zI).all λ row=>row.all AM.one)=aB:=jG _ _ λ _=>rfl;have zSone:(((aN n).map λ _=>zS).all λ row=>row.all AM.one)=aB:=jG _ _ λ _=>rfl;have cK:=ZX n (λ _=>zI) (k+4) h3 oO zIone (Γ:=Γ);have cU:=ZX n (λ _=>zI) (k+6) h3 oO zIone (Γ:=Γ);obtain⟨GR,eG⟩:∃GR,GR=(aN ng).map gF:=⟨_,rfl⟩;obtain⟨KR,eK⟩:∃KR,KR=(aN n).map λ _=>zI:=⟨_,rfl⟩;obtain⟨SR,eS⟩:∃SR,SR=(aN n).map λ _=>zS:=⟨_,rfl⟩;rw[<-eG]at cG⊢
 rw[<-eK]at cK cU⊢
 rw[<-eS];obtain⟨RH,eRH⟩:∃x:aO,x=(k+10,⟨2,aB,GR⟩)::(k+11,⟨1,aB,KR⟩)::(k+12,⟨1,aB,KR⟩)::(k+14,⟨1,aE,sY (k+15) ns n ns⟩)::mE (k+15) 3 ns (λ _=>SR):=⟨_,rfl⟩;obtain⟨RV,eRV⟩:∃x:AVal,x= .agg [.lit (.int .i64 cpus),.lit (.int .u64 credit),.sl (k+10) 0 ng,.sl (k+11) 0 n,.sl (k+12) 0 n,.lit (.slice aC 0 0),.sl (k+14) 0 ns]:=⟨_,rfl⟩;refine Tr.mono (dR (kk:=kx) (V:=RV) (RH:=RH) oO ?_ ?_ ?_) (λ _ _ _ h=>⟨h.1,h.2.1.trans eRV,h.2.2.trans eRH⟩);.rw[eRV];simp-dsimp-implicitDefEqProofs (disch:=omega)only[go_sem,gY,RE,ltB_iff,aM,eq_self,↓reduceIte];try(simp only[aH,dTt];omega)
 .have hf:=zR (s:=3) (R:=λ _:Nat=>SR) (oO:k+15+ns<=kx);have ho:((sY (k+15) ns n ns).all λ row=>row.all (iM (jS kx)))=aB:=by rw[sG,aW];intro row hr;simp only[dB,dK]at hr;obtain⟨g,hg,rfl⟩:=hr;simp[iM,jS];omega
  rw[eRH];simp only[oM]at hf;simp only[oM,fU,hf,ho,jS,AD,AE,iC,aH,dTt];repeat'(first|(refine And.intro ?_ ?_)|omega|trivial)
 refine cN Tryz.func87 rfl 45 rfl bB ?_;have kp:=gZ k [0,1,2,3,4,5,29,30,31,32];refine dJ ?_;refine cA ?_;refine jR [.gen (.sl (k+3) 0 ng) (k+4) [] [(k+3,⟨2,aB,GR⟩)]] ?_;refine cA ?_;refine dJ ?_;refine cA ?_;have kp:Kp [0,1,2,3,4,5,29,30,31,32] (λ i=>if k<=i then i-k+4 else 0):=jZ;refine AI [.gen (.sl (k+5) 0 n) (k+6) [] [(k+5,⟨1,aB,KR⟩)],.gen (.sl (k+7) 0 n) (k+8) [] [(k+7,⟨1,aB,KR⟩)],.ret ()] ?_;refine CM (zs ?_) (zs ?_) (zs ?_) (zs ?_);.exact cK
 .exact cU
 .exact bHP
 refine dJ ?_;refine cA ?_;refine bY (X:=Nat) rfl [0,1,2,3,4,5,29,30,31,32] kx (λ i=>[(31,i),(3,.sl (k+14) 0 ns)]) (λ i=>(k,⟨7,aE,[[cpus,.lit (.int .u64 credit),.sl (k+10) 0 ng,.sl (k+11) 0 n,.sl (k+12) 0 n,(),.rd 1 ns (λ _=>[.rd 3 n (λ _=>zS)])]]⟩)::(k+1,⟨7,aB,[[(0:Int),.lit (.int .u64 0),(),(),(),(),()]]⟩)::(k+10,⟨2,aB,GR⟩)::(k+11,⟨1,aB,KR⟩)::(k+12,⟨1,aB,KR⟩)::(k+14,⟨1,decide (i=0),sY (k+15) ns n i⟩)::mE (k+15) 3 i (λ _=>SR)) (λ i=>i<=ns) (λ i=>ns-i) 0 ?_ (aZ _) ?_;.rw[aWK];refine Mv.trans (MS (k2:=kx) oO) ?_;refine Mv.trans (Mv.swap (k+3) (k+10) ⟨oO,oO⟩ ⟨oO,oO⟩) ?_;refine Mv.trans (Mv.swap (k+5) (k+11) ⟨oO,oO⟩ ⟨oO,oO⟩) ?_;refine Mv.trans (Mv.swap (k+7) (k+12) ⟨oO,oO⟩ ⟨oO,oO⟩) ?_;refine Mv.trans (Mv.swap (k+8) (k+14) ⟨oO,oO⟩ ⟨oO,oO⟩) ?_;refine fR ?_;apply zN;exact gM
 intro i hi;refine fR ?_;apply zN;by_cases hi2:i<ns
 .have cS:=a0S n (λ _=>zS) kx h3 oO zSone (Γ:=Γ);rw[<-eS]at cS;have hset:=a3K (k+15) ns n i hi2;have hcg:(sY (k+15) ns n i)[i]? =aA [.lit (.slice aC 0 0)]:=by simp[sY,hi2]
  have uU:=hcg;refine dJ ?_;refine dI λ ht=>?_;refine jR [.gen (.sl (kx+1) 0 n) (kx+2) [] [(kx+1,⟨3,aB,SR⟩)]] ?_;refine iE ?_ ?_;.exact cS
  refine dJ ?_;refine cA ?_;refine⟨i+1,oO,oO,?_⟩;have hsw:=a9S (b:=k+15) (n:=n) (x:=kx+1) (by omega:k+15+ns<=kx+1) hi2;rw[gD k 15 i]at hsw;refine Mv.trans (Mv.swap (kx+1) (k+(15+i)) ⟨oO,oO⟩ ⟨oO,oO⟩) ?_;have uU:=zA hsw @sC;refine fR ?_;apply zN;exact gM
 have hil:i=ns:=oO;subst hil;refine dJ ?_;refine dI λ ht=>?_;have uU:=Go.AM.uU;refine kJ (zN ?_);refine⟨?_,?_⟩;.rw[eRV]
 rw[eRH];exact fR gG
end Go.Proofs.T
end
