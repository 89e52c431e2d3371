import Derived.Test.YteimiejbhhgljaaGreatDoorZAF
set_option linter.unusedVariables false
set_option linter.unusedSimpArgs false
set_option maxHeartbeats 0
set_option maxRecDepth 100000
open Bool renaming and_eq_true->aH,and_true->iC,eq_iff_iff->bH,false->aE,false_eq_true->aS,not_eq_true'->bD,or_eq_false_iff->fO,or_eq_true->bL,true->aB,true_and->lG,true_eq_false->bX,true_or->AD
open Int renaming ediv_nonneg->a5D,emod_lt_of_pos->rU,emod_nonneg->RZ,fdiv_eq_ediv_of_nonneg->dU,le_refl->bR,tmod_eq_emod_of_nonneg->dS,toNat_natCast->bP
open Go.IntKind renaming i64->aL,u32->lM,u64->aY
open List renaming all_cons->fU,all_eq_true->aW,append_assoc->cM,getD->oH,getD_eq_getElem?_getD->aR,getElem?_append->dN,getElem?_drop->dW,getElem?_eq_getElem->aJ,getElem?_eq_some_iff->aK,getElem?_map->aP,getElem?_of_mem->oN,getElem?_set->dD,getElem?_set_self->fW,getElem?_take->fE,getElem_mem->JR,isEmpty_cons->YH,length_append->bM,length_drop->aLW,length_map->cX,length_set->oE,length_take->sU,map->rS,map_append->aM,map_congr_left->fD,map_cons->bI,map_map->jM,map_nil->bQ,map_set->iX,map_toArray->yH,mem_cons->eY,mem_cons_of_mem->dM,mem_map->dB,mem_of_getElem?->iG,mem_of_mem_take->bOU,mem_singleton->MU,range->aN,replicate->bE,take_append_of_le_length->bNW,take_of_length_le->kG
open Nat renaming add_assoc->gD,add_mul->cQ,add_sub_cancel->a4V,add_sub_cancel_left->lE,div_add_mod->EB,le_refl->aF,le_trans->qX,lt_trichotomy->kA,mul_comm->iW,mul_le_mul_right->cC,mul_one->HW,not_lt_zero->bO,sub_self->RX,zero_le->aZ
open Option renaming map_some->bU,none->aC,some->aA
open Go.Result renaming andThen_ok->bG
open Go.Sem renaming run_bind->bN,run_pure->dE
open Go.Proofs.Tryz renaming prog->aD
open Go.Value renaming bool->EA
section
namespace Go.Proofs.T
open Go Go.AM Go.Proofs
variable{Γ:dL}
def ztk:List AVal:=[.lit (.int .i64 0),.lit (.int .i64 0),.lit (.int .i64 0),.lit (.int .i64 0),.lit (.int .u64 0),.lit (.bool aE),.lit (.int .u64 0),.lit (.int .u32 0)]
theorem rZ{rows new:List (List AVal)}{r:Nat}(h:r+new.length<=rows.length):(gC rows new r).length=rows.length:=by unfold gC;simp only[bM,sU,aLW];omega
theorem FW{rows new:List (List AVal)}{r:Nat}(h:r<=rows.length):(gC rows new r).take r=rows.take r:=by unfold gC;rw[cM,bNW (by simp;omega),List.take_take,Nat.min_self]
theorem aGJ{R:List (List AVal)}{i n:Nat}{z:List (List AVal)}(hn:R.length=n)(hi:i<n):
 (gC (gC R ((R.drop (i+1)).take (n-(i+1))) i) z (n-1)).take (n-1)=R.eraseIdx i:=by
 have e:(R.drop (i+1)).take (n-(i+1))=R.drop (i+1):=kG (by simp;omega);have e2:(gC R (R.drop (i+1)) i).length=n:=by rw[rZ (by simp;omega),hn]
 rw[e,FW oO,List.eraseIdx_eq_take_drop_succ];unfold gC;rw[bNW (by simp;omega),kG (by simp;omega)]
theorem NF(t:Nat){id r n c:Nat}{fr:Fr}{kb k:Nat}{H:aO}(hf:AM.look fr t=aA (.slc id r n c)):Mv kb k fr H k ((t,.sl id r n)::del fr t) H:=aYP λ t' v hv=>by
 simp only[AM.look]at hv;split at hv;.rename_i e;subst e;cases hv;exact⟨_,hf,VLe.slc _ _ _ _⟩
 rw[gU]at hv;split at hv;.cases hv
 exact⟨v,hv,bJ _⟩
theorem a0E(R:List (List AVal))(n i tk k:Nat)(hn:R.length=n)(hi:i<n)(hn2:n<=100000)(hone:(R.all λ row=>row.all AM.one)=aB)(hk:tk<k):
 Tr aD Γ 168 k [.sl tk 0 n,i,((i:Int)+1:Int)] [(tk,⟨8,aB,R⟩)] (λ k1 r1 H1=>k1=k/\r1= .sl tk 0 (n-1)/\H1=[(tk,⟨8,aB,R.eraseIdx i⟩)]):=by
 have hone2:(((R.drop (i+1)).take (n-(i+1))).all λ row=>row.all AM.one)=aB:=by
  rw[aW]at hone⊢
  exact λ row h=>hone row (List.mem_of_mem_drop (bOU h))
 refine cN Tryz.func168 rfl 33 rfl bB ?_;refine aLP 0 (by simp-dsimp-implicitDefEqProofs (disch:=omega)only[go_sem,gY,eq_self,↓reduceIte];rfl) (by simp-dsimp-implicitDefEqProofs (disch:=omega)only[go_sem,gY,eq_self,↓reduceIte];rfl) (λ h=>oO) (λ cap hc1 hc2=>?_);refine fJ ?_;apply zN;have kp:=gZ k [0,1,2,6,7,16];refine fC ?_;refine cA ?_;refine pP [.raw (aA 12) ⟨.lit (.int .i64 n),k,[],[tk]⟩,.raw (aA 13) ⟨.junk,k,[],[tk]⟩] ?_;refine jV (zs ?_) (zs ?_) (zs ?_);.exact DF rfl iF rfl (dV)
 .exact ZG rfl (dV) iF rfl ⟨_,_,rfl,rfl⟩ ⟨_,_,rfl,rfl⟩ ⟨_,_,rfl,rfl⟩ oO oO oO oO
 refine fC ?_;refine dI λ ht=>?_;refine pP [.raw (aA 19) ⟨.lit (.int .i64 n),k,[],[tk]⟩] ?_;refine iE ?_ ?_;.exact DF rfl iF rfl (dV)
 obtain⟨q,hq⟩:∃q,n=q+1:=⟨n-1,oO⟩;have hq2:n-1=q:=oO;rw[hq2];obtain⟨X,eX⟩:∃X:List (List AVal),X=gC R ((R.drop (i+1)).take (n-(i+1))) i:=⟨_,rfl⟩;have hX1:X.length=n:=by rw[eX,rZ (by simp;omega),hn]
 have hX2:∀z,(gC X z q).take q=R.eraseIdx i:=λ z=>by rw[eX,<-hq2];exact aGJ hn hi
 have hX3:(gC X [ztk] q).length=n:=by rw[rZ (by simp;omega),hX1]
 refine fC ?_;refine cA ?_;by_cases hlast:i+1=n
 .refine YO [.raw (aA 22) ⟨.slc tk 0 i cap,k,[],[tk]⟩,.raw (aA 25) ⟨.slc tk (i+1) 0 (cap-(i+1)),k,[],[tk]⟩,.raw (aA 26) ⟨.slc tk 0 i cap,k,[],[tk,tk]⟩] ?_;refine CM (zs ?_) (zs ?_) (zs ?_) (zs ?_);.exact jX rfl (dV) iF rfl rfl rfl oO oO oO oO oO oO
  .exact jX rfl (dV) iF rfl rfl rfl oO oO oO oO oO oO
  .exact UT rfl y7 rfl (dV) rfl (.sl (dV) (by show i+1+0<=R.length;omega))
  have hiq:i=q:=oO;have hXR:X=R:=by rw[eX,(oO:n-(i+1)=0),List.take_zero];unfold gC;simp
  have hX4:∀z,(gC X z q).take q=X.eraseIdx q:=λ z=>by rw[hX2,hXR,hiq]
  rw[<-hXR,hiq];refine fC ?_;refine cA ?_;refine pP [.raw (aA 29) ⟨.lit (.int .i64 (q:Int)),k,[],[tk]⟩,.raw (aA 31) ⟨.slc tk q 1 (cap-q),k,[],[tk]⟩,.raw aC ⟨.junk,k,[(tk,aA ⟨8,aB,gC X (bE 1 ztk) q⟩)],[tk]⟩] ?_;refine CM (zs ?_) (zs ?_) (zs ?_) (zs ?_);.exact DF rfl iF rfl (dV)
  .exact jX rfl (dV) iF rfl rfl rfl oO oO oO oO oO oO
  .exact CE (n:=1) rfl y7 rfl rfl (dV) rfl oO (by show q+1<=X.length;omega) rfl
  refine fC ?_;refine cA ?_;refine gL (aYQ tk q (dV)) ?_;refine gL (NF 6 rfl) ?_;refine fJ ?_;apply zN;rw[hX4];refine kJ (zN ?_);first|exact⟨rfl,rfl⟩|rfl
 obtain⟨cap2,hcap2⟩:∃x,x=cap-(i+1):=⟨_,rfl⟩;obtain⟨n2,hn2'⟩:∃x,x=n-(i+1):=⟨_,rfl⟩;rw[<-hn2']at eX hone2;have hX4:=hX2;refine YO [.raw (aA 22) ⟨.slc tk 0 i cap,k,[],[tk]⟩,.raw (aA 25) ⟨.slc tk (i+1) n2 cap2,k,[],[tk]⟩,.raw (aA 26) ⟨.slc tk 0 q cap,k,[(tk,aA ⟨8,aB,X⟩)],[tk,tk]⟩] ?_;refine CM (zs ?_) (zs ?_) (zs ?_) (zs ?_);.exact jX rfl (dV) iF rfl rfl rfl oO oO oO oO oO oO
 .exact jX rfl (dV) iF rfl rfl rfl oO oO oO oO oO oO
 .rw[eX];exact aCV rfl y7 rfl (dV) rfl rfl (.sl (dV) (by show i+1+n2<=R.length;omega)) hone2 oO oO (by show i<=R.length;omega) oO rfl
 refine fC ?_;refine cA ?_;refine pP [.raw (aA 29) ⟨.lit (.int .i64 (q:Int)),k,[],[tk]⟩,.raw (aA 31) ⟨.slc tk q 1 (cap-q),k,[],[tk]⟩,.raw aC ⟨.junk,k,[(tk,aA ⟨8,aB,gC X (bE 1 ztk) q⟩)],[tk]⟩] ?_;refine CM (zs ?_) (zs ?_) (zs ?_) (zs ?_);.exact DF rfl iF rfl (dV)
 .exact jX rfl (dV) iF rfl rfl rfl oO oO oO oO oO oO
 .exact CE (n:=1) rfl y7 rfl rfl (dV) rfl oO (by show q+1<=X.length;omega) rfl
 refine fC ?_;refine cA ?_;refine gL (aYQ tk q (dV)) ?_;refine gL (NF 6 rfl) ?_;refine fJ ?_;apply zN;rw[hX4];refine kJ (zN ?_);first|exact⟨rfl,rfl⟩|rfl
abbrev enc(v r w:Int):AVal:= .agg [.lit (.int .u64 v),.lit (.int .u32 r),.lit (.int .u32 w)]
def BV(a b:Int):Int:=if a<=b then 0 else a-b
def aCX(a b:Int):Int:=if b<=18446744073709551615-a then a+b else 18446744073709551615
theorem wP(w:Int):Pure aD Γ 159 [w] (decide (1<=w/\w<=65536)):=by
 refine bT Tryz.func159 rfl 9 rfl bB rfl λ k=>?_;have kp:=gZ k [0,2];refine wl ?_;refine SG ⟨⟨λ hg=>⟨?_⟩⟩⟩ ⟨⟨λ hg=>⟨?_⟩⟩⟩;all_goals(refine bV rfl ⟨_,rfl,bC ?_⟩)
 all_goals((simp only[AVal.lit.injEq,EA.injEq];rw[bH];simp only[beq_iff_eq,bne_iff_ne,ne_eq,dTt,dFn,aH,bL,bD,beq_eq_false_iff_ne,aS,bX,true_iff,false_iff,iff_true,iff_false];omega))
theorem KB(w:Int):Pure aD Γ 158 [w] (decide (1<=w/\w<=65535)):=by
 refine bT Tryz.func158 rfl 9 rfl bB rfl λ k=>?_;have kp:=gZ k [0,2];refine wl ?_;refine SG ⟨⟨λ hg=>⟨?_⟩⟩⟩ ⟨⟨λ hg=>⟨?_⟩⟩⟩;all_goals(refine bV rfl ⟨_,rfl,bC ?_⟩)
 all_goals((simp only[AVal.lit.injEq,EA.injEq];rw[bH];simp only[beq_iff_eq,bne_iff_ne,ne_eq,dTt,dFn,aH,bL,bD,beq_eq_false_iff_ne,aS,bX,true_iff,false_iff,iff_true,iff_false];omega))
theorem a3H(w:Int):Pure aD Γ 230 [w] (decide (0<=w/\w<=4294967295)):=by
 refine bT Tryz.func230 rfl 9 rfl bB rfl λ k=>?_;have kp:=gZ k [0,2];refine wl ?_;refine SG ⟨⟨λ hg=>⟨?_⟩⟩⟩ ⟨⟨λ hg=>⟨?_⟩⟩⟩;all_goals(refine bV rfl ⟨_,rfl,bC ?_⟩)
 all_goals((simp only[AVal.lit.injEq,EA.injEq];rw[bH];simp only[beq_iff_eq,bne_iff_ne,ne_eq,dTt,dFn,aH,bL,bD,beq_eq_false_iff_ne,aS,bX,true_iff,false_iff,iff_true,iff_false];omega))
theorem a5Q(a b:Int)(ha:0<=a)(ha2:a<=18446744073709551615)(hb:0<=b):Pure aD Γ 229 [.lit (.int .u64 a),.lit (.int .u64 b)] (.lit (.int .u64 (BV a b))):=by
 refine bT Tryz.func229 rfl 10 rfl bB rfl λ k=>?_;have kp:=gZ k [0,1,4];refine wl ?_;refine cA ?_;refine bV rfl ⟨_,rfl,bC ?_⟩;unfold BV;by_cases h:b<a;.rw[iP h,iN oO]
 rw[iN h,iP oO,Int.sub_self]
theorem bHN(a b:Int)(ha:0<=a)(ha2:a<=18446744073709551615)(hb:0<=b):Pure aD Γ 274 [.lit (.int .u64 a),.lit (.int .u64 b)] (.lit (.int .u64 (aCX a b))):=by
 refine bT Tryz.func274 rfl 11 rfl bB rfl λ k=>?_;have kp:=gZ k [0,1,4];refine wl ?_;refine cA ?_;refine bV rfl ⟨_,rfl,bC ?_⟩;unfold aCX;by_cases h:18446744073709551615-a<b;.rw[iP h,iN oO];congr 2;omega
 rw[iN h,iP oO]
theorem qB(v r w:Int)(hw:0<=w)(hw2:w<4294967296):Pure aD Γ 134 [.lit (.int .u64 v),.lit (.int .u32 r),w] (enc v r w):=by refine bT Tryz.func134 rfl 12 rfl bB rfl λ k=>?_;have kp:=gZ k [0,1,2,6];refine wl ?_;refine cA ?_;refine cR (zN ?_);exact bJ _
theorem aLA{f w:Int}(h1:1<=w)(h2:w<=65536):pK f 0 w=aB:=by simp[pK];omega
theorem bHM(f w:Int)(h1:1<=w)(h2:w<=65536):Pure aD Γ 162 [.lit (.int .u64 f),w] (.tup [enc f 0 w,(0:Int)]):=by
 refine bT Tryz.func162 rfl 23 rfl bB rfl λ k=>?_;have e1:lM.wrap w=w:=wrap_u32 oO oO;have e2:aL.wrap w=w:=wrap_i64 oO oO;have kp:=gZ k [0,1,4,5,6,20];have uU:=zA e1 e2;refine wl ?_;refine cA ?_;refine cl [.ret aB] ?_;refine jV ⟨⟨λ hg=>⟨?_⟩⟩⟩ ⟨⟨λ hg=>⟨?_⟩⟩⟩ ⟨⟨λ hg=>⟨?_⟩⟩⟩;.rw[<-aLA (f:=f) h1 h2];exact lB f 0 w oO oO
 all_goals(try(exact absurd trivial ‹¬True›))
 all_goals((refine wl ?_;refine dI λ ht=>?_))
 have uU:=zA e1 e2;refine cR (zN ?_);exact bJ _
def uI(v r floor credit:Int):Int×Int:=if v<BV floor credit then(BV floor credit,0)else(v,r)
theorem aSH(v r w f c:Int)(he:pK v r w=aB)(hf:0<=f)(hf2:f<=18446744073709551615)(hc:0<=c):Pure aD Γ 167 [enc v r w,.lit (.int .u64 f),.lit (.int .u64 c)] (.tup [enc (uI v r f c).1 (uI v r f c).2 w,(0:Int)]):=by
 have hE:=he;simp only[pK,dTt]at hE;obtain⟨z,ez⟩:∃z,z=BV f c:=⟨_,rfl⟩;refine bT Tryz.func167 rfl 25 rfl bB rfl λ k=>?_;have kp:=gZ k [0,1,2,3,6,7,8,11,19];refine wl ?_;refine cA ?_;refine cl [.ret aB] ?_;refine iE ?_ ?_;.rw[<-he];exact lB v r w oO oO
 refine wl ?_;refine dI λ ht=>?_;refine cl [.ret (.lit (.int .u64 z))] ?_;refine iE ?_ ?_;.rw[ez];exact a5Q f c hf hf2 hc
 refine wl ?_;refine oT (λ ht=>?_) λ ht=>?_;.refine cR (zN ?_);unfold uI;rw[<-ez,iP oO];exact bJ _
 refine cR (zN ?_);unfold uI;rw[<-ez,iN oO];exact bJ _
def rF(v r a b:Int):Int×Int:=
 let x:=if a<=v then aCX b (v-a)else BV b (a-v)
 (x,if x=18446744073709551615 then 0 else r)
theorem aSM(v r w a b:Int)(he:pK v r w=aB)(hv:0<=v)(hv2:v<=18446744073709551615)(ha:0<=a)(ha2:a<=18446744073709551615)(hb:0<=b)(hb2:b<=18446744073709551615):
 Pure aD Γ 232 [enc v r w,.lit (.int .u64 a),.lit (.int .u64 b)] (.tup [enc (rF v r a b).1 (rF v r a b).2 w,(0:Int)]):=by
 have hE:=he;simp only[pK,dTt]at hE;refine bT Tryz.func232 rfl 35 rfl bB rfl λ k=>?_;have kp:=gZ k [0,1,2,3,6,7,10,15,32];refine wl ?_;refine cA ?_;refine cl [.ret aB] ?_;refine iE ?_ ?_;.rw[<-he];exact lB v r w oO oO
 refine wl ?_;refine SG ⟨λ ht ht=>zN ?_⟩ ⟨λ ht ht=>zN ?_⟩
 .obtain⟨z,ez⟩:∃z,z=aCX b (v-a):=⟨_,rfl⟩;have e1:aY.wrap (v-a)=v-a:=wrap_u64 oO oO;have uU:=e1;refine cl [.ret (.lit (.int .u64 z))] ?_;refine iE ?_ ?_;.rw[ez];exact bHN b (v-a) hb hb2 oO
  refine wl ?_;refine oT (λ ht=>?_) λ ht=>?_;.have uU:=e1;refine cR (zN ?_);unfold rF;simp only[];rw[iP oO,<-ez];first|(rw[iP (by assumption)];exact bJ _)|(rw[iN (by assumption)];exact bJ _)
  have uU:=e1;refine cR (zN ?_);unfold rF;simp only[];rw[iP oO,<-ez];first|(rw[iP (by assumption)];exact bJ _)|(rw[iN (by assumption)];exact bJ _)
 obtain⟨z,ez⟩:∃z,z=BV b (a-v):=⟨_,rfl⟩;have e1:aY.wrap (a-v)=a-v:=wrap_u64 oO oO;have uU:=e1;refine cl [.ret (.lit (.int .u64 z))] ?_;refine iE ?_ ?_;.rw[ez];exact a5Q b (a-v) hb hb2 oO
 refine wl ?_;refine oT (λ ht=>?_) λ ht=>?_;.have uU:=e1;refine cR (zN ?_);unfold rF;simp only[];rw[iN oO,<-ez];first|(rw[iP (by assumption)];exact bJ _)|(rw[iN (by assumption)];exact bJ _)
 have uU:=e1;refine cR (zN ?_);unfold rF;simp only[];rw[iN oO,<-ez];first|(rw[iP (by assumption)];exact bJ _)|(rw[iN (by assumption)];exact bJ _)
def CJ(v r w t:Int):Int×Int:=if 18446744073709551615-v<=(t*1048576+r)/w then(18446744073709551615,0)else(v+(t*1048576+r)/w,(t*1048576+r)%w)
theorem bJM(v r w t:Int)(he:pK v r w=aB)(hv:0<=v)(hv2:v<=18446744073709551615)(hr:0<=r)(ht:0<=t)(ht2:t<=4294967295):Pure aD Γ 231 [enc v r w,t] (enc (CJ v r w t).1 (CJ v r w t).2 w):=by
 simp only[pK,dTt]at he;obtain⟨n,en⟩:∃n,n=t*1048576+r:=⟨_,rfl⟩;have e1:aY.wrap t=t:=wrap_u64 oO oO;have e2:aY.wrap r=r:=wrap_u64 oO oO;have e3:aY.wrap w=w:=wrap_u64 oO oO;have e4:aY.wrap (t*1048576)=t*1048576:=wrap_u64 oO oO;have e5:aY.wrap (t*1048576+r)=n:=by rw[wrap_u64 oO oO,en]
 have hn:0<=n:=oO;have q0:0<=n/w:=a5D hn oO;have q1:n/w<=n:=Int.ediv_le_self _ hn;have r0:0<=n%w:=RZ _ oO;have r1:n%w<w:=rU _ oO;have e6:n.tdiv w=n/w:=Int.tdiv_eq_ediv_of_nonneg hn;have e7:n.tmod w=n%w:=dS hn;have e8:aY.wrap (n/w)=n/w:=wrap_u64 oO oO;have e9:lM.wrap (n%w)=n%w:=wrap_u32 oO oO;have e10:(w=0)=False:=eq_false oO;have e11:aY.wrap (18446744073709551615-v)=18446744073709551615-v:=wrap_u64 oO oO;refine bT Tryz.func231 rfl 42 rfl bB rfl λ k=>?_;have kp:=gZ k [0,1,2,4,5,6,7,29];have uU:=fP e1 e2 e3 e4 e5 e6 e7 e8 (tZ e9 e10 e11);refine wl ?_;refine oT (λ ht=>?_) λ ht=>?_;.have uU:=fP e1 e2 e3 e4 e5 e6 e7 e8 (tZ e9 e10 e11);refine cR (zN ?_);unfold CJ;rw[<-en,iP oO];exact bJ _
 have uU:=fP e1 e2 e3 e4 e5 e6 e7 e8 (tZ e9 e10 e11);refine cR (zN ?_);unfold CJ;rw[<-en,iN oO];exact bJ _
theorem UN(v r w t:Int)(he:pK v r w=aB)(hv:0<=v)(hv2:v<=18446744073709551615)(hr:0<=r)(h0:0<=t)(h02:t<=4294967295):Pure aD Γ 169 [enc v r w,t] (.tup [enc (CJ v r w t).1 (CJ v r w t).2 w,(0:Int)]):=by
 have hE:=he;simp only[pK,dTt]at hE;obtain⟨z,ez⟩:∃z,z=CJ v r w t:=⟨_,rfl⟩;rw[<-ez];refine bT Tryz.func169 rfl 18 rfl bB rfl λ k=>?_;have kp:=gZ k [0,1,2,4,5,13];refine wl ?_;refine cA ?_;refine cl [.ret aB,.ret aB] ?_;refine jV (zs ?_) (zs ?_) (zs ?_);.rw[<-he];exact lB v r w oO oO
 all_goals(try(exact absurd trivial ‹¬True›))
 .have h:=a3H (Γ:=Γ) t;rw[decide_eq_true oO]at h;exact h
 all_goals(try(exact absurd trivial ‹¬True›))
 refine wl ?_;refine dI λ ht=>?_;refine cl [.ret (enc z.1 z.2 w)] ?_;refine iE ?_ ?_;.rw[ez];exact bJM v r w t he hv hv2 hr h0 h02
 refine wl ?_;refine cA ?_;refine cR (zN ?_);exact bJ _
theorem KO(v r w x:Int)(he:pK v r w=aB)(h1:1<=x)(h2:x<=65536):Pure aD Γ 171 [enc v r w,x] (.tup [enc v 0 x,(0:Int)]):=by
 have hE:=he;simp only[pK,dTt]at hE;refine bT Tryz.func171 rfl 20 rfl bB rfl λ k=>?_;have kp:=gZ k [0,1,2,4,5,13];refine wl ?_;refine cA ?_;refine cl [.ret aB,.ret aB] ?_;refine jV (zs ?_) (zs ?_) (zs ?_);.rw[<-he];exact lB v r w oO oO
 all_goals(try(exact absurd trivial ‹¬True›))
 .have h:=aQM (Γ:=Γ) x;rw[decide_eq_true oO]at h;exact h
 all_goals(try(exact absurd trivial ‹¬True›))
 refine wl ?_;refine dI λ ht=>?_;refine cR (zN ?_);exact bJ _
def qU(a b:Int):Int:=if a<b then-1 else if b<a then 1 else 0
theorem a5U(a:Int):Pure aD Γ 212 [a] aE:=by refine bT Tryz.func212 rfl 6 rfl bB rfl λ k=>?_;have kp:=gZ k [0,2];refine wl ?_;refine cA ?_;refine bV rfl ⟨_,rfl,bC ?_⟩;simp
theorem a5T(a:Int):Pure aD Γ 254 [.lit (.int .u64 a)] aE:=by refine bT Tryz.func254 rfl 6 rfl bB rfl λ k=>?_;have kp:=gZ k [0,2];refine wl ?_;refine cA ?_;refine bV rfl ⟨_,rfl,bC ?_⟩;simp
theorem bFM(a b:Int):Pure aD Γ 138 [a,b] (qU a b):=by
 refine bT Tryz.func138 rfl 20 rfl bB rfl λ k=>?_;have kp:=gZ k [0,1,4,5,6,11,12,13,16,19];refine wl ?_;refine cA ?_;refine cl [.ret aE] ?_;refine iE ?_ ?_;.exact a5U a
 refine wl ?_;refine cA ?_;refine cl [.ret aE] ?_;refine iE ?_ ?_;.exact a5U b
 refine wl ?_;refine jV ⟨λ ht ht ht=>zN ?_⟩ ⟨λ ht ht ht ht=>zN ?_⟩ ⟨λ ht ht ht ht=>zN ?_⟩;all_goals(refine bV rfl ⟨_,rfl,bC ?_⟩)
 all_goals(unfold qU)
 .rw[iP oO]
 .rw[iN oO,iP oO]
 rw[iN oO,iN oO]
theorem aWS(a b:Int):Pure aD Γ 213 [.lit (.int .u64 a),.lit (.int .u64 b)] (qU a b):=by
 refine bT Tryz.func213 rfl 20 rfl bB rfl λ k=>?_;have kp:=gZ k [0,1,4,5,6,11,12,13,16,19];refine wl ?_;refine cA ?_;refine cl [.ret aE] ?_;refine iE ?_ ?_;.exact a5T a
 refine wl ?_;refine cA ?_;refine cl [.ret aE] ?_;refine iE ?_ ?_;.exact a5T b
 refine wl ?_;refine jV ⟨λ ht ht ht=>zN ?_⟩ ⟨λ ht ht ht ht=>zN ?_⟩ ⟨λ ht ht ht ht=>zN ?_⟩;all_goals(refine bV rfl ⟨_,rfl,bC ?_⟩)
 all_goals(unfold qU)
 .rw[iP oO]
 .rw[iN oO,iP oO]
 rw[iN oO,iN oO]
theorem aKS(x:Tk)(b:Int):Pure aD Γ 137 [.agg (tkc x),b] (qU x.id b):=by
 refine bT Tryz.func137 rfl 9 rfl bB rfl λ k=>?_;have kp:=gZ k [0,1,2,4];refine wl ?_;refine cA ?_;refine cl [.ret (qU x.id b)] ?_;refine iE ?_ ?_;.exact bFM _ _
 refine wl ?_;refine cA ?_;refine bV rfl ⟨_,rfl,bC ?_⟩;rfl
def RJ(a0 a1 a2 b0 b1 b2:Int):Int:=if qU a0 b0≠0 then qU a0 b0 else if qU a1 b1≠0 then qU a1 b1 else qU a2 b2
def LD(a b c:Int):Blk:=⟨1,aB,[[.lit (.int .u64 a)],[.lit (.int .u64 b)],[.lit (.int .u64 c)]]⟩
attribute [go_sem] LD
theorem aRT(k x y:Nat)(a0 a1 a2 b0 b1 b2:Int)(hx:x<k)(hy:y<k)(hne:x≠y):
 Tr aD Γ 140 k [.sl x 0 3,.sl y 0 3] [(x,LD a0 a1 a2),(y,LD b0 b1 b2)] (λ k1 r1 H1=>k1=k/\r1= .lit (.int .i64 (RJ a0 a1 a2 b0 b1 b2))/\H1=[(x,LD a0 a1 a2),(y,LD b0 b1 b2)]):=by
 have key:∀i,i<3->(i=0\/i=1\/i=2):=λ i h=>oO;refine cN Tryz.func140 rfl 36 rfl bB ?_;have kp:=gZ k [0,1,4,5,6,7,8,9,10,11,12,19,28,35];refine fC ?_;refine cA ?_;refine bY (X:=Nat) rfl [0,1,4,5,6,7,8,9,10,11,12,19,28,35] k (λ i=>[(11,i)]) (λ i=>[(x,LD a0 a1 a2),(y,LD b0 b1 b2)]) (λ i=>i<=3/\(0<i->qU a0 b0=0)/\(1<i->qU a1 b1=0)/\(2<i->qU a2 b2=0)) (λ i=>3-i) 0 ?_ ⟨oO,oO,oO,oO⟩ ?_;.refine fJ ?_;apply zN;exact gM
 rintro i ⟨hi,h0,h1,h2⟩;have hc:i=0\/i=1\/i=2\/i=3:=oO;rcases hc with rfl|rfl|rfl|rfl
 .refine fJ ?_;apply zN;refine fC ?_;refine oU ⟨λ ht ht=>zN ?_⟩;refine pP [.ret (qU a0 b0)] ?_;refine iE ?_ ?_;.exact aWS _ _
  refine fC ?_;refine oT (λ ht=>?_) λ ht=>?_;.refine kJ (zN ?_);unfold RJ;rw[iP (by assumption)]
  refine⟨1,⟨oO,λ _=>oO,oO,oO⟩,oO,?_⟩;refine fJ ?_;apply zN;exact gM
 .refine fJ ?_;apply zN;refine fC ?_;refine oU ⟨λ ht ht=>zN ?_⟩;refine pP [.ret (qU a1 b1)] ?_;refine iE ?_ ?_;.exact aWS _ _
  refine fC ?_;refine oT (λ ht=>?_) λ ht=>?_;.refine kJ (zN ?_);unfold RJ;rw[iN (by have:=h0 oO;omega),iP (by assumption)]
  refine⟨2,⟨oO,λ _=>h0 oO,λ _=>oO,oO⟩,oO,?_⟩;refine fJ ?_;apply zN;exact gM
 .refine fJ ?_;apply zN;refine fC ?_;refine oU ⟨λ ht ht=>zN ?_⟩;refine pP [.ret (qU a2 b2)] ?_;refine iE ?_ ?_;.exact aWS _ _
  refine fC ?_;refine oT (λ ht=>?_) λ ht=>?_;.refine kJ (zN ?_);unfold RJ;rw[iN (by have:=h0 oO;omega),iN (by have:=h1 oO;omega)]
  refine⟨3,⟨oO,λ _=>h0 oO,λ _=>h1 oO,λ _=>oO⟩,oO,?_⟩;refine fJ ?_;apply zN;exact gM
 refine fJ ?_;apply zN;refine fC ?_;refine oU ⟨λ ht ht=>zN ?_⟩;refine kJ (zN ?_);unfold RJ;rw[iN (by have:=h0 oO;omega),iN (by have:=h1 oO;omega),h2 oO]
structure Mb where
 v:Int
 b:Int
 x:Int
def aNR(a b:Mb):Bool:=decide (a.v<b.v\/(a.v=b.v/\(a.b<b.b\/(a.b=b.b/\a.x<b.x))))
def FM(o:Option Mb)(x:Mb):Option Mb:=
 match o with
 |none=>aA x
 |some b=>if aNR x b=aB then aA x else aA b
def bst(o:Option Mb):Blk:=
 match o with
 |none=>LD 18446744073709551615 18446744073709551615 18446744073709551615
 |some x=>LD x.v x.b x.x
def smb(o:Option Mb):Blk:=⟨1,aB,[[.lit (.bool o.isSome)]]⟩
theorem aXF(o:Option Mb):(bst o).pure=aB:=by cases o<;>rfl
theorem aRI(o:Option Mb):(smb o).pure=aB:=rfl
attribute [go_sem] aXF aRI
theorem cmp3_lt{a0 a1 a2 b0 b1 b2:Int}:RJ a0 a1 a2 b0 b1 b2<0↔(a0<b0\/(a0=b0/\(a1<b1\/(a1=b1/\a2<b2)))):=by
 unfold RJ qU;repeat' split
 all_goals omega
theorem WL(k p q:Nat)(o:Option Mb)(x:Mb)(hp:p<k)(hq:q<k)(hne:p≠q)(hv:x.v<=18446744073709551615)(hb:x.b<=1):
 Tr aD Γ 139 k [.agg [.lit (.int .u64 x.v),.lit (.int .u64 x.b),.lit (.int .u64 x.x)],.ptr q 0 0,.ptr p 0 0] [(p,bst o),(q,smb o)] (λ k1 r1 H1=>k1=k+1/\r1= .tup []/\H1=[(p,bst (FM o x)),(q,smb (FM o x))]):=by
 have hm:x.v<18446744073709551615\/(x.v=18446744073709551615/\(x.b<18446744073709551615\/(x.b=18446744073709551615/\x.x<18446744073709551615))):=oO
 obtain⟨b0,b1,b2,hbo,hlt⟩:∃b0 b1 b2,bst o=LD b0 b1 b2/\(RJ x.v x.b x.x b0 b1 b2<0->FM o x=aA x)/\(¬RJ x.v x.b x.x b0 b1 b2<0->bst (FM o x)=LD b0 b1 b2):=by
  cases o with
  |none=>exact⟨18446744073709551615,18446744073709551615,18446744073709551615,rfl,λ _=>rfl,λ h=>absurd (cmp3_lt.2 hm) h⟩
  |some b=>
   refine⟨_,_,_,rfl,?_,λ h=>?_⟩;.intro h;rw[cmp3_lt]at h;simp only[FM];rw[iP (by simp only[aNR,dTt];exact h)]
   rw[cmp3_lt]at h;simp only[FM];rw[iN (by simp only[aNR,dTt];exact h)];rfl
 obtain⟨hlt1,hlt2⟩:=hlt
 have hsome:(FM o x).isSome=aB:=by
  cases o with
  |none=>rfl
  |some b=>simp only[FM];split<;>rfl
 have hsm:smb o=⟨1,aB,[[o.isSome]]⟩:=rfl;have hsm':smb (FM o x)=⟨1,aB,[[aB]]⟩:=by unfold smb;rw[hsome]
 rw[hbo,hsm,hsm'];refine cN Tryz.func139 rfl 9 rfl bB (pA ?_);have kp:=gZ k [0,1,2,3,7];refine fC ?_;refine cA ?_;refine YO [.gen (.lit (.int .i64 (RJ x.v x.b x.x b0 b1 b2))) (k+1) [(k,LD x.v x.b x.x),(p,LD b0 b1 b2)] [(k,LD x.v x.b x.x),(p,LD b0 b1 b2)]] ?_;refine iE ?_ ?_;.exact aRT (k+1) k p x.v x.b x.x b0 b1 b2 oO oO oO
 refine fC ?_;refine oT (λ ht=>?_) λ ht=>?_
 .have e:bst (FM o x)=LD x.v x.b x.x:=by rw[hlt1 oO];rfl
  refine⟨k+1,[],[(p,bst (FM o x)),(q,⟨1,aB,[[aB]]⟩)],?_,_,rfl,rfl,rfl,rfl⟩;rw[e];exact gM
 have e:bst (FM o x)=LD b0 b1 b2:=hlt2 oO;refine⟨k+1,[],[(p,bst (FM o x)),(q,⟨1,aB,[[aB]]⟩)],?_,_,rfl,rfl,rfl,rfl⟩;rw[e];exact gM
theorem cB{loc:aO}{m tk tk':Nat}{L L':LSt}(h:∀i,(i=m\/i=m+1\/i=m+2\/i=m+3\/i=m+5\/i=tk\/i=tk'\/(m+6<=i/\i<m+6+L.sl.length))->AM.look loc i=aC)(hs:L'.sl.length=L.sl.length):rL loc (MH m tk L) (MH m tk' L'):=λ i hi=>by
 refine h i ?_;rcases hi with hi|hi;.have:=nY hi;omega
 have:=nY hi;rw[hs]at this;omega
def tmb(t:Tk):Mb:=⟨t.v,0,t.id⟩
def uL(L:LSt)(g c:Int)(i:Nat):Bool:=(L.tsk i).ready&&(decide ((L.tsk i).group=g)&&decide ((L.tsk i).cpu=c))
def lT(L:LSt)(g c:Int):Nat->Option Mb
 |0=>aC
 |i+1=>if uL L g c i=aB then FM (lT L g c i) (tmb (L.tsk i))else lT L g c i
def lS(L:LSt)(F:Nat->Option Mb)(g c:Nat):Nat->Option Mb
 |0=>lT L g c L.tl.length
 |j+1=>if L.par (g+1+j)=g/\(F (g+1+j)).isSome=aB then FM (lS L F g c j) ⟨(L.sp (g+1+j) c).v,1,((g+1+j:Nat):Int)⟩else lS L F g c j
def iH(L:LSt):Nat->Nat->Nat->Option Mb
 |0,_,_=>aC
 |f+1,g,c=>lS L (λ h=>iH L f h c) g c (L.sl.length-(g+1))
def mbc:Option Mb->List AVal
 |none=>[.lit (.int .u64 18446744073709551615),.lit (.int .u64 18446744073709551615),.lit (.int .u64 18446744073709551615)]
 |some x=>[.lit (.int .u64 x.v),.lit (.int .u64 x.b),.lit (.int .u64 x.x)]
def resL(o:Option Mb):AVal:= .tup [.agg (mbc o),.lit (.bool o.isSome)]
structure Shp (L:LSt) (n:Nat):Prop where
 ng:L.gl.length=L.sl.length
 rows:∀g,g<L.sl.length->(L.sl.getD g []).length=n
 nt:L.tl.length<=100000
 ns:L.sl.length<=1000
 tid:∀i,i<L.tl.length->0<=(L.tsk i).id/\(L.tsk i).id<=65535/\(L.tsk i).v<=18446744073709551615
 spv:∀g c,g<L.sl.length->c<n->(L.sp g c).v<=18446744073709551615
theorem aLL(o:Option Mb):bst o=LD (o.elim 18446744073709551615 (·.v)) (o.elim 18446744073709551615 (·.b)) (o.elim 18446744073709551615 (·.x)):=by cases o<;>rfl
theorem LY(o:Option Mb):mbc o=[.lit (.int .u64 (o.elim 18446744073709551615 (·.v))),.lit (.int .u64 (o.elim 18446744073709551615 (·.b))),.lit (.int .u64 (o.elim 18446744073709551615 (·.x)))]:=by cases o<;>rfl
theorem aKD{L:LSt}{F:Nat->Option Mb}{g c h:Nat}(hh:g+1<=h)(h1:L.par h=g)(h2:(F h).isSome=aB):lS L F g c (h+1-(g+1))=FM (lS L F g c (h-(g+1))) ⟨(L.sp h c).v,1,(h:Int)⟩:=by have e:h+1-(g+1)=(h-(g+1))+1:=oO;have e2:g+1+(h-(g+1))=h:=oO;rw[e,lS,e2,iP ⟨h1,h2⟩]
theorem MB{L:LSt}{F:Nat->Option Mb}{g c h:Nat}(hh:g+1<=h)(h1:¬(L.par h=g/\(F h).isSome=aB)):lS L F g c (h+1-(g+1))=lS L F g c (h-(g+1)):=by have e:h+1-(g+1)=(h-(g+1))+1:=oO;have e2:g+1+(h-(g+1))=h:=oO;rw[e,lS,e2,iN h1]
theorem aKA{L:LSt}{g c:Int}{i:Nat}(h:uL L g c i=aB):lT L g c (i+1)=FM (lT L g c i) (tmb (L.tsk i)):=by rw[lT,iP h]
theorem aKB{L:LSt}{g c:Int}{i:Nat}(h:¬uL L g c i=aB):lT L g c (i+1)=lT L g c i:=by rw[lT,iN h]
theorem takes_iff{L:LSt}{g c:Int}{i:Nat}:uL L g c i=aB↔(L.tsk i).ready=aB/\(L.tsk i).group=g/\(L.tsk i).cpu=c:=by simp[uL]
theorem aIU{p:Nat->Bool}(o:Option Mb):bd p (resL o)=aB:=by cases o<;>rfl
theorem bCT(L:LSt)(n c:Nat)(hS:Shp L n)(hc:c<n)(m tk:Nat)(hm:m+6+L.sl.length<=tk):∀(f g:Nat),g<L.sl.length->L.sl.length-g<=f->∀k,tk<k→
 Tr aD Γ 77 k [.ptr m 0 0,g,c] (MH m tk L) (λ k1 r1 H1=>k1=k/\r1=resL (iH L f g c)/\H1=MH m tk L):=by
 obtain⟨hng,hrw,hnt,hns,htid,hspv⟩:=id hS;intro f
 induction f with
 |zero=>intro g hgS hf;omega
 |succ f ih=>
 intro g hgS hf k hk;obtain⟨RH,eRH⟩:∃x,x=MH m tk L:=⟨_,rfl⟩;obtain⟨RV,eRV⟩:∃x,x=resL (iH L (f+1) g c):=⟨_,rfl⟩;refine Tr.mono (dR (k:=k) (V:=RV) (RH:=RH) oO (by rw[eRV];exact aIU _) (by rw[eRH];exact fL oO oO) ?_) (λ _ _ _ h=>⟨h.1,h.2.1.trans eRV,h.2.2.trans eRH⟩);refine cN Tryz.func77 rfl 102 rfl bB ?_;simp only[MH,LH];have kp:=gZ k [0,1,2,6,7,8,9,10,12,13,15,22,23,24,25,41,60,74,82];refine fC ?_;refine cA ?_;refine bY (X:=Nat) rfl [0,1,2,6,7,8,9,10,12,13,15,22,23,24,25,41,60,74,82] (k+3) (λ i=>[(24,i)]) (λ i=>(k+2,smb (lT L g c i))::(k+1,bst (lT L g c i))::(k,LD 0 0 0)::MH m tk L) (λ i=>i<=L.tl.length) (λ i=>L.tl.length-i) 0 ?_ (aZ _) ?_;.simp only[MH,LH];rw[show lT L g c 0=aC from rfl];have uU:=zA @bst.eq_1 @smb.eq_1;refine fJ ?_;apply zN;exact gM
 intro i hi;simp only[MH,LH];refine fJ ?_;apply zN;have e1:i<L.tl.length->aY.wrap (L.tsk i).id=(L.tsk i).id:=λ h=>by have:=htid i h;exact wrap_u64 oO oO
 refine fC ?_;refine zq5 ⟨λ ht ht=>⟨λ hg hg=>⟨?_⟩⟩⟩ ⟨λ ht ht=>⟨λ hg hg=>⟨?_⟩⟩⟩ ⟨λ ht ht=>⟨λ hg hg=>⟨?_⟩⟩⟩ ⟨λ ht ht=>⟨λ hg=>⟨?_⟩⟩⟩ ⟨λ ht=>zN ?_⟩
 .have e1':=e1 oO;have hx:=htid i oO;have uU:=e1';refine pP [.gen (.tup []) (k+5) [(k+1,bst (lT L g c i)),(k+2,smb (lT L g c i))] [(k+1,bst (FM (lT L g c i) (tmb (L.tsk i)))),(k+2,smb (FM (lT L g c i) (tmb (L.tsk i))))]] ?_;refine iE ?_ ?_;.exact WL (k+4) (k+1) (k+2) (lT L g c i) (tmb (L.tsk i)) oO oO oO hx.2.2 (by show(0:Int)<=1;omega)
  have uU:=Go.AM.uU;refine fC ?_;refine cA ?_;refine⟨i+1,oO,oO,?_⟩;rw[aKA (takes_iff.2 ⟨by assumption,by assumption,by assumption⟩)];refine fJ ?_;apply zN;exact gM
 iterate 3
  · refine⟨i+1,oO,oO,?_⟩
    rw[aKB (by rw[takes_iff];rintro⟨a1,a2,a3⟩;first|omega|(simp_all;done))]
    refine fJ ?_;apply zN
    exact gM
 have hi':i=L.tl.length:=oO;subst hi';clear hi e1;refine bY (X:=Nat) rfl [0,1,2,6,7,8,9,10,12,13,15,22,23,24,25,41,60,74,82] (k+3) (λ h=>[(13,h)]) (λ h=>(k+2,smb (lS L (λ h=>iH L f h c) g c (h-(g+1))))::(k+1,bst (lS L (λ h=>iH L f h c) g c (h-(g+1))))::(k,LD 0 0 0)::MH m tk L) (λ h=>g+1<=h/\h<=L.sl.length) (λ h=>L.sl.length-h) (g+1) ?_ ⟨aF _,hgS⟩ ?_;.simp only[MH,LH];rw[RX,lS];refine fJ ?_;apply zN;exact gM
 rintro h ⟨h1,h2⟩;obtain⟨o,eo⟩:∃o,o=lS L (λ h=>iH L f h c) g c (h-(g+1)):=⟨_,rfl⟩;rw[<-eo];simp only[MH,LH];refine fJ ?_;apply zN;refine fC ?_;refine jV ⟨λ ht ht=>zN ?_⟩ ⟨λ ht ht=>zN ?_⟩ ⟨λ ht=>zN ?_⟩;.refine⟨h+1,⟨oO,oO⟩,oO,?_⟩;rw[MB h1 (by rintro⟨a1,_⟩;omega),<-eo];refine fJ ?_;apply zN;exact gM
 .have hr:=hrw h oO;have e2:aY.wrap (h:Int)=(h:Int):=wrap_u64 oO oO;obtain⟨q,eq⟩:∃q,q=iH L f h c:=⟨_,rfl⟩;obtain⟨q0,q1,q2,hq⟩:∃q0 q1 q2,mbc q=[.lit (.int .u64 q0),.lit (.int .u64 q1),.lit (.int .u64 q2)]:=⟨_,_,_,LY q⟩;have uU:=zA @resL.eq_1 hq;refine pP [.far (resL q) (k+3) [(k+2,smb o),(k+1,bst o),(k,LD 0 0 0)] (MH m tk L) (MH m tk L)] ?_;refine CM (zs ?_) (zs ?_) (zs ?_) (zs ?_);.exact λ _=>rfl
  .exact cB (λ i hi=>by simp only[AM.look];repeat(rw[iN oO])) rfl
  .have:=ih h oO oO (k+3) oO;rw[<-eq]at this;unfold resL at this;rw[hq]at this;exact this
  simp only[MH,LH];have uU:=Go.AM.uU;refine fJ ?_;apply zN;have uU:=zA e2 hr;refine fC ?_;refine oT (λ ht=>?_) λ ht=>?_
  .refine pP [.gen (.tup []) (k+5) [(k+1,bst o),(k+2,smb o)] [(k+1,bst (FM o ⟨(L.sp h c).v,1,(h:Int)⟩)),(k+2,smb (FM o ⟨(L.sp h c).v,1,(h:Int)⟩))]] ?_;refine iE ?_ ?_;.exact WL (k+4) (k+1) (k+2) o ⟨(L.sp h c).v,1,(h:Int)⟩ oO oO oO (hspv h c oO hc) (bR _)
   have uU:=Go.AM.uU;refine fC ?_;refine cA ?_;refine⟨h+1,⟨oO,oO⟩,oO,?_⟩;rw[aKD h1 oO (by rw[<-eq];assumption),<-eo];refine fJ ?_;apply zN;exact gM
  refine⟨h+1,⟨oO,oO⟩,oO,?_⟩;rw[MB h1 (by rw[<-eq];rintro⟨_,a1⟩;simp_all),<-eo];have uU:=Go.AM.uU;refine fJ ?_;apply zN;exact gM
 have hh:h=L.sl.length:=oO;have eo':o=iH L (f+1) g c:=by rw[eo,hh];rfl
 rw[<-eo']at eRV;clear eo eo';obtain⟨q0,q1,q2,hq,hq'⟩:∃q0 q1 q2,bst o=LD q0 q1 q2/\mbc o=[.lit (.int .u64 q0),.lit (.int .u64 q1),.lit (.int .u64 q2)]:=⟨_,_,_,aLL o,LY o⟩;rw[hq];have uU:= @smb.eq_1;refine YO [] ?_;refine cA ?_;have uU:= @smb.eq_1;refine kJ (zN ?_);refine⟨?_,?_⟩;.rw[eRV,resL,hq']
 rw[eRH];simp only[MH,LH];exact fJ gG
theorem cpu(L:LSt)(c:Int)(m tk k:Nat)(hm:m+6+L.sl.length<=tk)(hk:tk<k):
 Tr aD Γ 157 k [.ptr m 0 0,c] (MH m tk L) (λ k1 r1 H1=>k1=k/\r1= .lit (.bool (decide (0<=c/\c<L.cpus)))/\H1=MH m tk L):=by
 obtain⟨RH,eRH⟩:∃x:aO,x=MH m tk L:=⟨_,rfl⟩;obtain⟨RV,eRV⟩:∃x:AVal,x= .lit (.bool (decide (0<=c/\c<L.cpus))):=⟨_,rfl⟩;refine Tr.mono (dR (k:=k) (V:=RV) (RH:=RH) oO (by rw[eRV];rfl) (by rw[eRH];exact fL oO oO) ?_) (λ _ _ _ h=>⟨h.1,h.2.1.trans eRV,h.2.2.trans eRH⟩);refine cN Tryz.func157 rfl 17 rfl bB ?_;simp only[MH,LH];have kp:=gZ k [0,1,4];refine fC ?_;refine SG ⟨⟨λ hg=>⟨?_⟩⟩⟩ ⟨⟨λ hg=>⟨?_⟩⟩⟩
 .refine kJ (zN ?_);refine⟨?_,?_⟩;.rw[eRV];simp;omega
  rw[eRH];simp only[MH,LH];exact fJ gG
 refine kJ (zN ?_);refine⟨?_,?_⟩;.rw[eRV];simp;omega
 rw[eRH];simp only[MH,LH];exact fJ gG
def zZ(L:LSt):Prop:=∀i j,i<j->j<L.tl.length->(L.tsk i).id<(L.tsk j).id
def FJ(L:LSt)(id r:Int):Prop:=(r= -1/\∀i,i<L.tl.length->(L.tsk i).id≠id)\/∃i:Nat,i<L.tl.length/\r=(i:Int)/\(L.tsk i).id=id
theorem aKR(L:LSt)(id:Int):∃r,FJ L id r:=by
 by_cases h:∃i,i<L.tl.length/\(L.tsk i).id=id;.obtain⟨i,h1,h2⟩:=h;exact⟨i,.inr ⟨i,h1,rfl,h2⟩⟩
 exact⟨-1,.inl ⟨rfl,λ i h1 h2=>h ⟨i,h1,h2⟩⟩⟩
def aYN(L:LSt)(id:Int)(p:Nat):Prop:=p<=L.tl.length/\(∀q,q<p->(L.tsk q).id<id)/\∀q,p<=q->q<L.tl.length->id<=(L.tsk q).id
theorem cmpZ_neg{a b:Int}:qU a b<0↔a<b:=by unfold qU;split<;>(try split)<;>omega
theorem UM{a b:Int}:qU a b=0↔a=b:=by unfold qU;split<;>(try split)<;>omega
theorem a3X(L:LSt)(id:Int)(p:Nat)(hp:aYN L id p)(hso:zZ L)(hnt:L.tl.length<=100000)(tk k:Nat)(hk:tk<k):
 Tr aD Γ 136 k [.sl tk 0 L.tl.length,id,.fn 137 []] [(tk,⟨8,aB,oJ L⟩)]
  (λ k1 r1 H1=>k1=k/\r1= .tup [p,(decide (p<L.tl.length/\(L.tsk p).id=id))]/\H1=[(tk,⟨8,aB,oJ L⟩)]):=by
 refine cN Tryz.func136 rfl 49 rfl bB ?_;have kp:=gZ k [0,1,2,6,7,8,9,10,11,17,31];refine fC ?_;refine cA ?_;refine bY (X:=Nat×Nat) rfl [0,1,2,6,7,8,9,10,11,17,31] k (λ x=>[(9,x.1),(10,x.2)]) (λ x=>[(tk,⟨8,aB,oJ L⟩)]) (λ x=>x.1<=x.2/\x.2<=L.tl.length/\x.1<=p/\p<=x.2) (λ x=>x.2-x.1) (0,L.tl.length) ?_ ⟨aZ _,aF _,aZ _,hp.1⟩ ?_;.refine fJ ?_;apply zN;exact gM
 rintro⟨i,j⟩ ⟨h1,h2,h3,h4⟩;simp only[]at h1 h2 h3 h4;have e1:aY.wrap ((i:Int)+(j:Int))=(i:Int)+(j:Int):=wrap_u64 oO oO;have e2:((i:Int)+(j:Int)).fdiv (2^min 1 64)=(((i+j)/2:Nat):Int):=by rw[show(2:Int)^min 1 64=2 from rfl,dU _ oO];omega
 obtain⟨h,eh⟩:∃h,h=(i+j)/2:=⟨_,rfl⟩;rw[<-eh]at e2;have e3:aL.wrap (h:Int)=(h:Int):=wrap_i64 oO oO;refine fJ ?_;apply zN;have uU:=tZ e1 e2 e3;refine fC ?_;refine oT (λ ht=>?_) λ ht=>?_
 .refine pP [.ret (qU (L.tsk h).id id)] ?_;refine iE ?_ ?_;.exact aKS (L.tsk h) id
  refine fC ?_;refine oT (λ ht=>?_) λ ht=>?_
  .have hc:=cmpZ_neg.1 ht;have:h<p:=Nat.lt_of_not_le λ e=>by have:=hp.2.2 h e oO;omega
   refine⟨(h+1,j),⟨by show h+1<=j;omega,h2,by show h+1<=p;omega,h4⟩,by show j-(h+1)<j-i;omega,?_⟩;refine fJ ?_;apply zN;exact gM
  have hc:¬(L.tsk h).id<id:=λ e=>by have:=cmpZ_neg.2 e;omega
  have:p<=h:=Nat.le_of_not_lt λ e=>hc (hp.2.1 h e);refine⟨(i,h),⟨by show i<=h;omega,by show h<=L.tl.length;omega,h3,this⟩,by show h-i<j-i;omega,?_⟩;refine fJ ?_;apply zN;exact gM
 have hi:i=p:=oO;subst hi;refine pP [.ret (qU (L.tsk i).id id)] ?_;refine jV ⟨⟨λ hg=>⟨?_⟩⟩⟩ ⟨⟨λ hg=>⟨?_⟩⟩⟩ ⟨⟨λ hg=>⟨?_⟩⟩⟩;.exact aKS (L.tsk i) id
 .have uU:=tZ e1 e2 e3;refine kJ (zN ?_)
  rw[show(qU (L.tsk i).id id==0)=decide (i<L.tl.length/\(L.tsk i).id=id)by
   rw[bH,beq_iff_eq,dTt,UM];constructor;.intro h;exact⟨oO,h⟩
   exact λ h=>h.2]
 have uU:=tZ e1 e2 e3;refine kJ (zN ?_);rw[decide_eq_false (by rintro⟨h,_⟩;omega)]
theorem aEI(L:LSt)(hso:zZ L)(id:Int):∃p,aYN L id p:=by
 suffices h:∀n,n<=L.tl.length->∃p,p<=n/\(∀q,q<p->(L.tsk q).id<id)/\∀q,p<=q->q<n->id<=(L.tsk q).id by obtain⟨p,h1,h2,h3⟩:=h L.tl.length (aF _);exact⟨p,h1,h2,h3⟩
 intro n
 induction n with
 |zero=>intro _;exact⟨0,aF _,λ q hq=>absurd hq (bO _),λ q _ hq=>absurd hq (bO _)⟩
 |succ n ih=>
  intro hn;obtain⟨p,h1,h2,h3⟩:=ih oO;by_cases hc:(L.tsk n).id<id
  .refine⟨n+1,aF _,λ q hq=>?_,λ q h4 h5=>oO⟩;by_cases he:q=n;.rw[he];exact hc
   have:=hso q n oO oO;omega
  refine⟨p,oO,h2,λ q h4 h5=>?_⟩;by_cases he:q=n;.rw[he];omega
  exact h3 q h4 oO
theorem find(L:LSt)(id r:Int)(hr:FJ L id r)(hso:zZ L)(hnt:L.tl.length<=100000)(m tk k:Nat)(hm:m+6+L.sl.length<=tk)(hk:tk<k):
 Tr aD Γ 76 k [.ptr m 0 0,id] (MH m tk L) (λ k1 r1 H1=>k1=k/\r1= .lit (.int .i64 r)/\H1=MH m tk L):=by
 obtain⟨p,hp⟩:=aEI L hso id
 have hrp:r=if p<L.tl.length/\(L.tsk p).id=id then(p:Int)else-1:=by
  rcases hr with⟨rfl,h⟩|⟨i,h1,rfl,h2⟩;.rw[iN (λ e=>h p e.1 e.2)]
  have:p=i:=by
   rcases kA p i with hc|hc|hc;.have:=hp.2.2 p (aF _) oO;have:=hso p i hc h1;omega
   .exact hc
   have:=hp.2.1 i hc;omega
  subst this;rw[iP ⟨h1,h2⟩]
 obtain⟨RH,eRH⟩:∃x:aO,x=MH m tk L:=⟨_,rfl⟩;obtain⟨RV,eRV⟩:∃x:AVal,x= .lit (.int .i64 r):=⟨_,rfl⟩;refine Tr.mono (dR (k:=k) (V:=RV) (RH:=RH) oO (by rw[eRV];rfl) (by rw[eRH];exact fL oO oO) ?_) (λ _ _ _ h=>⟨h.1,h.2.1.trans eRV,h.2.2.trans eRH⟩);refine cN Tryz.func76 rfl 20 rfl bB ?_;simp only[MH,LH];have kp:=gZ k [0,1,4,5,6,18];refine fC ?_;refine cA ?_;refine pP [.gen (.tup [p,(decide (p<L.tl.length/\(L.tsk p).id=id))]) k [(tk,⟨8,aB,oJ L⟩)] [(tk,⟨8,aB,oJ L⟩)]] ?_;refine iE ?_ ?_;.exact a3X L id p hp hso hnt tk k hk
 refine fC ?_;refine oT (λ ht=>?_) λ ht=>?_
 .refine kJ (zN ?_);refine⟨?_,?_⟩;.rw[eRV,hrp,iN oO]
  rw[eRH];simp only[MH,LH];exact fJ gG
 refine kJ (zN ?_);refine⟨?_,?_⟩;.rw[eRV,hrp,iP oO]
 rw[eRH];simp only[MH,LH];exact fJ gG
theorem aLO{o:Option Mb}{x y:Mb}(h:FM o x=aA y):y=x\/o=aA y:=by
 cases o with
 |none=>exact .inl (by simp only[FM,aA.injEq]at h;exact h.symm)
 |some b=>
  simp only[FM]at h;split at h;.exact .inl (by simpa using h.symm)
  exact .inr h
theorem aFK{L:LSt}{g c:Int}{y:Mb}:∀ {i:Nat},lT L g c i=aA y->∃j,j<i/\uL L g c j=aB/\y=tmb (L.tsk j)
 |0,h=>by cases h
 |i+1,h=>by
  rw[lT]at h;split at h
  .rcases aLO h with h1|h1;.exact⟨i,oO,by assumption,h1⟩
   obtain⟨j,h2,h3⟩:=aFK h1;exact⟨j,oO,h3⟩
  obtain⟨j,h2,h3⟩:=aFK h;exact⟨j,oO,h3⟩
theorem aFL{L:LSt}{F:Nat->Option Mb}{g c:Nat}{y:Mb}:∀ {i:Nat},lS L F g c i=aA y->(∃j,j<L.tl.length/\uL L g c j=aB/\y=tmb (L.tsk j))\/∃h,g<h/\h<g+1+i/\L.par h=g/\(F h).isSome=aB/\y=⟨(L.sp h c).v,1,(h:Int)⟩
 |0,h=> .inl (aFK h)
 |i+1,h=>by
  rw[lS]at h;split at h
  .rcases aLO h with h1|h1;.rename_i hh;exact .inr ⟨g+1+i,oO,oO,hh.1,hh.2,h1⟩
   rcases aFL h1 with h2|⟨j,h2,h3,h4⟩;.exact .inl h2
   exact .inr ⟨j,h2,oO,h4⟩
  rcases aFL h with h2|⟨j,h2,h3,h4⟩;.exact .inl h2
  exact .inr ⟨j,h2,oO,h4⟩
theorem aAU{L:LSt}{F G:Nat->Option Mb}{g c:Nat}:∀ {i:Nat},(∀h,g<h->h<g+1+i->F h=G h)->lS L F g c i=lS L G g c i
 |0,_=>rfl
 |i+1,h=>by rw[lS,lS,h (g+1+i) oO oO,aAU (λ j h1 h2=>h j h1 oO)]
theorem KE{L:LSt}:∀ {f f' g c:Nat},L.sl.length-g<=f->L.sl.length-g<=f'->g<L.sl.length->iH L f g c=iH L f' g c
 |0,_,g,c,h,_,hg=>oO
 |_+1,0,g,c,_,h,hg=>oO
 |f+1,f'+1,g,c,h,h',hg=>by rw[iH,iH];exact aAU λ j h1 h2=>KE oO oO oO
def FL(L:LSt)(g c:Nat):Option Mb:=iH L L.sl.length g c
theorem WJ{L:LSt}{g c:Nat}{y:Mb}(hg:g<L.sl.length)(h:FL L g c=aA y):(∃j,j<L.tl.length/\uL L g c j=aB/\y=tmb (L.tsk j))\/∃h,g<h/\h<L.sl.length/\L.par h=g/\(FL L h c).isSome=aB/\y=⟨(L.sp h c).v,1,(h:Int)⟩:=by
 unfold FL at h;obtain⟨n,hn⟩:∃n,L.sl.length=n+1:=⟨L.sl.length-1,oO⟩;rw[hn,iH]at h;rcases aFL h with h1|⟨j,h1,h2,h3,h4,h5⟩;.exact .inl h1
 refine .inr ⟨j,h1,oO,h3,?_,h5⟩;rw[FL,hn,<-KE (f:=n) oO oO oO];exact h4
theorem aFG(L:LSt)(n c:Nat)(hS:Shp L n)(hc:c<n)(m tk:Nat)(hm:m+6+L.sl.length<=tk)(g:Nat)(hg:g<L.sl.length)(k:Nat)(hk:tk<k):
 Tr aD Γ 77 k [.ptr m 0 0,g,c] (MH m tk L) (λ k1 r1 H1=>k1=k/\r1=resL (FL L g c)/\H1=MH m tk L):=
 bCT L n c hS hc m tk hm L.sl.length g hg oO k hk
def xA(L:LSt):Nat->Nat->Nat->Int
 |0,_,_=>0
 | f+1,g,c=>match FL L g c with
   |none=>0
   |some x=>if x.b=0 then x.x else xA L f x.x.toNat c
theorem PC{L:LSt}{c:Nat}:∀ {f g:Nat},g<L.sl.length->xA L f g c=0\/∃j,j<L.tl.length/\(L.tsk j).ready=aB/\(L.tsk j).cpu=c/\xA L f g c=(L.tsk j).id
 |0,_,_=> .inl rfl
 |f+1,g,hg=>by
  rw[xA]
  cases hl:FL L g c with
  |none=>exact .inl rfl
  |some x=>
   simp only[];rcases WJ hg hl with⟨j,h1,h2,rfl⟩|⟨h,h1,h2,h3,h4,rfl⟩;.rw[takes_iff]at h2;exact .inr ⟨j,h1,h2.1,h2.2.2,iP rfl⟩
   rw[iN (by show ¬(1:Int)=0;omega)];exact PC h2
def IE(L:LSt)(c:Int):Nat->Int
 |0=>0
 |i+1=>if(L.tsk i).ready=aB/\(L.tsk i).cpu=c then aL.wrap (IE L c i+(L.tsk i).weight)else IE L c i
theorem weight(L:LSt)(c:Int)(m tk k:Nat)(hm:m+6+L.sl.length<=tk)(hk:tk<k)(hnt:L.tl.length<=100000):
 Tr aD Γ 173 k [.ptr m 0 0,c] (MH m tk L) (λ k1 r1 H1=>k1=k/\r1= .lit (.int .i64 (IE L c L.tl.length))/\H1=MH m tk L):=by
 obtain⟨RH,eRH⟩:∃x:aO,x=MH m tk L:=⟨_,rfl⟩;obtain⟨RV,eRV⟩:∃x:AVal,x= .lit (.int .i64 (IE L c L.tl.length)):=⟨_,rfl⟩;refine Tr.mono (dR (k:=k) (V:=RV) (RH:=RH) oO (by rw[eRV];rfl) (by rw[eRH];exact fL oO oO) ?_) (λ _ _ _ h=>⟨h.1,h.2.1.trans eRV,h.2.2.trans eRH⟩);refine cN Tryz.func173 rfl 32 rfl bB ?_;simp only[MH,LH];have kp:=gZ k [0,1,4,5,7,12,13,14,15,25];refine fC ?_;refine cA ?_;refine bY (X:=Nat) rfl [0,1,4,5,7,12,13,14,15,25] k (λ i=>[(14,i),(5,(IE L c i))]) (λ i=>MH m tk L) (λ i=>i<=L.tl.length) (λ i=>L.tl.length-i) 0 ?_ (aZ _) ?_;.simp only[MH,LH];rw[IE];refine fJ ?_;apply zN;exact gM
 intro i hi;have hw1:(L.tsk i).ready=aB/\(L.tsk i).cpu=c->IE L c (i+1)=aL.wrap (IE L c i+(L.tsk i).weight):=λ h=>by rw[IE,iP h]
 have hw2:¬((L.tsk i).ready=aB/\(L.tsk i).cpu=c)->IE L c (i+1)=IE L c i:=λ h=>by rw[IE,iN h]
 obtain⟨w,ew⟩:∃w,w=IE L c i:=⟨_,rfl⟩;rw[<-ew]at hw1 hw2;rw[<-ew];simp only[MH,LH];refine fJ ?_;apply zN;refine fC ?_;refine CM ⟨λ ht ht=>⟨λ hg=>⟨?_⟩⟩⟩ ⟨λ ht ht=>⟨λ hg=>⟨?_⟩⟩⟩ ⟨λ ht ht=>⟨λ hg=>⟨?_⟩⟩⟩ ⟨λ ht=>zN ?_⟩;.refine⟨i+1,oO,oO,?_⟩;rw[hw1 ⟨by assumption,by assumption⟩];refine fJ ?_;apply zN;exact gM
 iterate 2
  · refine⟨i+1,oO,oO,?_⟩
    rw[hw2 (by rintro⟨a1,a2⟩;first|omega|(simp_all;done))]
    refine fJ ?_;apply zN
    exact gM
 have hi':i=L.tl.length:=oO;subst hi';refine kJ (zN ?_);refine⟨?_,?_⟩;.rw[eRV,ew]
 rw[eRH];simp only[MH,LH];exact fJ gG
theorem aNN(t:Tk)(v r w:Int)(R:List (List AVal))(id i:Nat)(hi:R[i]? =aA (tkc t))(hw:0<=w)(hw2:w<=4294967295)(k:Nat)(hk:id<k):
 Tr aD Γ 163 k [.ptr id i 0,enc v r w] [(id,⟨8,aB,R⟩)] (λ k1 r1 H1=>k1=k/\r1= .tup []/\H1=[(id,⟨8,aB,R.set i (tkc {t with v:=v,r:=r,weight:=w})⟩)]):=by
 have e1:aL.wrap w=w:=wrap_i64 oO oO;refine cN Tryz.func163 rfl 20 rfl bB (pA ?_);have hlt:i<R.length:=(aK.1 hi).1;have hset:∀x,(R.set i x)[i]? =aA x:=λ x=>by simp[hlt]
 have kp:Kp [0,1,3] (λ i=>if i=id then 0 else i-k+1):=jZ;have uU:=ID e1 hi hset @ssN @enc.eq_1;refine fC ?_;refine cA ?_;refine⟨k,[],[(id,⟨8,aB,R.set i (tkc {t with v:=v,r:=r,weight:=w})⟩)],?_,_,rfl,rfl,rfl,rfl⟩;refine fJ ?_;apply zN;exact gM
def aHZ(s:Sp)(w:Int):Prop:=pK s.v s.r w=aB/\0<=s.v/\s.v<=18446744073709551615/\0<=s.r/\0<=s.floor/\s.floor<=18446744073709551615
structure TkOk (L:LSt) (n:Nat) (t:Tk):Prop where
 id1:1<=t.id
 id2:t.id<=65535
 g0:0<=t.group
 g1:t.group<L.sl.length
 c0:0<=t.cpu
 c1:t.cpu<n
 e:pK t.v t.r t.weight=aB
 v0:0<=t.v
 v1:t.v<=18446744073709551615
 r0:0<=t.r
 m0:0<=t.mask
 m1:t.mask<18446744073709551616
 m2:t.mask/2^n=0
 m3:t.mask/2^t.cpu.toNat%2=1
structure Rt0 (L:LSt) (n:Nat):Prop where
 n1:1<=n
 n64:n<=64
 cpus:L.cpus=n
 cr0:0<=L.credit
 cr:L.credit<=1099511627776
 ng:L.gl.length=L.sl.length
 ns1:1<=L.sl.length
 ns:L.sl.length<=256
 nk:L.kl.length=n
 nu:L.ul.length=n
 rows:∀g,g<L.sl.length->(L.sl.getD g []).length=n
 nt:L.tl.length<=1000
 par:∀g,0<g->g<L.sl.length->0<=L.par g/\L.par g<g
 par0:L.par 0=0
 wt:∀g,g<L.sl.length->1<=L.wt g/\L.wt g<=65536
 clk:∀c,c<n->0<=L.clk c/\L.clk c<=281474976710656
 sp:∀g c,g<L.sl.length->c<n->aHZ (L.sp g c) (L.wt g)
 root:∀c,c<n->(L.sp 0 c).v=0/\(L.sp 0 c).r=0
 tk:∀i,i<L.tl.length->TkOk L n (L.tsk i)
 sorted:zZ L
 cur:∀c,c<n->L.cur c=0\/∃j,j<L.tl.length/\(L.tsk j).ready=aB/\(L.tsk j).cpu=c/\(L.tsk j).id=L.cur c
theorem Rt0.shp {L:LSt}{n:Nat}(h:Rt0 L n):Shp L n:=
 ⟨h.ng,h.rows,by have:=h.nt;omega,by have:=h.ns;omega,λ i hi=>by have:=h.tk i hi;exact⟨by have:=this.id1;omega,this.id2,this.v1⟩,λ g c hg hc=>(h.sp g c hg hc).2.2.1⟩
def LSt.setT (L:LSt)(i:Nat)(t:Tk):LSt:={L with tl:=L.tl.set i t}
def LSt.setS (L:LSt)(g c:Nat)(s:Sp):LSt:={L with sl:=L.sl.set g ((L.sl.getD g []).set c s)}
theorem FV{L:LSt}{i j:Nat}{t:Tk}(hi:i<L.tl.length):(L.setT i t).tsk j=if j=i then t else L.tsk j:=by
 unfold LSt.setT LSt.tsk;simp only[aR,dD];by_cases h:j=i;.subst h;simp[hi]
 rw[iN (Ne.symm h),iN h]
theorem pW{L:LSt}{i:Nat}{t:Tk}:(L.setT i t).tl.length=L.tl.length:=oE
theorem rY{L:LSt}{g c:Nat}{s:Sp}:(L.setS g c s).sl.length=L.sl.length:=oE
theorem NJ{L:LSt}{g c h:Nat}{s:Sp}(hg:g<L.sl.length):(L.setS g c s).sl.getD h []=if h=g then(L.sl.getD g []).set c s else L.sl.getD h []:=by
 unfold LSt.setS;simp only[aR,dD];by_cases e:h=g;.subst e;simp[hg]
 rw[iN (Ne.symm e),iN e]
theorem SQ{L:LSt}{g c h:Nat}{s:Sp}:((L.setS g c s).sl.getD h []).length=(L.sl.getD h []).length:=by
 by_cases hg:g<L.sl.length
 .rw[NJ hg];split;.subst h;simp
  rfl
 unfold LSt.setS;rw[List.set_eq_of_length_le oO]
theorem yL{L:LSt}{g c h d:Nat}{s:Sp}(hg:g<L.sl.length)(hc:c<(L.sl.getD g []).length):(L.setS g c s).sp h d=if h=g/\d=c then s else L.sp h d:=by
 unfold LSt.sp;rw[NJ hg];by_cases e:h=g
 .subst e;rw[iP rfl];simp only[aR,dD]at*
  by_cases e2:d=c;.subst e2;simp[hc]
  rw[iN (Ne.symm e2),iN (λ h=>e2 h.2)]
 rw[iN e,iN (λ h=>e h.1)]
theorem fam_congr{s:Nat}:∀ {n f:Nat} {R R':Nat->List (List AVal)},(∀j,j<n->R j=R' j)->mE f s n R=mE f s n R'
 |0,_,_,_,_=>rfl
 |n+1,f,R,R',h=>by rw[mE,mE,h 0 oO,fam_congr (n:=n) (λ j hj=>h (j+1) oO)]
theorem aMR{L:LSt}{i:Nat}{t:Tk}:oJ (L.setT i t)=(oJ L).set i (tkc t):=by simp[oJ,LSt.setT,iX]
theorem a0B{L:LSt}{g c h:Nat}{s:Sp}(hg:g<L.sl.length):BB (L.setS g c s) h=if h=g then(BB L g).set c (spc s)else BB L h:=by
 unfold BB;rw[NJ hg];split;.rw[iX]
 rfl
theorem DQ{m tk i:Nat}{L:LSt}{t:Tk}:MH m tk (L.setT i t)=(m,⟨8,aE,[fG m tk L]⟩)::(m+1,⟨2,aB,QT L⟩)::(m+2,⟨1,aB,RG L⟩)::(m+3,⟨1,aB,KW L⟩)::(m+5,⟨1,aE,GD m L⟩)::(tk,⟨8,aB,(oJ L).set i (tkc t)⟩)::mE (m+6) 3 L.sl.length (BB L):=by
 rw[MH,LH,aMR];have e:fG m tk (L.setT i t)=fG m tk L:=by unfold fG;rw[pW];rfl
 rw[e];rfl
theorem a0V{m g c:Nat}{L:LSt}{s:Sp}:GD m (L.setS g c s)=GD m L:=by unfold GD;rw[rY];refine fD λ h _=>?_;rw[ouF,ouF,SQ]
theorem MT{m tk g c:Nat}{L:LSt}{s:Sp}(hg:g<L.sl.length):MH m tk (L.setS g c s)=(m,⟨8,aE,[fG m tk L]⟩)::(m+1,⟨2,aB,QT L⟩)::(m+2,⟨1,aB,RG L⟩)::(m+3,⟨1,aB,KW L⟩)::(m+5,⟨1,aE,GD m L⟩)::(tk,⟨8,aB,oJ L⟩)::mE (m+6) 3 L.sl.length (λ j=>if j=g then(BB L g).set c (spc s)else BB L j):=by
 rw[MH,LH,a0V];have e:fG m tk (L.setS g c s)=fG m tk L:=by unfold fG;rw[rY];rfl
 rw[e,rY,fam_congr (λ j _=>a0B hg)];rfl
theorem Rt0.setS {L:LSt}{n g c:Nat}{s:Sp}(h:Rt0 L n)(hg:g<L.sl.length)(hc:c<n)(hs:aHZ s (L.wt g))(hroot:g=0->s.v=0/\s.r=0):Rt0 (L.setS g c s) n:=by
 have hc':c<(L.sl.getD g []).length:=by rw[h.rows g hg];exact hc
 have hl:= @rY L g c s;refine⟨h.n1,h.n64,h.cpus,h.cr0,h.cr,by rw[hl];exact h.ng,by rw[hl];exact h.ns1,by rw[hl];exact h.ns,h.nk,h.nu,λ j hj=>by rw[SQ];exact h.rows j oO,h.nt,λ j h1 h2=>h.par j h1 oO,h.par0,λ j hj=>h.wt j oO,h.clk,λ j d hj hd=>?_,λ d hd=>?_,λ i hi=>?_,h.sorted,h.cur⟩
 .rw[yL hg hc'];split;.rename_i e;rw[e.1];exact hs
  exact h.sp j d oO hd
 .rw[yL hg hc'];split;.rename_i e;exact hroot e.1.symm
  exact h.root d hd
 have t:=h.tk i hi;exact⟨t.id1,t.id2,t.g0,by rw[hl];exact t.g1,t.c0,t.c1,t.e,t.v0,t.v1,t.r0,t.m0,t.m1,t.m2,t.m3⟩
theorem aAR{a b:Int}(h1:0<=a)(h2:a<=18446744073709551615)(h3:0<=b):0<=BV a b/\BV a b<=18446744073709551615:=by unfold BV;split<;>omega
theorem YR{s:Sp}{w f c:Int}(h:aHZ s w)(hf:0<=f)(hf2:f<=18446744073709551615)(hc:0<=c):aHZ {s with v:=(uI s.v s.r f c).1,r:=(uI s.v s.r f c).2} w:=by obtain⟨h1,h2,h3,h4,h5,h6⟩:=h;have:=aAR hf hf2 hc;simp only[pK,dTt]at h1;unfold uI aHZ;simp only[pK,dTt];split<;>(refine⟨?_,?_,?_,?_,h5,h6⟩<;>omega)
def woken1(L:LSt)(c g:Nat):LSt:=L.setS g c {L.sp g c with v:=(uI (L.sp g c).v (L.sp g c).r (L.sp (L.par g).toNat c).floor L.credit).1,r:=(uI (L.sp g c).v (L.sp g c).r (L.sp (L.par g).toNat c).floor L.credit).2}
theorem Rt0.woken1 {L:LSt}{n g c:Nat}(h:Rt0 L n)(h0:0<g)(hg:g<L.sl.length)(hc:c<n):Rt0 (woken1 L c g) n:=by have hp:=h.par g h0 hg;have hs:=h.sp (L.par g).toNat c oO hc;exact h.setS hg hc (YR (h.sp g c hg hc) hs.2.2.2.2.1 hs.2.2.2.2.2 h.cr0) (λ e=>oO)
def wkN(L:LSt)(c:Nat)(l:List Nat):Nat->LSt
 |0=>L
 |j+1=>woken1 (wkN L c l j) c (l.getD j 0)
def oI(L:LSt)(c:Nat)(l:List Nat):LSt:=wkN L c l l.length
theorem MW{L:LSt}{n c:Nat}{l:List Nat}(h:Rt0 L n)(hc:c<n)(hl:∀g,g∈l->0<g/\g<L.sl.length):∀ {j:Nat},j<=l.length->Rt0 (wkN L c l j) n/\(wkN L c l j).sl.length=L.sl.length
 |0,_=>⟨h,rfl⟩
 |j+1,hj=>by obtain⟨h1,h2⟩:=MW h hc hl (j:=j) oO;have:=hl (l.getD j 0) (by simp only[aR];rw[aJ oO];exact JR _);exact⟨h1.woken1 this.1 oO hc,by rw[wkN,woken1,rY,h2]⟩
def gR(l:List Nat):List (List AVal):=l.map λ(g:Nat)=>[.lit (.int .i64 (g:Int))]
theorem aUU(l:List Nat):(gR l).length=l.length:=cX _
theorem a8S{l:List Nat}{j:Nat}(h:j<l.length):(gR l)[j]? =aA [.lit (.int .i64 ((l.getD j 0:Nat):Int))]:=by simp[gR,h,oH]
attribute [go_sem] aUU
theorem jB{p:Nat->Bool}{e s:Nat}{R:List (List AVal)}{H:aO}(h:p e=aB)(h2:oM p H=aB):oM p ((e,⟨s,aB,R⟩)::H)=aB:=by
 simp only[oM,fU,h,AD,iC,lG]at h2⊢
 exact h2
theorem bBP(L:LSt)(n c:Nat)(hS:Rt0 L n)(hc:c<n)(l:List Nat)(hl:∀g,g∈l->0<g/\g<L.sl.length)(hl2:l.length<=1000)(m tk e k:Nat)(hm:m+6+L.sl.length<=tk)(he:tk<e)(hk:e<k):
 Tr aD Γ 166 k [.ptr m 0 0,.sl e 0 l.length,c] ((e,⟨1,aB,gR l⟩)::MH m tk L) (λ k1 r1 H1=>k1=k/\r1= .tup []/\H1=(e,⟨1,aB,gR l⟩)::MH m tk (oI L c l)):=by
 have hWk:Rt0 (oI L c l) n/\(oI L c l).sl.length=L.sl.length:=MW hS hc hl (aF _);have hWk2:=hWk.2;obtain⟨RH,eRH⟩:∃x:aO,x=(e,⟨1,aB,gR l⟩)::MH m tk (oI L c l):=⟨_,rfl⟩;obtain⟨F,hF⟩:∃F:Nat->aO,∀j,F j=(e,⟨1,aB,gR l⟩)::MH m tk (wkN L c l j):=⟨_,λ _=>rfl⟩;refine Tr.mono (dR (kk:=k) (V:= .tup []) (RH:=RH) oO rfl (by rw[eRH];exact jB (by simp only[jS,dTt];omega) (fL oO oO)) ?_) (λ _ _ _ h=>⟨h.1,h.2.1,h.2.2.trans eRH⟩);refine cN Tryz.func166 rfl 82 rfl bB ?_;simp only[MH,LH];have kp:=gZ k [0,1,2,7,8,9,10,12,13,14,15];refine fC ?_;refine cA ?_;refine bY (X:=Nat) rfl [0,1,2,7,8,9,10,12,13,14,15] k (λ j=>[(14,j)]) (λ j=>F j) (λ j=>j<=l.length) (λ j=>l.length-j) 0 ?_ (aZ _) ?_;.rw[hF,wkN];simp only[MH,LH];refine fJ ?_;apply zN;exact gM
 intro j hj;obtain⟨hM,hMl⟩:=MW hS hc hl hj;have hsucc:wkN L c l (j+1)=woken1 (wkN L c l j) c (l.getD j 0):=rfl;have hlast:j=l.length->oI L c l=wkN L c l j:=λ e=>by rw[e];rfl
 have hget:j<l.length->(gR l)[j]? =aA [.lit (.int .i64 ((l.getD j 0:Nat):Int))]:=a8S;have hg:j<l.length->0<l.getD j 0/\l.getD j 0<L.sl.length:=λ h=>hl _ (by simp only[aR];rw[aJ h];exact JR _);obtain⟨M,eM⟩:∃M,M=wkN L c l j:=⟨_,rfl⟩;rw[hF j,<-eM];rw[<-eM]at hM hMl hsucc hlast;obtain⟨g,eg⟩:∃g,g=l.getD j 0:=⟨_,rfl⟩;rw[<-eg]at hget hsucc hg;simp only[MH,LH];refine fJ ?_;apply zN;by_cases hj2:j<l.length
 .have hget:=hget hj2;obtain⟨hg0,hg1⟩:=hg hj2;have hng:=hM.ng;have hrow:=hM.rows g oO;obtain⟨hp0,hp1⟩:=hM.par g hg0 oO;obtain⟨p,hp⟩:∃p:Nat,M.par g=(p:Int):=⟨(M.par g).toNat,oO⟩;have hrow2:=hM.rows p oO;have hw:=hM.wt g oO;have hs1:=hM.sp g c oO hc;have hs2:=hM.sp p c oO hc;have kp:Kp [0,1,2,7,8,9,10,12,13,14,15] (λ i=>if k<=i then i-k+1 else 0):=jZ;have uU:=DR hget hrow hrow2 hp;refine fC ?_;refine dI λ ht=>?_;obtain⟨z,ez⟩:∃z,z=uI (M.sp g c).v (M.sp g c).r (M.sp p c).floor M.credit:=⟨_,rfl⟩;refine YO [.ret (enc (M.sp g c).v (M.sp g c).r (M.wt g)),.ret (.tup [enc z.1 z.2 (M.wt g),(0:Int)])] ?_;refine jV (zs ?_) (zs ?_) (zs ?_);.exact qB _ _ _ oO oO
  .rw[ez];exact aSH _ _ _ _ _ hs1.1 hs2.2.2.2.2.1 hs2.2.2.2.2.2 hM.cr0
  have hsetS:∀x,((BB M g).set c x)[c]? =aA x:=λ x=>fW (by rw[CR,hrow];exact hc);have uU:=rA hget hrow hrow2 hp hsetS @ssN;refine fC ?_;refine cA ?_;refine⟨j+1,oO,oO,?_⟩;rw[hF,hsucc,woken1,MT oO,hp,bP,<-ez];refine fJ ?_;apply zN;exact gM
 have hj3:j=l.length:=oO;rw[hlast hj3]at eRH;have kp:Kp [0,1,2,7,8,9,10,12,13,14,15] (λ i=>if k<=i then i-k+1 else 0):=jZ;refine fC ?_;refine dI λ ht=>?_;refine⟨_,rfl,rfl,?_⟩;rw[eRH];simp only[MH,LH];exact fJ gG
end Go.Proofs.T
end
section
namespace Go.AM
open Go
def shC(f:Foot):Bool×Bool:=(f.rds.isEmpty,f.mods.isEmpty)
def unC(b:Bool×Bool):List Nat×List Nat:=(if b.1=aB then []else [0],if b.2=aB then []else [0])
theorem CP{l:List Nat}:∀x,x∈l.map (λ _=>0)->x∈(if l.isEmpty=aB then []else [0]):=λ x hx=>by
 cases l with
 |nil=>simp at hx
 |cons a r=>
  simp only[bI,eY,dB]at hx;simp only[YH,aS,if_false,MU];rcases hx with h|⟨_,_,h⟩;.exact h
  exact h.symm
theorem a3S{ops:Array Oper}{oj oi:Oper}{fj fi:Foot}(h:zP ops oj (unC (shC fj)) oi (unC (shC fi))=aE):mR ops oj fj oi fi=aE:=by refine XO (g:=λ _=>0) ?_;simp only[zP,fO,unC,shC]at h;simp only[zP,fO,shG];obtain⟨⟨⟨⟨⟨h1,h2⟩,h3⟩,h4⟩,h5⟩,h6⟩:=h;exact⟨⟨⟨⟨⟨h1,h2⟩,h3⟩,xM CP CP h4⟩,xM CP CP h5⟩,xM CP CP h6⟩
theorem aVW{ops:Array Oper}{tr:List Foot}{L:List (Bool×Bool)}(hL:tr.map shC=L)(h:EK ops (L.map unC)=aB)(hm:(tr.all λ f=>f.mods.all λ x=>decide (x<f.k'))=aB):kP ops tr=aB:=by
 subst hL;simp only[EK,aW]at h;simp only[kP,aW];intro i hi;have h1:=h i hi;rw[aP,aP]at h1
 cases ho:ops[i]? with
 |none=>rw[ho]at h1;simp at h1
 |some oi=>
  cases ht:tr[i]? with
  |none=>rw[ho,ht]at h1;simp at h1
  |some fi=>
   rw[ho,ht]at h1;simp only[bU,aH,aW]at h1;simp only[aH,aW];refine⟨⟨h1.1,?_⟩,λ j hj=>?_⟩;.have:=aW.1 hm fi (iG ht);exact λ x hx=>aW.1 this x hx
   have h2:=h1.2 j hj;rw[aP,aP]at h2
   cases hoj:ops[j]? with
   |none=>rw[hoj]at h2;simp at h2
   |some oj=>
    cases htj:tr[j]? with
    |none=>rw[hoj,htj]at h2;simp at h2
    |some fj=>
     rw[hoj,htj]at h2;simp only[bU,bL,bD]at h2⊢
     exact h2.imp a3S id
section
variable{P:Program}{Γ:dL}{o:Oper}{ev:Operand->Option AVal}{get:Nat->Option Blk}{k:Nat}
theorem aEC{w:World}{G:Nat->Prop}{ρ:cY}{A:bZ}{s m:Nat}{rows:List (List AVal)}{p:Bool}(hs:0<s){cnt:Nat}(hcnt:cnt<=m){b off:Nat}{gv:Nat->Nat->Value}(hl:rows.length=m)(hrl:∀(r:Nat) row,rows[r]? =aA row->row.length=s)
 (hgv:∀r row c v,rows[r]? =aA row->row[c]? =aA v->w.cell? ⟨b,off+r*s+c,aC⟩=aA (gv r c)/\V w G (if p then bS else ρ) (if p then cI else A) v (gv r c)) (hone:LS (rows.take cnt)):
 (∀j u,(news s cnt gv)[j]? =aA u->w.cell? ((⟨b,off,aC⟩:Addr).add j)=aA u)/\(∀u∈news s cnt gv,u.oneCell'=aB):=by
 refine⟨λ j u hj=>?_,λ u hu=>?_⟩
 .obtain⟨h1,h2,rfl⟩:=sA hj hs;obtain⟨row,v,h3,h4⟩:=wM hrl (by omega:j/s<rows.length) h2;have h5:=(hgv _ row _ v h3 h4).1;rw[Addr.add_mid,<-h5];have:off+j=off+j/s*s+j%s:=by have:=EB j s;rw[iW]at this;omega
  rw[this]
 obtain⟨j,hj⟩:=oN hu;obtain⟨h1,h2,rfl⟩:=sA hj hs;obtain⟨row,v,h3,h4⟩:=wM hrl (by omega:j/s<rows.length) h2;exact ZZ (hgv _ row _ v h3 h4).2 (hone (j/s) row _ v (by rw[fE];rw[iP h1];exact h3) h4)
theorem zL{x y:Operand}{t id r n m s by':Nat}{zrow:List AVal}{B:Blk}{v:AVal}{rows:List (List AVal)}{p:Bool}{ids:List Nat}(cnt:Nat)
 (ho:o.op= .call {callee:= .builtin .copy,args:= #[x,y],argTypes:= #[t,t]}) (hz:gV P t=aA (s,by',zrow)) (hx:ev x=aA (.sl id r n)) (hB:get id=aA B) (hBs:B.sz=s) (hy:ev y=aA v) (hs:SrcA get (deS v) s m rows p ids)
 (hone:((rows.take cnt).all λ row=>row.all one)=aB) (hcnt:cnt=Nat.min m n) (hc0:0<cnt) (hr:r+n<=B.rows.length) {q:Bool} {X:List (List AVal)} (e1:(B.pure&&p)=q) (e2:gC B.rows (rows.take cnt) r=X):
 Good P Γ o ev get k ⟨.lit (.int .i64 cnt),k,[(id,aA ⟨B.sz,q,X⟩)],id::ids⟩:=by
 subst e1;subst e2;have hcm:cnt<=m/\cnt<=n:=by rw[hcnt];exact⟨Nat.min_le_left _ _,Nat.min_le_right _ _⟩
 refine⟨?_,NQ hB hs.some,aF _⟩;intro w G ρ H A a hrl hA hf hrd hop next Q hn
 unfold gV at hz;split at hz;case h_2=>cases hz
 rename_i e hu;split at hz;case h_2=>cases hz
 rename_i i hi;split at hz;case h_2=>cases hz
 rename_i z hzz;split at hz;case isFalse=>cases hz
 rename_i hsz;cases hz;obtain⟨B',A',h3,hH,hAA⟩:=hrd id sS;rw[hB]at h3;cases h3;obtain⟨_,b,hb,_,hBR⟩:=hrl.blk id B A' hH;have hvx:=hop x (by simp[ho,Op.operands,Call.operands]) _ hx;have hvy:=PQ (hop y (by simp[ho,Op.operands,Call.operands]) _ hy);obtain⟨hsl,hsrl,hsex⟩:=hs.src hrl (λ id' hid=>hrd id' (dM _ hid)) hvy;obtain⟨sb,soff,scap,hsv,gv,hgv⟩:=hsex oO;obtain⟨hcell,h1⟩:=aEC (cnt:=cnt) hsz.2 hcm.1 hsl hsrl hgv (wO hone);generalize hev:a.eval x=cvx at hvx
 cases hvx with
 |dangs _ hn'=>rw[hb]at hn';cases hn'
 |sl0=>omega
 |sl h4 h5 h6 h7 h8 h9 h10=>
  rw[hb]at h5;cases h5;rename_i dcap doff;obtain⟨⟨C,ty,hC,hrows⟩,hlen⟩:=hBR.old h6;have e:=h6;unfold World.shape? at e;rw[hC]at e;simp at e;obtain⟨rfl,rfl⟩:=e;have hoff:=h10.resolve_left oO;subst hoff;have hfit0:=NL hrows hlen;have hfit:(r+cnt)*B.sz<=C.size:=qX (cC _ oO) hfit0;have hnl:=uR i.size cnt gv;have hrun:=QX (P:=P) w t t o.type e b (r*B.sz) n dcap ⟨sb,soff,aC⟩ m scap C ty (news i.size cnt gv) i cnt hu hi hC hcnt hnl hcell (by rw[hnl,hBs,<-cQ,<-hBs];exact hfit) h1;have hrun':(execOp a.eval o).run P w= .ok (.value (goInt cnt)) (w.setRow b (C.toList.take (r*B.sz)++news i.size cnt gv++C.toList.drop (r*B.sz+(news i.size cnt gv).length)).toArray):=by simp only[execOp,ho,resolve,invoke,builtin];simp only[yH,bI,bQ,bN,dE,bG,hev,hsv,hrun]
  unfold Oper.wp;rw[hrun'];rw[<-hBs]at hrun'⊢
  have hw:=IH (k:=k) hrl h4 hAA hb hC hrows hlen r cnt (rows.take cnt) p gv (by simp;omega) (λ q row h=>by rw[hBs];exact hsrl q row (AX h).2)
   (λ q row c v h h'=>(hgv q row c v (AX h).2 h').2) oO hfit
  exact hn _ G ρ (goInt cnt) hw.1 .lit hw.2
theorem aMM{t id r n c e r' n' c':Nat}{x:Operand}{lo hi:Option Operand}{B:Blk}{l h:Int}(ho:o.op= .slice t x lo hi aC)(hB:get id=aA B)(ht:CC P t=aA B.sz)(hx:ev x=aA (.slc id r n c))
 (hl:bound ev lo 0=aA l) (hh:bound ev hi n=aA h) (h0:0<=l) (h1:l<=h) (h2:h<=c) (he:B.rows.length+e<=r+c) (e1:r+l.toNat=r') (e2:h.toNat-l.toNat=n') (e3:c-l.toNat=c') {X:List (List AVal)} (e4:B.rows++bE e (bE B.sz .junk)=X):
 Good P Γ o ev get k ⟨.slc id r' n' c',k,[(id,aA ⟨B.sz,B.pure,X⟩)],[id]⟩:=by subst e1;subst e2;subst e3;subst e4;exact aRJ ho hB ht hx hl hh h0 h1 h2 he
theorem aHL{x y:Operand}{t tn id r n c m s by':Nat}{kn kq:IntKind}{zrow:List AVal}{B:Blk}
 (ho:o.op= .call {callee:= .builtin .append,args:= #[x,y],argTypes:= #[t,tn]}) (hz:gV P t=aA (s,by',zrow)) (htn:P.underlying tn=aA (.int kn)) (hx:ev x=aA (.slc id r n c)) (hB:get id=aA B) (hBs:B.sz=s)
 (hy:ev y=aA (.lit (.int kq (m:Int)))) (hm:0<m) (hroom:c<n+m) (hby:(n+m)*by'<=140737488355328) (hlen0:n+m<=9223372036854775807) (hr:r+n<=B.rows.length) {q:Bool} {nm:Nat} {X:List (List AVal)} (e1:(B.pure&&aB)=q) (e2:n+m=nm) (e3:(B.rows.drop r).take n++bE m zrow=X):
 Good P Γ o ev get k ⟨.sl k 0 nm,k+1,[(k,aA ⟨s,q,X⟩)],[id]⟩:=by subst e1;subst e2;subst e3;exact aPG ho hz htn hx hB hBs hy hm hroom hby hlen0 hr
theorem setRows_get? {rows new:List (List AVal)}{r:Nat}(hr:r<=rows.length)(q:Nat):(gC rows new r)[q]? =if q<r then rows[q]? else if q<r+new.length then new[q-r]? else rows[q]? :=by
 unfold gC;rw[cM,dN,sU,Nat.min_eq_left hr];by_cases h1:q<r;.rw[iP h1,iP h1,fE,iP h1]
 rw[iN h1,iN h1,dN];by_cases h2:q<r+new.length;.rw[iP h2,iP oO]
 rw[iN h2,iN oO,dW];congr 1;omega
def vA{α:Type}(R:List α)(i:Nat)(row:α):List α:=R.take i++row::R.drop i
theorem insR_get? {α:Type}{R:List α}{i:Nat}{row:α}(h:i<=R.length)(q:Nat):(vA R i row)[q]? =if q<i then R[q]? else if q=i then aA row else R[q-1]? :=by
 unfold vA;rw[dN,sU,Nat.min_eq_left h];by_cases h1:q<i;.rw[iP h1,iP h1,fE,iP h1]
 rw[iN h1,iN h1];by_cases h2:q=i;.subst h2;simp
 rw[iN h2,List.getElem?_cons,iN oO,dW];congr 1;omega
theorem aUP{α:Type}{R:List α}{i:Nat}{row:α}(h:i<=R.length):(vA R i row).length=R.length+1:=by unfold vA;simp;omega
end
section
variable{P:Program}{Γ:dL}{o:Oper}{ev:Operand->Option AVal}{get:Nat->Option Blk}{k:Nat}
theorem JU{t ty e id r n c:Nat}{x y:Operand}{B:Blk}(ho:o.op= .binOp .eql t x y ty)(he:P.underlying t=aA (.slice e))(hx:ev x=aA (.slc id r n c))(hB:get id=aA B)(hy:ev y=aA (.lit (.slice aC 0 0))):
 Good P Γ o ev get k ⟨.lit (.bool aE),k,[],[id]⟩:=by refine⟨cF λ w G ρ H A a hr hrd hop=>⟨.bool aE,?_,.lit⟩,λ id' hid=>by simp at hid;rw[hid,hB];rfl,aF _⟩;obtain⟨B',A',h3,hH,_⟩:=hrd id sS;rw[hB]at h3;cases h3;have hvx:=hop x (by simp[ho,Op.operands]) _ hx;have hvy:=gO (hop y (by simp[ho,Op.operands]) _ hy);obtain⟨b,off,C,ty',hev,_⟩:=rX hr hH hvx;obtain⟨h1,_,h2,_⟩:=GE (P:=P) he ⟨b,off,aC⟩ n c 0 0 w;simp[execOp,ho,hev,hvy,h1,h2]
end
theorem JQ{kb k:Nat}{fr:Fr}{H:aO}(t:Nat){u v:AVal}(hf:look fr t=aA u)(hv:VLe u v):Mv kb k fr H k ((t,v)::del fr t) H:=aYP λ t' z hz=>by
 simp only[look]at hz;split at hz;.rename_i e;subst e;cases hz;exact⟨u,hf,hv⟩
 rw[gU]at hz;split at hz;.cases hz
 exact⟨z,hz,bJ _⟩
end Go.AM
end
