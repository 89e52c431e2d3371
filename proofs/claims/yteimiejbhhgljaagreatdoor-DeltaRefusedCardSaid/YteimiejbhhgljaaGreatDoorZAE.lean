import Derived.Test.YteimiejbhhgljaaGreatDoorZAD
set_option linter.unusedVariables false
set_option linter.defProp false
set_option linter.unusedSimpArgs false
set_option maxHeartbeats 0
set_option maxRecDepth 100000
open Go.AM.AVal renaming lit->aD
open Bool renaming and_eq_true->aO,and_true->iE,eq_iff_iff->eY,false->aF,false_eq_true->bP,not_eq_true'->dV,or_eq_false_iff->gA,or_eq_true->gQ,true->aB,true_and->lZ,true_or->BO
open Int renaming ediv_nonneg->a7U,emod_lt_of_pos->BL,emod_nonneg->a7T,fdiv_eq_ediv_of_nonneg->fG,le_refl->bY,tmod_eq_emod_of_nonneg->dU,toNat_natCast->bW
open Go.IntKind renaming i64->aH,u32->aT,u64->aI
open List renaming all_cons->gI,all_eq_true->aY,append_assoc->dA,getD->oZ,getD_eq_getElem?_getD->aU,getElem?_append->dQ,getElem?_drop->fJ,getElem?_eq_getElem->aN,getElem?_eq_some_iff->aL,getElem?_map->aV,getElem?_of_mem->pF,getElem?_set->dS,getElem?_set_self->cE,getElem?_take->fA,getElem_mem->zY,isEmpty_cons->aAE,length_append->bT,length_drop->aOA,length_map->dG,length_set->jF,length_take->uB,map->tB,map_append->aQ,map_congr_left->fR,map_cons->bN,map_map->kT,map_nil->bV,map_set->jO,map_toArray->uA,mem_cons->fO,mem_cons_of_mem->dZ,mem_map->dM,mem_of_getElem?->gL,mem_of_mem_take->bWG,mem_singleton->tA,range->aR,replicate->bI,take_append_of_le_length->bVH,take_of_length_le->gU
open Nat renaming add_assoc->gM,add_mul->cW,add_sub_cancel->a7O,add_sub_cancel_left->kJ,div_add_mod->FJ,le_refl->aJ,le_trans->pL,lt_trichotomy->kR,mul_comm->jN,mul_le_mul_right->bZ,mul_one->JK,not_lt_zero->bU,sub_self->TT,zero_le->bF
open Option renaming map_some->bO,none->aC,some->aA
open Or renaming inl->dE,inr->dP
open Go.Result renaming andThen_ok->bJ
open Go.Sem renaming run_bind->bS,run_pure->dO
open Go.Proofs.Tryz renaming prog->aG
open Go.Value renaming bool->bC,int->aE
section
namespace Go.Proofs.T
open Go Go.AM Go.Proofs
variable{a b w:Int}{L L':LSt}{R new z:List (List AVal)}{l:List Nat}{c g h i j m n r tk tk':Nat}{p:Nat->Bool}{s:Sp}{t:Tk}{H loc:aS}
variable{Γ:dW}
def ztk:List AVal:=[aD (aE aH 0),aD (aE aH 0),aD (aE aH 0),aD (aE aH 0),aD (aE aI 0),aD (bC aF),aD (aE aI 0),aD (aE aT 0)]
def tI{rows:List (List AVal)}(h:r+new.length<=rows.length):(gH rows new r).length=rows.length:=by unfold gH;simp only[bT,uB,aOA];omega
def HJ{rows:List (List AVal)}(h:r<=rows.length):(gH rows new r).take r=rows.take r:=by unfold gH;rw[dA,bVH sO,List.take_take,Nat.min_self]
def aIA(hn:R.length=n)(hi:i<n):
 (gH (gH R ((R.drop (i+1)).take (n-(i+1))) i) z (n-1)).take (n-1)=R.eraseIdx i:=by
 have e:(R.drop (i+1)).take (n-(i+1))=R.drop (i+1):=gU sO;have e2:(gH R (R.drop (i+1)) i).length=n:=by rw[tI sO,hn]
 rw[e,HJ oO,List.eraseIdx_eq_take_drop_succ];unfold gH;rw[bVH sO,gU sO]
def PC(t:Nat){id:Nat}{fr:Fr}{kb k:Nat}(hf:AM.look fr t=aA (.slc id r n c)):Mv kb k fr H k ((t,.sl id r n)::del fr t) H:=a1B λ t' v hv=>by
 simp only[AM.look]at hv;split at hv;.rename_i e;subst e;cases hv;exact⟨_,hf,VLe.slc _ _ _ _⟩
 rw[iK]at hv;split at hv;.cases hv
 exact⟨v,hv,bL _⟩
def a2R(R:List (List AVal))(n i tk k:Nat)(hn:R.length=n)(hi:i<n)(hn2:n<=100000)(hone:(R.all λ row=>row.all AM.one)=aB)(hk:tk<k):
 Tr aG Γ 168 k [.sl tk 0 n,i,((i:Int)+1:Int)] [(tk,⟨8,aB,R⟩)] (λ k1 r1 H1=>k1=k/\r1= .sl tk 0 (n-1)/\H1=[(tk,⟨8,aB,R.eraseIdx i⟩)]):=by
 have hone2:(((R.drop (i+1)).take (n-(i+1))).all λ row=>row.all AM.one)=aB:=by
  rw[aY]at hone⊢
  exact λ row h=>hone row (List.mem_of_mem_drop (bWG h))
 refine bR Tryz.func168 rfl 33 rfl bB (aNT 0 (by simp-dsimp-implicitDefEqProofs (disch:=omega)only[go_sem,iO,↓reduceIte];rfl) (by simp-dsimp-implicitDefEqProofs (disch:=omega)only[go_sem,iO,↓reduceIte];rfl) (λ h=>oO) (λ cap hc1 hc2=>?_));refine cZ ?_;have kp:=kN k [0,1,2,6,7,16];refine gO ?_;refine xJ [.raw (aA 12) ⟨aD (aE aH n),k,[],[tk]⟩,.raw (aA 13) ⟨.junk,k,[],[tk]⟩] ?_;refine kS (zs ?_) (zs ?_) (zs ?_);.exact ES rfl kRf rfl (fI)
 .exact aBE rfl (fI) kRf rfl ⟨_,_,rfl,rfl⟩ ⟨_,_,rfl,rfl⟩ ⟨_,_,rfl,rfl⟩ oO oO oO oO
 refine gJ λ ht=>?_;refine xJ [.raw (aA 19) ⟨aD (aE aH n),k,[],[tk]⟩] ?_;refine iA ?_ ?_;.exact ES rfl kRf rfl (fI)
 obtain⟨q,hq⟩:∃q,n=q+1:=⟨n-1,oO⟩;have hq2:n-1=q:=oO;rw[hq2];obtain⟨X,eX⟩:=xE (gH R ((R.drop (i+1)).take (n-(i+1))) i:List (List AVal));have hX1:X.length=n:=by rw[eX,tI sO,hn]
 have hX2:∀z,(gH X z q).take q=R.eraseIdx i:=λ z=>by rw[eX,<-hq2];exact aIA hn hi
 have hX3:(gH X [ztk] q).length=n:=by rw[tI sO,hX1]
 refine gO ?_;by_cases hlast:i+1=n
 .refine dlD [.raw (aA 22) ⟨.slc tk 0 i cap,k,[],[tk]⟩,.raw (aA 25) ⟨.slc tk (i+1) 0 (cap-(i+1)),k,[],[tk]⟩,.raw (aA 26) ⟨.slc tk 0 i cap,k,[],[tk,tk]⟩] ?_;refine FN (zs ?_) (zs ?_) (zs ?_) (zs ?_);.exact kP rfl (fI) kRf rfl rfl rfl oO oO oO oO oO oO
  .exact kP rfl (fI) kRf rfl rfl rfl oO oO oO oO oO oO
  .exact WJ rfl y7 rfl (fI) rfl (.sl (fI) (by show i+1+0<=R.length;omega))
  have hiq:i=q:=oO;have hXR:X=R:=by rw[eX,(oO:n-(i+1)=0),List.take_zero];unfold gH;simp
  have hX4:∀z,(gH X z q).take q=X.eraseIdx q:=λ z=>by rw[hX2,hXR,hiq]
  rw[<-hXR,hiq];refine gO ?_;refine xJ [.raw (aA 29) ⟨aD (aE aH (q:Int)),k,[],[tk]⟩,.raw (aA 31) ⟨.slc tk q 1 (cap-q),k,[],[tk]⟩,.raw aC ⟨.junk,k,[(tk,aA ⟨8,aB,gH X (bI 1 ztk) q⟩)],[tk]⟩] ?_;refine FN (zs ?_) (zs ?_) (zs ?_) (zs ?_);.exact ES rfl kRf rfl (fI)
  .exact kP rfl (fI) kRf rfl rfl rfl oO oO oO oO oO oO
  .exact DS (n:=1) rfl y7 rfl rfl (fI) rfl oO (by show q+1<=X.length;omega) rfl
  refine gO ?_;refine gW (a1C tk q (fI)) (gW (PC 6 rfl) (cZ ?_));rw[hX4];refine kX ?_;first|exact⟨rfl,rfl⟩|rfl
 obtain⟨cap2,hcap2⟩:=xE (cap-(i+1));obtain⟨n2,hn2'⟩:=xE (n-(i+1));rw[<-hn2']at eX hone2;have hX4:=hX2;refine dlD [.raw (aA 22) ⟨.slc tk 0 i cap,k,[],[tk]⟩,.raw (aA 25) ⟨.slc tk (i+1) n2 cap2,k,[],[tk]⟩,.raw (aA 26) ⟨.slc tk 0 q cap,k,[(tk,aA ⟨8,aB,X⟩)],[tk,tk]⟩] ?_;refine FN (zs ?_) (zs ?_) (zs ?_) (zs ?_);.exact kP rfl (fI) kRf rfl rfl rfl oO oO oO oO oO oO
 .exact kP rfl (fI) kRf rfl rfl rfl oO oO oO oO oO oO
 .rw[eX];exact jH rfl y7 rfl (fI) rfl rfl (.sl (fI) (by show i+1+n2<=R.length;omega)) hone2 oO oO (by show i<=R.length;omega) oO rfl
 refine gO ?_;refine xJ [.raw (aA 29) ⟨aD (aE aH (q:Int)),k,[],[tk]⟩,.raw (aA 31) ⟨.slc tk q 1 (cap-q),k,[],[tk]⟩,.raw aC ⟨.junk,k,[(tk,aA ⟨8,aB,gH X (bI 1 ztk) q⟩)],[tk]⟩] ?_;refine FN (zs ?_) (zs ?_) (zs ?_) (zs ?_);.exact ES rfl kRf rfl (fI)
 .exact kP rfl (fI) kRf rfl rfl rfl oO oO oO oO oO oO
 .exact DS (n:=1) rfl y7 rfl rfl (fI) rfl oO (by show q+1<=X.length;omega) rfl
 refine gO ?_;refine gW (a1C tk q (fI)) (gW (PC 6 rfl) (cZ ?_));rw[hX4];refine kX ?_;first|exact⟨rfl,rfl⟩|rfl
abbrev enc(v r w:Int):AVal:= .agg [aD (aE aI v),aD (aE aT r),aD (aE aT w)]
def DJ(a b:Int):Int:=if a<=b then 0 else a-b
def aEQ(a b:Int):Int:=if b<=18446744073709551615-a then a+b else 18446744073709551615
def xU(w:Int):Pure aG Γ 159 [w] (decide (1<=w/\w<=65536)):=by
 refine cA Tryz.func159 rfl 9 rfl bB rfl λ k=>?_;have kp:=kN k [0,2];refine wl ?_;refine WS (gZ λ hg=>?_) (gZ λ hg=>?_);all_goals(refine cB rfl ⟨_,rfl,bG ?_⟩)
 all_goals((simp only[aD.injEq,bC.injEq];exact bQ))
def LQ(w:Int):Pure aG Γ 158 [w] (decide (1<=w/\w<=65535)):=by
 refine cA Tryz.func158 rfl 9 rfl bB rfl λ k=>?_;have kp:=kN k [0,2];refine wl ?_;refine WS (gZ λ hg=>?_) (gZ λ hg=>?_);all_goals(refine cB rfl ⟨_,rfl,bG ?_⟩)
 all_goals((simp only[aD.injEq,bC.injEq];exact bQ))
def a5X(w:Int):Pure aG Γ 230 [w] (decide (0<=w/\w<=4294967295)):=by
 refine cA Tryz.func230 rfl 9 rfl bB rfl λ k=>?_;have kp:=kN k [0,2];refine wl ?_;refine WS (gZ λ hg=>?_) (gZ λ hg=>?_);all_goals(refine cB rfl ⟨_,rfl,bG ?_⟩)
 all_goals((simp only[aD.injEq,bC.injEq];exact bQ))
def a8J(a b:Int)(ha:0<=a)(ha2:a<=18446744073709551615)(hb:0<=b):Pure aG Γ 229 [aD (aE aI a),aD (aE aI b)] (aD (aE aI (DJ a b))):=by
 refine cA Tryz.func229 rfl 10 rfl bB rfl λ k=>?_;have kp:=kN k [0,1,4];refine jI ?_;refine cB rfl ⟨_,rfl,bG ?_⟩;unfold DJ;by_cases h:b<a;.rw[iP h,iN oO]
 rw[iN h,iP oO,Int.sub_self]
def bLO(a b:Int)(ha:0<=a)(ha2:a<=18446744073709551615)(hb:0<=b):Pure aG Γ 274 [aD (aE aI a),aD (aE aI b)] (aD (aE aI (aEQ a b))):=by
 refine cA Tryz.func274 rfl 11 rfl bB rfl λ k=>?_;have kp:=kN k [0,1,4];refine jI ?_;refine cB rfl ⟨_,rfl,bG ?_⟩;unfold aEQ;by_cases h:18446744073709551615-a<b;.rw[iP h,iN oO];congr 2;omega
 rw[iN h,iP oO]
def qZ(v r w:Int)(hw:0<=w)(hw2:w<4294967296):Pure aG Γ 134 [aD (aE aI v),aD (aE aT r),w] (enc v r w):=by refine cA Tryz.func134 rfl 12 rfl bB rfl λ k=>?_;have kp:=kN k [0,1,2,6];refine jI ?_;refine cR ?_;exact bL _
def aMZ{f:Int}(h1:1<=w)(h2:w<=65536):qI f 0 w=aB:=by simp[qI];omega
def bLN(f w:Int)(h1:1<=w)(h2:w<=65536):Pure aG Γ 162 [aD (aE aI f),w] (.tup [enc f 0 w,(0:Int)]):=by
 refine cA Tryz.func162 rfl 23 rfl bB rfl λ k=>?_;have e1:aT.wrap w=w:=wrap_u32 oO oO;have e2:aH.wrap w=w:=wrap_i64 oO oO;have kp:=kN k [0,1,4,5,6,20];have uU:=zA e1 e2;refine jI ?_;refine cl [.ret aB] ?_;refine kS (gZ λ hg=>?_) (gZ λ hg=>?_) (gZ λ hg=>?_);.rw[<-aMZ (f:=f) h1 h2];exact lW f 0 w oO oO
 all_goals(try(exact absurd trivial ‹¬True›))
 all_goals((refine sP λ ht=>?_))
 have uU:=zA e1 e2;refine cR ?_;exact bL _
def vP(v r floor credit:Int):Int×Int:=if v<DJ floor credit then(DJ floor credit,0)else(v,r)
def aUM(v r w f c:Int)(he:qI v r w=aB)(hf:0<=f)(hf2:f<=18446744073709551615)(hc:0<=c):Pure aG Γ 167 [enc v r w,aD (aE aI f),aD (aE aI c)] (.tup [enc (vP v r f c).1 (vP v r f c).2 w,(0:Int)]):=by
 have hE:=he;simp only[qI,dTt]at hE;obtain⟨z,ez⟩:=xE (DJ f c);refine cA Tryz.func167 rfl 25 rfl bB rfl λ k=>?_;have kp:=kN k [0,1,2,3,6,7,8,11,19];refine jI ?_;refine cl [.ret aB] ?_;refine iA ?_ ?_;.rw[<-he];exact lW v r w oO oO
 refine sP λ ht=>?_;refine cl [.ret (aD (aE aI z))] ?_;refine iA ?_ ?_;.rw[ez];exact a8J f c hf hf2 hc
 refine wl ?_;refine pN (λ ht=>?_) λ ht=>?_;.refine cR ?_;unfold vP;rw[<-ez,iP oO];exact bL _
 refine cR ?_;unfold vP;rw[<-ez,iN oO];exact bL _
def sE(v r a b:Int):Int×Int:=
 let x:=if a<=v then aEQ b (v-a)else DJ b (a-v)
 (x,if x=18446744073709551615 then 0 else r)
def aUR(v r w a b:Int)(he:qI v r w=aB)(hv:0<=v)(hv2:v<=18446744073709551615)(ha:0<=a)(ha2:a<=18446744073709551615)(hb:0<=b)(hb2:b<=18446744073709551615):
 Pure aG Γ 232 [enc v r w,aD (aE aI a),aD (aE aI b)] (.tup [enc (sE v r a b).1 (sE v r a b).2 w,(0:Int)]):=by
 have hE:=he;simp only[qI,dTt]at hE;refine cA Tryz.func232 rfl 35 rfl bB rfl λ k=>?_;have kp:=kN k [0,1,2,3,6,7,10,15,32];refine jI ?_;refine cl [.ret aB] ?_;refine iA ?_ ?_;.rw[<-he];exact lW v r w oO oO
 refine wl ?_;refine WS (gB λ ht ht=>?_) (gB λ ht ht=>?_)
 .obtain⟨z,ez⟩:=xE (aEQ b (v-a));have e1:aI.wrap (v-a)=v-a:=wrap_u64 oO oO;have uU:=e1;refine cl [.ret (aD (aE aI z))] ?_;refine iA ?_ ?_;.rw[ez];exact bLO b (v-a) hb hb2 oO
  refine wl ?_;refine pN (λ ht=>?_) λ ht=>?_;.have uU:=e1;refine cR ?_;unfold sE;simp only[];rw[iP oO,<-ez];first|(rw[iP (by assumption)];exact bL _)|(rw[iN (by assumption)];exact bL _)
  have uU:=e1;refine cR ?_;unfold sE;simp only[];rw[iP oO,<-ez];first|(rw[iP (by assumption)];exact bL _)|(rw[iN (by assumption)];exact bL _)
 obtain⟨z,ez⟩:=xE (DJ b (a-v));have e1:aI.wrap (a-v)=a-v:=wrap_u64 oO oO;have uU:=e1;refine cl [.ret (aD (aE aI z))] ?_;refine iA ?_ ?_;.rw[ez];exact a8J b (a-v) hb hb2 oO
 refine wl ?_;refine pN (λ ht=>?_) λ ht=>?_;.have uU:=e1;refine cR ?_;unfold sE;simp only[];rw[iN oO,<-ez];first|(rw[iP (by assumption)];exact bL _)|(rw[iN (by assumption)];exact bL _)
 have uU:=e1;refine cR ?_;unfold sE;simp only[];rw[iN oO,<-ez];first|(rw[iP (by assumption)];exact bL _)|(rw[iN (by assumption)];exact bL _)
def DZ(v r w t:Int):Int×Int:=if 18446744073709551615-v<=(t*1048576+r)/w then(18446744073709551615,0)else(v+(t*1048576+r)/w,(t*1048576+r)%w)
def bOK(v r w t:Int)(he:qI v r w=aB)(hv:0<=v)(hv2:v<=18446744073709551615)(hr:0<=r)(ht:0<=t)(ht2:t<=4294967295):Pure aG Γ 231 [enc v r w,t] (enc (DZ v r w t).1 (DZ v r w t).2 w):=by
 simp only[qI,dTt]at he;obtain⟨n,en⟩:=xE (t*1048576+r);have e1:aI.wrap t=t:=wrap_u64 oO oO;have e2:aI.wrap r=r:=wrap_u64 oO oO;have e3:aI.wrap w=w:=wrap_u64 oO oO;have e4:aI.wrap (t*1048576)=t*1048576:=wrap_u64 oO oO;have e5:aI.wrap (t*1048576+r)=n:=by rw[wrap_u64 oO oO,en]
 have hn:0<=n:=oO;have q0:0<=n/w:=a7U hn oO;have q1:n/w<=n:=Int.ediv_le_self _ hn;have r0:0<=n%w:=a7T _ oO;have r1:n%w<w:=BL _ oO;have e6:n.tdiv w=n/w:=Int.tdiv_eq_ediv_of_nonneg hn;have e7:n.tmod w=n%w:=dU hn;have e8:aI.wrap (n/w)=n/w:=wrap_u64 oO oO;have e9:aT.wrap (n%w)=n%w:=wrap_u32 oO oO;have e10:(w=0)=False:=eq_false oO;have e11:aI.wrap (18446744073709551615-v)=18446744073709551615-v:=wrap_u64 oO oO;refine cA Tryz.func231 rfl 42 rfl bB rfl λ k=>?_;have kp:=kN k [0,1,2,4,5,6,7,29];have uU:=fB e1 e2 e3 e4 e5 e6 e7 e8 (uT e9 e10 e11);refine wl ?_;refine pN (λ ht=>?_) λ ht=>?_;.have uU:=fB e1 e2 e3 e4 e5 e6 e7 e8 (uT e9 e10 e11);refine cR ?_;unfold DZ;rw[<-en,iP oO];exact bL _
 have uU:=fB e1 e2 e3 e4 e5 e6 e7 e8 (uT e9 e10 e11);refine cR ?_;unfold DZ;rw[<-en,iN oO];exact bL _
def WC(v r w t:Int)(he:qI v r w=aB)(hv:0<=v)(hv2:v<=18446744073709551615)(hr:0<=r)(h0:0<=t)(h02:t<=4294967295):Pure aG Γ 169 [enc v r w,t] (.tup [enc (DZ v r w t).1 (DZ v r w t).2 w,(0:Int)]):=by
 have hE:=he;simp only[qI,dTt]at hE;obtain⟨z,ez⟩:=xE (DZ v r w t);rw[<-ez];refine cA Tryz.func169 rfl 18 rfl bB rfl λ k=>?_;have kp:=kN k [0,1,2,4,5,13];refine jI ?_;refine cl [.ret aB,.ret aB] ?_;refine kS (zs ?_) (zs ?_) (zs ?_);.rw[<-he];exact lW v r w oO oO
 all_goals(try(exact absurd trivial ‹¬True›))
 .have h:=a5X (Γ:=Γ) t;rw[decide_eq_true oO]at h;exact h
 all_goals(try(exact absurd trivial ‹¬True›))
 refine sP λ ht=>?_;refine cl [.ret (enc z.1 z.2 w)] ?_;refine iA ?_ ?_;.rw[ez];exact bOK v r w t he hv hv2 hr h0 h02
 refine jI ?_;refine cR ?_;exact bL _
def ME(v r w x:Int)(he:qI v r w=aB)(h1:1<=x)(h2:x<=65536):Pure aG Γ 171 [enc v r w,x] (.tup [enc v 0 x,(0:Int)]):=by
 have hE:=he;simp only[qI,dTt]at hE;refine cA Tryz.func171 rfl 20 rfl bB rfl λ k=>?_;have kp:=kN k [0,1,2,4,5,13];refine jI ?_;refine cl [.ret aB,.ret aB] ?_;refine kS (zs ?_) (zs ?_) (zs ?_);.rw[<-he];exact lW v r w oO oO
 all_goals(try(exact absurd trivial ‹¬True›))
 .have h:=aSR (Γ:=Γ) x;rw[decide_eq_true oO]at h;exact h
 all_goals(try(exact absurd trivial ‹¬True›))
 refine sP λ ht=>?_;refine cR ?_;exact bL _
def rS(a b:Int):Int:=if a<b then-1 else if b<a then 1 else 0
def a8O(a:Int):Pure aG Γ 212 [a] aF:=by refine cA Tryz.func212 rfl 6 rfl bB rfl λ k=>?_;have kp:=kN k [0,2];refine jI ?_;refine cB rfl ⟨_,rfl,bG ?_⟩;simp
def a8N(a:Int):Pure aG Γ 254 [aD (aE aI a)] aF:=by refine cA Tryz.func254 rfl 6 rfl bB rfl λ k=>?_;have kp:=kN k [0,2];refine jI ?_;refine cB rfl ⟨_,rfl,bG ?_⟩;simp
def bIP(a b:Int):Pure aG Γ 138 [a,b] (rS a b):=by
 refine cA Tryz.func138 rfl 20 rfl bB rfl λ k=>?_;have kp:=kN k [0,1,4,5,6,11,12,13,16,19];refine jI ?_;refine cl [.ret aF] ?_;refine iA ?_ ?_;.exact a8O a
 refine jI ?_;refine cl [.ret aF] ?_;refine iA ?_ ?_;.exact a8O b
 refine wl ?_;refine kS (aAO λ ht ht ht=>?_) (aFG λ ht ht ht ht=>?_) (aFG λ ht ht ht ht=>?_);all_goals(refine cB rfl ⟨_,rfl,bG ?_⟩)
 all_goals(unfold rS)
 .rw[iP oO]
 .rw[iN oO,iP oO]
 rw[iN oO,iN oO]
def aYZ(a b:Int):Pure aG Γ 213 [aD (aE aI a),aD (aE aI b)] (rS a b):=by
 refine cA Tryz.func213 rfl 20 rfl bB rfl λ k=>?_;have kp:=kN k [0,1,4,5,6,11,12,13,16,19];refine jI ?_;refine cl [.ret aF] ?_;refine iA ?_ ?_;.exact a8N a
 refine jI ?_;refine cl [.ret aF] ?_;refine iA ?_ ?_;.exact a8N b
 refine wl ?_;refine kS (aAO λ ht ht ht=>?_) (aFG λ ht ht ht ht=>?_) (aFG λ ht ht ht ht=>?_);all_goals(refine cB rfl ⟨_,rfl,bG ?_⟩)
 all_goals(unfold rS)
 .rw[iP oO]
 .rw[iN oO,iP oO]
 rw[iN oO,iN oO]
def aMS(x:Tk)(b:Int):Pure aG Γ 137 [.agg (tkc x),b] (rS x.id b):=by
 refine cA Tryz.func137 rfl 9 rfl bB rfl λ k=>?_;have kp:=kN k [0,1,2,4];refine jI ?_;refine cl [.ret (rS x.id b)] ?_;refine iA ?_ ?_;.exact bIP _ _
 refine jI ?_;refine cB rfl ⟨_,rfl,bG ?_⟩;rfl
def TK(a0 a1 a2 b0 b1 b2:Int):Int:=if rS a0 b0≠0 then rS a0 b0 else if rS a1 b1≠0 then rS a1 b1 else rS a2 b2
def MU(a b c:Int):Blk:=⟨1,aB,[[aD (aE aI a)],[aD (aE aI b)],[aD (aE aI c)]]⟩
attribute [go_sem] MU
def aTX(k x y:Nat)(a0 a1 a2 b0 b1 b2:Int)(hx:x<k)(hy:y<k)(hne:x≠y):
 Tr aG Γ 140 k [.sl x 0 3,.sl y 0 3] [(x,MU a0 a1 a2),(y,MU b0 b1 b2)] (λ k1 r1 H1=>k1=k/\r1=aD (aE aH (TK a0 a1 a2 b0 b1 b2))/\H1=[(x,MU a0 a1 a2),(y,MU b0 b1 b2)]):=by
 have key:∀i,i<3->(i=0\/i=1\/i=2):=λ i h=>oO;refine bR Tryz.func140 rfl 36 rfl bB ?_;have kp:=kN k [0,1,4,5,6,7,8,9,10,11,12,19,28,35];refine gO ?_;refine cD (X:=Nat) rfl [0,1,4,5,6,7,8,9,10,11,12,19,28,35] k (λ i=>[(11,i)]) (λ i=>[(x,MU a0 a1 a2),(y,MU b0 b1 b2)]) (λ i=>i<=3/\(0<i->rS a0 b0=0)/\(1<i->rS a1 b1=0)/\(2<i->rS a2 b2=0)) (λ i=>3-i) 0 ?_ ⟨oO,oO,oO,oO⟩ ?_;.refine cZ ?_;exact iC
 rintro i ⟨hi,h0,h1,h2⟩;have hc:i=0\/i=1\/i=2\/i=3:=oO;rcases hc with rfl|rfl|rfl|rfl
 .refine cZ ?_;refine vI ?_;refine kB (gB λ ht ht=>xJ [.ret (rS a0 b0)] ?_);refine iA ?_ ?_;.exact aYZ _ _
  refine vI ?_;refine pN (λ ht=>?_) λ ht=>?_;.refine kX ?_;unfold TK;rw[iP (by assumption)]
  refine⟨1,⟨oO,λ _=>oO,oO,oO⟩,oO,cZ ?_⟩;exact iC
 .refine cZ ?_;refine vI ?_;refine kB (gB λ ht ht=>xJ [.ret (rS a1 b1)] ?_);refine iA ?_ ?_;.exact aYZ _ _
  refine vI ?_;refine pN (λ ht=>?_) λ ht=>?_;.refine kX ?_;unfold TK;rw[iN (by have:=h0 oO;omega),iP (by assumption)]
  refine⟨2,⟨oO,λ _=>h0 oO,λ _=>oO,oO⟩,oO,cZ ?_⟩;exact iC
 .refine cZ ?_;refine vI ?_;refine kB (gB λ ht ht=>xJ [.ret (rS a2 b2)] ?_);refine iA ?_ ?_;.exact aYZ _ _
  refine vI ?_;refine pN (λ ht=>?_) λ ht=>?_;.refine kX ?_;unfold TK;rw[iN (by have:=h0 oO;omega),iN (by have:=h1 oO;omega)]
  refine⟨3,⟨oO,λ _=>h0 oO,λ _=>h1 oO,λ _=>oO⟩,oO,cZ ?_⟩;exact iC
 refine cZ ?_;refine vI ?_;refine kB (gB λ ht ht=>kX ?_);unfold TK;rw[iN (by have:=h0 oO;omega),iN (by have:=h1 oO;omega),h2 oO]
structure Mb where
 v:Int
 b:Int
 x:Int
variable{y:Mb}{F:Nat->Option Mb}{o:Option Mb}
def aQA(a b:Mb):Bool:=decide (a.v<b.v\/(a.v=b.v/\(a.b<b.b\/(a.b=b.b/\a.x<b.x))))
def GZ(o:Option Mb)(x:Mb):Option Mb:=
 match o with
 |none=>aA x
 |some b=>if aQA x b=aB then aA x else aA b
def bst(o:Option Mb):Blk:=
 match o with
 |none=>MU 18446744073709551615 18446744073709551615 18446744073709551615
 |some x=>MU x.v x.b x.x
def smb(o:Option Mb):Blk:=⟨1,aB,[[aD (bC o.isSome)]]⟩
def aZN(o:Option Mb):(bst o).pure=aB:=by cases o<;>rfl
def aTM(o:Option Mb):(smb o).pure=aB:=rfl
attribute [go_sem] aZN aTM
def cmp3_lt{a0 a1 a2 b0 b1 b2:Int}:TK a0 a1 a2 b0 b1 b2<0↔(a0<b0\/(a0=b0/\(a1<b1\/(a1=b1/\a2<b2)))):=by
 unfold TK rS;repeat' split
 all_goals omega
def YA(k p q:Nat)(o:Option Mb)(x:Mb)(hp:p<k)(hq:q<k)(hne:p≠q)(hv:x.v<=18446744073709551615)(hb:x.b<=1):
 Tr aG Γ 139 k [.agg [aD (aE aI x.v),aD (aE aI x.b),aD (aE aI x.x)],.ptr q 0 0,.ptr p 0 0] [(p,bst o),(q,smb o)] (λ k1 r1 H1=>k1=k+1/\r1= .tup []/\H1=[(p,bst (GZ o x)),(q,smb (GZ o x))]):=by
 have hm:x.v<18446744073709551615\/(x.v=18446744073709551615/\(x.b<18446744073709551615\/(x.b=18446744073709551615/\x.x<18446744073709551615))):=oO
 obtain⟨b0,b1,b2,hbo,hlt⟩:∃b0 b1 b2,bst o=MU b0 b1 b2/\(TK x.v x.b x.x b0 b1 b2<0->GZ o x=aA x)/\(¬TK x.v x.b x.x b0 b1 b2<0->bst (GZ o x)=MU b0 b1 b2):=by
  cases o with
  |none=>exact⟨18446744073709551615,18446744073709551615,18446744073709551615,rfl,λ _=>rfl,λ h=>absurd (cmp3_lt.2 hm) h⟩
  |some b=>
   refine⟨_,_,_,rfl,?_,λ h=>?_⟩;.intro h;rw[cmp3_lt]at h;simp only[GZ];rw[iP (by simp only[aQA,dTt];exact h)]
   rw[cmp3_lt]at h;simp only[GZ];rw[iN (by simp only[aQA,dTt];exact h)];rfl
 obtain⟨hlt1,hlt2⟩:=hlt
 have hsome:(GZ o x).isSome=aB:=by
  cases o with
  |none=>rfl
  |some b=>simp only[GZ];split<;>rfl
 have hsm:smb o=⟨1,aB,[[o.isSome]]⟩:=rfl;have hsm':smb (GZ o x)=⟨1,aB,[[aB]]⟩:=by unfold smb;rw[hsome]
 rw[hbo,hsm,hsm'];refine bR Tryz.func139 rfl 9 rfl bB (pW ?_);have kp:=kN k [0,1,2,3,7];refine gO ?_;refine dlD [.gen (aD (aE aH (TK x.v x.b x.x b0 b1 b2))) (k+1) [(k,MU x.v x.b x.x),(p,MU b0 b1 b2)] [(k,MU x.v x.b x.x),(p,MU b0 b1 b2)]] ?_;refine iA ?_ ?_;.exact aTX (k+1) k p x.v x.b x.x b0 b1 b2 oO oO oO
 refine vI ?_;refine pN (λ ht=>?_) λ ht=>?_
 .have e:bst (GZ o x)=MU x.v x.b x.x:=by rw[hlt1 oO];rfl
  refine⟨k+1,[],[(p,bst (GZ o x)),(q,⟨1,aB,[[aB]]⟩)],?_,_,rfl,rfl,rfl,rfl⟩;rw[e];exact iC
 have e:bst (GZ o x)=MU b0 b1 b2:=hlt2 oO;refine⟨k+1,[],[(p,bst (GZ o x)),(q,⟨1,aB,[[aB]]⟩)],?_,_,rfl,rfl,rfl,rfl⟩;rw[e];exact iC
def mQ(h:∀i,(i=m\/i=m+1\/i=m+2\/i=m+3\/i=m+5\/i=tk\/i=tk'\/(m+6<=i/\i<m+6+L.sl.length))->AM.look loc i=aC)(hs:L'.sl.length=L.sl.length):rO loc (MH m tk L) (MH m tk' L'):=λ i hi=>by
 refine h i ?_;rcases hi with hi|hi;.have:=oT hi;omega
 have:=oT hi;rw[hs]at this;omega
def hY(hs:L'.sl.length=L.sl.length)(h:∀i,(i=m\/i=m+1\/i=m+2\/i=m+3\/i=m+5\/i=tk\/i=tk'\/(m+6<=i/\i<m+6+L.sl.length))->AM.look loc i=aC:=by intro i hi;simp only[AM.look];repeat(rw[iN oO])):rO loc (MH m tk L) (MH m tk' L'):=mQ h hs
def tmb(t:Tk):Mb:=⟨t.v,0,t.id⟩
def vT(L:LSt)(g c:Int)(i:Nat):Bool:=(L.tsk i).ready&&(decide ((L.tsk i).group=g)&&decide ((L.tsk i).cpu=c))
def lT(L:LSt)(g c:Int):Nat->Option Mb
 |0=>aC
 |i+1=>if vT L g c i=aB then GZ (lT L g c i) (tmb (L.tsk i))else lT L g c i
def lS(L:LSt)(F:Nat->Option Mb)(g c:Nat):Nat->Option Mb
 |0=>lT L g c L.tl.length
 |j+1=>if L.par (g+1+j)=g/\(F (g+1+j)).isSome=aB then GZ (lS L F g c j) ⟨(L.sp (g+1+j) c).v,1,((g+1+j:Nat):Int)⟩else lS L F g c j
def iU(L:LSt):Nat->Nat->Nat->Option Mb
 |0,_,_=>aC
 |f+1,g,c=>lS L (λ h=>iU L f h c) g c (L.sl.length-(g+1))
def mbc:Option Mb->List AVal
 |none=>[.lit (.int .u64 18446744073709551615),.lit (.int .u64 18446744073709551615),.lit (.int .u64 18446744073709551615)]
 |some x=>[.lit (.int .u64 x.v),.lit (.int .u64 x.b),.lit (.int .u64 x.x)]
def resL(o:Option Mb):AVal:= .tup [.agg (mbc o),aD (bC o.isSome)]
structure Shp (L:LSt) (n:Nat):Prop where
 ng:L.gl.length=L.sl.length
 rows:∀g,g<L.sl.length->(L.sl.getD g []).length=n
 nt:L.tl.length<=100000
 ns:L.sl.length<=1000
 tid:∀i,i<L.tl.length->0<=(L.tsk i).id/\(L.tsk i).id<=65535/\(L.tsk i).v<=18446744073709551615
 spv:∀g c,g<L.sl.length->c<n->(L.sp g c).v<=18446744073709551615
def aNM(o:Option Mb):bst o=MU (o.elim 18446744073709551615 (·.v)) (o.elim 18446744073709551615 (·.b)) (o.elim 18446744073709551615 (·.x)):=by cases o<;>rfl
def NL(o:Option Mb):mbc o=[.lit (.int .u64 (o.elim 18446744073709551615 (·.v))),.lit (.int .u64 (o.elim 18446744073709551615 (·.b))),.lit (.int .u64 (o.elim 18446744073709551615 (·.x)))]:=by cases o<;>rfl
def aLZ(hh:g+1<=h)(h1:L.par h=g)(h2:(F h).isSome=aB):lS L F g c (h+1-(g+1))=GZ (lS L F g c (h-(g+1))) ⟨(L.sp h c).v,1,(h:Int)⟩:=by have e:h+1-(g+1)=(h-(g+1))+1:=oO;have e2:g+1+(h-(g+1))=h:=oO;rw[e,lS,e2,iP ⟨h1,h2⟩]
def NO(hh:g+1<=h)(h1:¬(L.par h=g/\(F h).isSome=aB)):lS L F g c (h+1-(g+1))=lS L F g c (h-(g+1)):=by have e:h+1-(g+1)=(h-(g+1))+1:=oO;have e2:g+1+(h-(g+1))=h:=oO;rw[e,lS,e2,iN h1]
def aLW{g c:Int}(h:vT L g c i=aB):lT L g c (i+1)=GZ (lT L g c i) (tmb (L.tsk i)):=by rw[lT,iP h]
def aLX{g c:Int}(h:¬vT L g c i=aB):lT L g c (i+1)=lT L g c i:=by rw[lT,iN h]
def takes_iff{g c:Int}:vT L g c i=aB↔(L.tsk i).ready=aB/\(L.tsk i).group=g/\(L.tsk i).cpu=c:=by simp[vT]
def aKN(o:Option Mb):bd p (resL o)=aB:=by cases o<;>rfl
def bFV(L:LSt)(n c:Nat)(hS:Shp L n)(hc:c<n)(m tk:Nat)(hm:m+6+L.sl.length<=tk):∀(f g:Nat),g<L.sl.length->L.sl.length-g<=f->∀k,tk<k→
 Tr aG Γ 77 k [.ptr m 0 0,g,c] (MH m tk L) (λ k1 r1 H1=>k1=k/\r1=resL (iU L f g c)/\H1=MH m tk L):=by
 obtain⟨hng,hrw,hnt,hns,htid,hspv⟩:=id hS;intro f
 induction f with
 |zero=>intro g hgS hf;omega
 |succ f ih=>
 intro g hgS hf k hk;obtain⟨RH,eRH⟩:=xE (MH m tk L);obtain⟨RV,eRV⟩:=xE (resL (iU L (f+1) g c));refine Tr.mono (mO (k:=k) (V:=RV) (RH:=RH) oO (by rw[eRV];exact aKN _) (by rw[eRH];exact fX oO oO) ?_) (λ _ _ _ h=>⟨h.1,h.2.1.trans eRV,h.2.2.trans eRH⟩);refine bR Tryz.func77 rfl 102 rfl bB ?_;simp only[MH,LH];have kp:=kN k [0,1,2,6,7,8,9,10,12,13,15,22,23,24,25,41,60,74,82];refine gO ?_;refine cD (X:=Nat) rfl [0,1,2,6,7,8,9,10,12,13,15,22,23,24,25,41,60,74,82] (k+3) (λ i=>[(24,i)]) (λ i=>(k+2,smb (lT L g c i))::(k+1,bst (lT L g c i))::(k,MU 0 0 0)::MH m tk L) (λ i=>i<=L.tl.length) (λ i=>L.tl.length-i) 0 ?_ (bF _) ?_;.simp only[MH,LH];rw[show lT L g c 0=aC from rfl];have uU:=zA @bst.eq_1 @smb.eq_1;refine cZ ?_;exact iC
 intro i hi;simp only[MH,LH];refine cZ ?_;have e1:i<L.tl.length->aI.wrap (L.tsk i).id=(L.tsk i).id:=λ h=>by have:=htid i h;exact wrap_u64 oO oO
 refine vI ?_;refine zq5 (aOC λ ht ht hg hg=>?_) (aOC λ ht ht hg hg=>?_) (aOC λ ht ht hg hg=>?_) (qS λ ht ht hg=>?_) (rX λ ht=>?_)
 .have e1':=e1 oO;have hx:=htid i oO;have uU:=e1';refine xJ [.gen (.tup []) (k+5) [(k+1,bst (lT L g c i)),(k+2,smb (lT L g c i))] [(k+1,bst (GZ (lT L g c i) (tmb (L.tsk i)))),(k+2,smb (GZ (lT L g c i) (tmb (L.tsk i))))]] ?_;refine iA ?_ ?_;.exact YA (k+4) (k+1) (k+2) (lT L g c i) (tmb (L.tsk i)) oO oO oO hx.2.2 (by show(0:Int)<=1;omega)
  have uU:=Go.AM.uU;refine gO ?_;refine⟨i+1,oO,oO,?_⟩;rw[aLW (takes_iff.2 ⟨by assumption,by assumption,by assumption⟩)];refine cZ ?_;exact iC
 iterate 3
  · refine⟨i+1,oO,oO,?_⟩
    rw[aLX (by rw[takes_iff];rintro⟨a1,a2,a3⟩;first|omega|(simp_all;done))]
    refine cZ ?_
    exact iC
 have hi':i=L.tl.length:=oO;subst hi';clear hi e1;refine cD (X:=Nat) rfl [0,1,2,6,7,8,9,10,12,13,15,22,23,24,25,41,60,74,82] (k+3) (λ h=>[(13,h)]) (λ h=>(k+2,smb (lS L (λ h=>iU L f h c) g c (h-(g+1))))::(k+1,bst (lS L (λ h=>iU L f h c) g c (h-(g+1))))::(k,MU 0 0 0)::MH m tk L) (λ h=>g+1<=h/\h<=L.sl.length) (λ h=>L.sl.length-h) (g+1) ?_ ⟨aJ _,hgS⟩ ?_;.simp only[MH,LH];rw[TT,lS];refine cZ ?_;exact iC
 rintro h ⟨h1,h2⟩;obtain⟨o,eo⟩:=xE (lS L (λ h=>iU L f h c) g c (h-(g+1)));rw[<-eo];simp only[MH,LH];refine cZ ?_;refine vI ?_;refine kS (gB λ ht ht=>?_) (gB λ ht ht=>?_) (rX λ ht=>?_);.refine⟨h+1,⟨oO,oO⟩,oO,?_⟩;rw[NO h1 (by rintro⟨a1,_⟩;omega),<-eo];refine cZ ?_;exact iC
 .have hr:=hrw h oO;have e2:aI.wrap (h:Int)=(h:Int):=wrap_u64 oO oO;obtain⟨q,eq⟩:=xE (iU L f h c);obtain⟨q0,q1,q2,hq⟩:∃q0 q1 q2,mbc q=[.lit (.int .u64 q0),.lit (.int .u64 q1),.lit (.int .u64 q2)]:=⟨_,_,_,NL q⟩;have uU:=zA @resL.eq_1 hq;refine xJ [.far (resL q) (k+3) [(k+2,smb o),(k+1,bst o),(k,MU 0 0 0)] (MH m tk L) (MH m tk L)] ?_;refine FN (zs ?_) (zs ?_) (zs ?_) (zs ?_);.exact λ _=>rfl
  .exact hY rfl
  .have:=ih h oO oO (k+3) oO;rw[<-eq]at this;unfold resL at this;rw[hq]at this;exact this
  simp only[MH,LH];have uU:=Go.AM.uU;refine cZ ?_;have uU:=zA e2 hr;refine vI ?_;refine pN (λ ht=>?_) λ ht=>?_
  .refine xJ [.gen (.tup []) (k+5) [(k+1,bst o),(k+2,smb o)] [(k+1,bst (GZ o ⟨(L.sp h c).v,1,(h:Int)⟩)),(k+2,smb (GZ o ⟨(L.sp h c).v,1,(h:Int)⟩))]] ?_;refine iA ?_ ?_;.exact YA (k+4) (k+1) (k+2) o ⟨(L.sp h c).v,1,(h:Int)⟩ oO oO oO (hspv h c oO hc) (bY _)
   have uU:=Go.AM.uU;refine gO ?_;refine⟨h+1,⟨oO,oO⟩,oO,?_⟩;rw[aLZ h1 oO (by rw[<-eq];assumption),<-eo];refine cZ ?_;exact iC
  refine⟨h+1,⟨oO,oO⟩,oO,?_⟩;rw[NO h1 (by rw[<-eq];rintro⟨_,a1⟩;simp_all),<-eo];have uU:=Go.AM.uU;refine cZ ?_;exact iC
 have hh:h=L.sl.length:=oO;have eo':o=iU L (f+1) g c:=by rw[eo,hh];rfl
 rw[<-eo']at eRV;clear eo eo';obtain⟨q0,q1,q2,hq,hq'⟩:∃q0 q1 q2,bst o=MU q0 q1 q2/\mbc o=[.lit (.int .u64 q0),.lit (.int .u64 q1),.lit (.int .u64 q2)]:=⟨_,_,_,aNM o,NL o⟩;rw[hq];have uU:= @smb.eq_1;refine RE [] ?_;have uU:= @smb.eq_1;refine kX ?_;refine⟨?_,?_⟩;.rw[eRV,resL,hq']
 rw[eRH];simp only[MH,LH];exact SX iV
def cpu(L:LSt)(c:Int)(m tk k:Nat)(hm:m+6+L.sl.length<=tk)(hk:tk<k):
 Tr aG Γ 157 k [.ptr m 0 0,c] (MH m tk L) (λ k1 r1 H1=>k1=k/\r1=aD (bC (decide (0<=c/\c<L.cpus)))/\H1=MH m tk L):=by
 obtain⟨RH,eRH⟩:=xE (MH m tk L:aS);obtain⟨RV,eRV⟩:=xE (.lit (.bool (decide (0<=c/\c<L.cpus))):AVal);refine uG (k:=k) eRV eRH rfl (fX oO oO) (bR Tryz.func157 rfl 17 rfl bB ?_);simp only[MH,LH];have kp:=kN k [0,1,4];refine vI ?_;refine WS (gZ λ hg=>?_) (gZ λ hg=>?_)
 .refine kX ?_;refine⟨?_,?_⟩;.rw[eRV];simp;omega
  rw[eRH];simp only[MH,LH];exact SX iV
 refine kX ?_;refine⟨?_,?_⟩;.rw[eRV];simp;omega
 rw[eRH];simp only[MH,LH];exact SX iV
def BJ(L:LSt):Prop:=∀i j,i<j->j<L.tl.length->(L.tsk i).id<(L.tsk j).id
def GV(L:LSt)(id r:Int):Prop:=(r= -1/\∀i,i<L.tl.length->(L.tsk i).id≠id)\/∃i:Nat,i<L.tl.length/\r=(i:Int)/\(L.tsk i).id=id
def aMR(L:LSt)(id:Int):∃r,GV L id r:=by
 by_cases h:∃i,i<L.tl.length/\(L.tsk i).id=id;.obtain⟨i,h1,h2⟩:=h;exact⟨i,dP ⟨i,h1,rfl,h2⟩⟩
 exact⟨-1,dE ⟨rfl,λ i h1 h2=>h ⟨i,h1,h2⟩⟩⟩
def a0Z(L:LSt)(id:Int)(p:Nat):Prop:=p<=L.tl.length/\(∀q,q<p->(L.tsk q).id<id)/\∀q,p<=q->q<L.tl.length->id<=(L.tsk q).id
def cmpZ_neg:rS a b<0↔a<b:=by unfold rS;split<;>(try split)<;>omega
def WA:rS a b=0↔a=b:=by unfold rS;split<;>(try split)<;>omega
def a6O(L:LSt)(id:Int)(p:Nat)(hp:a0Z L id p)(hso:BJ L)(hnt:L.tl.length<=100000)(tk k:Nat)(hk:tk<k):
 Tr aG Γ 136 k [.sl tk 0 L.tl.length,id,.fn 137 []] [(tk,⟨8,aB,pB L⟩)]
  (λ k1 r1 H1=>k1=k/\r1= .tup [p,(decide (p<L.tl.length/\(L.tsk p).id=id))]/\H1=[(tk,⟨8,aB,pB L⟩)]):=by
 refine bR Tryz.func136 rfl 49 rfl bB ?_;have kp:=kN k [0,1,2,6,7,8,9,10,11,17,31];refine gO ?_;refine cD (X:=Nat×Nat) rfl [0,1,2,6,7,8,9,10,11,17,31] k (λ x=>[(9,x.1),(10,x.2)]) (λ x=>[(tk,⟨8,aB,pB L⟩)]) (λ x=>x.1<=x.2/\x.2<=L.tl.length/\x.1<=p/\p<=x.2) (λ x=>x.2-x.1) (0,L.tl.length) ?_ ⟨bF _,aJ _,bF _,hp.1⟩ ?_;.refine cZ ?_;exact iC
 rintro⟨i,j⟩ ⟨h1,h2,h3,h4⟩;simp only[]at h1 h2 h3 h4;have e1:aI.wrap ((i:Int)+(j:Int))=(i:Int)+(j:Int):=wrap_u64 oO oO;have e2:((i:Int)+(j:Int)).fdiv (2^min 1 64)=(((i+j)/2:Nat):Int):=by rw[show(2:Int)^min 1 64=2 from rfl,fG _ oO];omega
 obtain⟨h,eh⟩:=xE ((i+j)/2);rw[<-eh]at e2;have e3:aH.wrap (h:Int)=(h:Int):=wrap_i64 oO oO;refine cZ ?_;have uU:=uT e1 e2 e3;refine vI ?_;refine pN (λ ht=>?_) λ ht=>?_
 .refine xJ [.ret (rS (L.tsk h).id id)] ?_;refine iA ?_ ?_;.exact aMS (L.tsk h) id
  refine vI ?_;refine pN (λ ht=>?_) λ ht=>?_
  .have hc:=cmpZ_neg.1 ht;have:h<p:=Nat.lt_of_not_le λ e=>by have:=hp.2.2 h e oO;omega
   refine⟨(h+1,j),⟨by show h+1<=j;omega,h2,by show h+1<=p;omega,h4⟩,by show j-(h+1)<j-i;omega,?_⟩;refine cZ ?_;exact iC
  have hc:¬(L.tsk h).id<id:=λ e=>by have:=cmpZ_neg.2 e;omega
  have:p<=h:=Nat.le_of_not_lt λ e=>hc (hp.2.1 h e);refine⟨(i,h),⟨by show i<=h;omega,by show h<=L.tl.length;omega,h3,this⟩,by show h-i<j-i;omega,?_⟩;refine cZ ?_;exact iC
 have hi:i=p:=oO;subst hi;refine xJ [.ret (rS (L.tsk i).id id)] ?_;refine kS (gZ λ hg=>?_) (gZ λ hg=>?_) (gZ λ hg=>?_);.exact aMS (L.tsk i) id
 .have uU:=uT e1 e2 e3;refine kX ?_
  rw[show(rS (L.tsk i).id id==0)=decide (i<L.tl.length/\(L.tsk i).id=id)by
   rw[eY,beq_iff_eq,dTt,WA];constructor;.intro h;exact⟨oO,h⟩
   exact λ h=>h.2]
 have uU:=uT e1 e2 e3;refine kX ?_;rw[decide_eq_false (by rintro⟨h,_⟩;omega)]
def aFY(L:LSt)(hso:BJ L)(id:Int):∃p,a0Z L id p:=by
 suffices h:∀n,n<=L.tl.length->∃p,p<=n/\(∀q,q<p->(L.tsk q).id<id)/\∀q,p<=q->q<n->id<=(L.tsk q).id by obtain⟨p,h1,h2,h3⟩:=h L.tl.length (aJ _);exact⟨p,h1,h2,h3⟩
 intro n
 induction n with
 |zero=>intro _;exact⟨0,aJ _,λ q hq=>absurd hq (bU _),λ q _ hq=>absurd hq (bU _)⟩
 |succ n ih=>
  intro hn;obtain⟨p,h1,h2,h3⟩:=ih oO;by_cases hc:(L.tsk n).id<id
  .refine⟨n+1,aJ _,λ q hq=>?_,λ q h4 h5=>oO⟩;by_cases he:q=n;.rw[he];exact hc
   have:=hso q n oO oO;omega
  refine⟨p,oO,h2,λ q h4 h5=>?_⟩;by_cases he:q=n;.rw[he];omega
  exact h3 q h4 oO
def find(L:LSt)(id r:Int)(hr:GV L id r)(hso:BJ L)(hnt:L.tl.length<=100000)(m tk k:Nat)(hm:m+6+L.sl.length<=tk)(hk:tk<k):
 Tr aG Γ 76 k [.ptr m 0 0,id] (MH m tk L) (λ k1 r1 H1=>k1=k/\r1=aD (aE aH r)/\H1=MH m tk L):=by
 obtain⟨p,hp⟩:=aFY L hso id
 have hrp:r=if p<L.tl.length/\(L.tsk p).id=id then(p:Int)else-1:=by
  rcases hr with⟨rfl,h⟩|⟨i,h1,rfl,h2⟩;.rw[iN (λ e=>h p e.1 e.2)]
  have:p=i:=by
   rcases kR p i with hc|hc|hc;.have:=hp.2.2 p (aJ _) oO;have:=hso p i hc h1;omega
   .exact hc
   have:=hp.2.1 i hc;omega
  subst this;rw[iP ⟨h1,h2⟩]
 obtain⟨RH,eRH⟩:=xE (MH m tk L:aS);obtain⟨RV,eRV⟩:=xE (.lit (.int .i64 r):AVal);refine uG (k:=k) eRV eRH rfl (fX oO oO) (bR Tryz.func76 rfl 20 rfl bB ?_);simp only[MH,LH];have kp:=kN k [0,1,4,5,6,18];refine gO ?_;refine xJ [.gen (.tup [p,(decide (p<L.tl.length/\(L.tsk p).id=id))]) k [(tk,⟨8,aB,pB L⟩)] [(tk,⟨8,aB,pB L⟩)]] ?_;refine iA ?_ ?_;.exact a6O L id p hp hso hnt tk k hk
 refine vI ?_;refine pN (λ ht=>?_) λ ht=>?_
 .refine kX ?_;refine⟨?_,?_⟩;.rw[eRV,hrp,iN oO]
  rw[eRH];simp only[MH,LH];exact SX iV
 refine kX ?_;refine⟨?_,?_⟩;.rw[eRV,hrp,iP oO]
 rw[eRH];simp only[MH,LH];exact SX iV
def aNP{x:Mb}(h:GZ o x=aA y):y=x\/o=aA y:=by
 cases o with
 |none=>exact .inl (by simp only[GZ,aA.injEq]at h;exact h.symm)
 |some b=>
  simp only[GZ]at h;split at h;.exact dE (by simpa using h.symm)
  exact dP h
def aGZ{L:LSt}{g c:Int}{y:Mb}:∀ {i:Nat},lT L g c i=aA y->∃j,j<i/\vT L g c j=aB/\y=tmb (L.tsk j)
 |0,h=>by cases h
 |i+1,h=>by
  rw[lT]at h;split at h
  .rcases aNP h with h1|h1;.exact⟨i,oO,by assumption,h1⟩
   obtain⟨j,h2,h3⟩:=aGZ h1;exact⟨j,oO,h3⟩
  obtain⟨j,h2,h3⟩:=aGZ h;exact⟨j,oO,h3⟩
def aHA{L:LSt}{F:Nat->Option Mb}{g c:Nat}{y:Mb}:∀ {i:Nat},lS L F g c i=aA y->(∃j,j<L.tl.length/\vT L g c j=aB/\y=tmb (L.tsk j))\/∃h,g<h/\h<g+1+i/\L.par h=g/\(F h).isSome=aB/\y=⟨(L.sp h c).v,1,(h:Int)⟩
 |0,h=> .inl (aGZ h)
 |i+1,h=>by
  rw[lS]at h;split at h
  .rcases aNP h with h1|h1;.rename_i hh;exact dP ⟨g+1+i,oO,oO,hh.1,hh.2,h1⟩
   rcases aHA h1 with h2|⟨j,h2,h3,h4⟩;.exact dE h2
   exact dP ⟨j,h2,oO,h4⟩
  rcases aHA h with h2|⟨j,h2,h3,h4⟩;.exact dE h2
  exact dP ⟨j,h2,oO,h4⟩
def aCR{L:LSt}{F G:Nat->Option Mb}{g c:Nat}:∀ {i:Nat},(∀h,g<h->h<g+1+i->F h=G h)->lS L F g c i=lS L G g c i
 |0,_=>rfl
 |i+1,h=>by rw[lS,lS,h (g+1+i) oO oO,aCR (λ j h1 h2=>h j h1 oO)]
def LT{L:LSt}:∀ {f f' g c:Nat},L.sl.length-g<=f->L.sl.length-g<=f'->g<L.sl.length->iU L f g c=iU L f' g c
 |0,_,g,c,h,_,hg=>oO
 |_+1,0,g,c,_,h,hg=>oO
 |f+1,f'+1,g,c,h,h',hg=>by rw[iU,iU];exact aCR λ j h1 h2=>LT oO oO oO
def GY(L:LSt)(g c:Nat):Option Mb:=iU L L.sl.length g c
def XY(hg:g<L.sl.length)(h:GY L g c=aA y):(∃j,j<L.tl.length/\vT L g c j=aB/\y=tmb (L.tsk j))\/∃h,g<h/\h<L.sl.length/\L.par h=g/\(GY L h c).isSome=aB/\y=⟨(L.sp h c).v,1,(h:Int)⟩:=by
 unfold GY at h;obtain⟨n,hn⟩:∃n,L.sl.length=n+1:=⟨L.sl.length-1,oO⟩;rw[hn,iU]at h;rcases aHA h with h1|⟨j,h1,h2,h3,h4,h5⟩;.exact dE h1
 refine dP ⟨j,h1,oO,h3,?_,h5⟩;rw[GY,hn,<-LT (f:=n) oO oO oO];exact h4
def aGV(L:LSt)(n c:Nat)(hS:Shp L n)(hc:c<n)(m tk:Nat)(hm:m+6+L.sl.length<=tk)(g:Nat)(hg:g<L.sl.length)(k:Nat)(hk:tk<k):
 Tr aG Γ 77 k [.ptr m 0 0,g,c] (MH m tk L) (λ k1 r1 H1=>k1=k/\r1=resL (GY L g c)/\H1=MH m tk L):=
 bFV L n c hS hc m tk hm L.sl.length g hg oO k hk
def yE(L:LSt):Nat->Nat->Nat->Int
 |0,_,_=>0
 | f+1,g,c=>match GY L g c with
   |none=>0
   |some x=>if x.b=0 then x.x else yE L f x.x.toNat c
def QV{L:LSt}{c:Nat}:∀ {f g:Nat},g<L.sl.length->yE L f g c=0\/∃j,j<L.tl.length/\(L.tsk j).ready=aB/\(L.tsk j).cpu=c/\yE L f g c=(L.tsk j).id
 |0,_,_=> .inl rfl
 |f+1,g,hg=>by
  rw[yE]
  cases hl:GY L g c with
  |none=>exact .inl rfl
  |some x=>
   simp only[];rcases XY hg hl with⟨j,h1,h2,rfl⟩|⟨h,h1,h2,h3,h4,rfl⟩;.rw[takes_iff]at h2;exact dP ⟨j,h1,h2.1,h2.2.2,iP rfl⟩
   rw[iN (by show ¬(1:Int)=0;omega)];exact QV h2
def JR(L:LSt)(c:Int):Nat->Int
 |0=>0
 |i+1=>if(L.tsk i).ready=aB/\(L.tsk i).cpu=c then aH.wrap (JR L c i+(L.tsk i).weight)else JR L c i
def weight(L:LSt)(c:Int)(m tk k:Nat)(hm:m+6+L.sl.length<=tk)(hk:tk<k)(hnt:L.tl.length<=100000):
 Tr aG Γ 173 k [.ptr m 0 0,c] (MH m tk L) (λ k1 r1 H1=>k1=k/\r1=aD (aE aH (JR L c L.tl.length))/\H1=MH m tk L):=by
 obtain⟨RH,eRH⟩:=xE (MH m tk L:aS);obtain⟨RV,eRV⟩:=xE (.lit (.int .i64 (JR L c L.tl.length)):AVal);refine uG (k:=k) eRV eRH rfl (fX oO oO) (bR Tryz.func173 rfl 32 rfl bB ?_);simp only[MH,LH];have kp:=kN k [0,1,4,5,7,12,13,14,15,25];refine gO ?_;refine cD (X:=Nat) rfl [0,1,4,5,7,12,13,14,15,25] k (λ i=>[(14,i),(5,(JR L c i))]) (λ i=>MH m tk L) (λ i=>i<=L.tl.length) (λ i=>L.tl.length-i) 0 ?_ (bF _) ?_;.simp only[MH,LH];rw[JR];refine cZ ?_;exact iC
 intro i hi;have hw1:(L.tsk i).ready=aB/\(L.tsk i).cpu=c->JR L c (i+1)=aH.wrap (JR L c i+(L.tsk i).weight):=λ h=>by rw[JR,iP h]
 have hw2:¬((L.tsk i).ready=aB/\(L.tsk i).cpu=c)->JR L c (i+1)=JR L c i:=λ h=>by rw[JR,iN h]
 obtain⟨w,ew⟩:=xE (JR L c i);rw[<-ew]at hw1 hw2;rw[<-ew];simp only[MH,LH];refine cZ ?_;refine vI ?_;refine FN (qS λ ht ht hg=>?_) (qS λ ht ht hg=>?_) (qS λ ht ht hg=>?_) (rX λ ht=>?_);.refine⟨i+1,oO,oO,?_⟩;rw[hw1 ⟨by assumption,by assumption⟩];refine cZ ?_;exact iC
 iterate 2
  · refine⟨i+1,oO,oO,?_⟩
    rw[hw2 (by rintro⟨a1,a2⟩;first|omega|(simp_all;done))]
    refine cZ ?_
    exact iC
 have hi':i=L.tl.length:=oO;subst hi';refine kX ?_;refine⟨?_,?_⟩;.rw[eRV,ew]
 rw[eRH];simp only[MH,LH];exact SX iV
def aPW(t:Tk)(v r w:Int)(R:List (List AVal))(id i:Nat)(hi:R[i]? =aA (tkc t))(hw:0<=w)(hw2:w<=4294967295)(k:Nat)(hk:id<k):
 Tr aG Γ 163 k [.ptr id i 0,enc v r w] [(id,⟨8,aB,R⟩)] (λ k1 r1 H1=>k1=k/\r1= .tup []/\H1=[(id,⟨8,aB,R.set i (tkc {t with v:=v,r:=r,weight:=w})⟩)]):=by
 have e1:aH.wrap w=w:=wrap_i64 oO oO;refine bR Tryz.func163 rfl 20 rfl bB (pW ?_);have hlt:i<R.length:=(aL.1 hi).1;have hset:∀x,(R.set i x)[i]? =aA x:=λ x=>by simp[hlt]
 have kp:Kp [0,1,3] (λ i=>if i=id then 0 else i-k+1):=oR;have uU:=GX e1 hi hset @ssN @enc.eq_1;refine gO ?_;refine⟨k,[],[(id,⟨8,aB,R.set i (tkc {t with v:=v,r:=r,weight:=w})⟩)],?_,_,rfl,rfl,rfl,rfl⟩;refine cZ ?_;exact iC
def aJR(s:Sp)(w:Int):Prop:=qI s.v s.r w=aB/\0<=s.v/\s.v<=18446744073709551615/\0<=s.r/\0<=s.floor/\s.floor<=18446744073709551615
structure TkOk (L:LSt) (n:Nat) (t:Tk):Prop where
 id1:1<=t.id
 id2:t.id<=65535
 g0:0<=t.group
 g1:t.group<L.sl.length
 c0:0<=t.cpu
 c1:t.cpu<n
 e:qI t.v t.r t.weight=aB
 v0:0<=t.v
 v1:t.v<=18446744073709551615
 r0:0<=t.r
 m0:0<=t.mask
 m1:t.mask<18446744073709551616
 m2:t.mask/2^n=0
 m3:t.mask/2^t.cpu.toNat%2=1
structure Rt0 (L:LSt) (n:Nat):Prop where
 n1:1<=n
 n64:n<=64
 cpus:L.cpus=n
 cr0:0<=L.credit
 cr:L.credit<=1099511627776
 ng:L.gl.length=L.sl.length
 ns1:1<=L.sl.length
 ns:L.sl.length<=256
 nk:L.kl.length=n
 nu:L.ul.length=n
 rows:∀g,g<L.sl.length->(L.sl.getD g []).length=n
 nt:L.tl.length<=1000
 par:∀g,0<g->g<L.sl.length->0<=L.par g/\L.par g<g
 par0:L.par 0=0
 wt:∀g,g<L.sl.length->1<=L.wt g/\L.wt g<=65536
 clk:∀c,c<n->0<=L.clk c/\L.clk c<=281474976710656
 sp:∀g c,g<L.sl.length->c<n->aJR (L.sp g c) (L.wt g)
 root:∀c,c<n->(L.sp 0 c).v=0/\(L.sp 0 c).r=0
 tk:∀i,i<L.tl.length->TkOk L n (L.tsk i)
 sorted:BJ L
 cur:∀c,c<n->L.cur c=0\/∃j,j<L.tl.length/\(L.tsk j).ready=aB/\(L.tsk j).cpu=c/\(L.tsk j).id=L.cur c
def Rt0.shp(h:Rt0 L n):Shp L n:=
 ⟨h.ng,h.rows,by have:=h.nt;omega,by have:=h.ns;omega,λ i hi=>by have:=h.tk i hi;exact⟨by have:=this.id1;omega,this.id2,this.v1⟩,λ g c hg hc=>(h.sp g c hg hc).2.2.1⟩
def LSt.setT (L:LSt)(i:Nat)(t:Tk):LSt:={L with tl:=L.tl.set i t}
def LSt.setS (L:LSt)(g c:Nat)(s:Sp):LSt:={L with sl:=L.sl.set g ((L.sl.getD g []).set c s)}
def HI(hi:i<L.tl.length):(L.setT i t).tsk j=if j=i then t else L.tsk j:=by
 unfold LSt.setT LSt.tsk;simp only[aU,dS];by_cases h:j=i;.subst h;simp[hi]
 rw[iN (Ne.symm h),iN h]
def qV:(L.setT i t).tl.length=L.tl.length:=jF
def tH{L:LSt}{g c:Nat}{s:Sp}:(L.setS g c s).sl.length=L.sl.length:=jF
def PG(hg:g<L.sl.length):(L.setS g c s).sl.getD h []=if h=g then(L.sl.getD g []).set c s else L.sl.getD h []:=by
 unfold LSt.setS;simp only[aU,dS];by_cases e:h=g;.subst e;simp[hg]
 rw[iN (Ne.symm e),iN e]
def UE:((L.setS g c s).sl.getD h []).length=(L.sl.getD h []).length:=by
 by_cases hg:g<L.sl.length
 .rw[PG hg];split;.subst h;simp
  rfl
 unfold LSt.setS;rw[List.set_eq_of_length_le oO]
def AD{d:Nat}(hg:g<L.sl.length)(hc:c<(L.sl.getD g []).length):(L.setS g c s).sp h d=if h=g/\d=c then s else L.sp h d:=by
 unfold LSt.sp;rw[PG hg];by_cases e:h=g
 .subst e;rw[iP rfl];simp only[aU,dS]at*
  by_cases e2:d=c;.subst e2;simp[hc]
  rw[iN (Ne.symm e2),iN (λ h=>e2 h.2)]
 rw[iN e,iN (λ h=>e h.1)]
def fam_congr{s:Nat}:∀ {n f:Nat} {R R':Nat->List (List AVal)},(∀j,j<n->R j=R' j)->nA f s n R=nA f s n R'
 |0,_,_,_,_=>rfl
 |n+1,f,R,R',h=>by rw[nA,nA,h 0 oO,fam_congr (n:=n) (λ j hj=>h (j+1) oO)]
def aOZ:pB (L.setT i t)=(pB L).set i (tkc t):=by simp[pB,LSt.setT,jO]
def a2O(hg:g<L.sl.length):CP (L.setS g c s) h=if h=g then(CP L g).set c (spc s)else CP L h:=by
 unfold CP;rw[PG hg];split;.rw[jO]
 rfl
def FD:MH m tk (L.setT i t)=(m,⟨8,aF,[fS m tk L]⟩)::(m+1,⟨2,aB,SP L⟩)::(m+2,⟨1,aB,TE L⟩)::(m+3,⟨1,aB,MP L⟩)::(m+5,⟨1,aF,HT m L⟩)::(tk,⟨8,aB,(pB L).set i (tkc t)⟩)::nA (m+6) 3 L.sl.length (CP L):=by
 rw[MH,LH,aOZ];have e:fS m tk (L.setT i t)=fS m tk L:=by unfold fS;rw[qV];rfl
 rw[e];rfl
def a3K:HT m (L.setS g c s)=HT m L:=by unfold HT;rw[tH];refine fR λ h _=>?_;rw[ouF,ouF,UE]
def OS(hg:g<L.sl.length):MH m tk (L.setS g c s)=(m,⟨8,aF,[fS m tk L]⟩)::(m+1,⟨2,aB,SP L⟩)::(m+2,⟨1,aB,TE L⟩)::(m+3,⟨1,aB,MP L⟩)::(m+5,⟨1,aF,HT m L⟩)::(tk,⟨8,aB,pB L⟩)::nA (m+6) 3 L.sl.length (λ j=>if j=g then(CP L g).set c (spc s)else CP L j):=by
 rw[MH,LH,a3K];have e:fS m tk (L.setS g c s)=fS m tk L:=by unfold fS;rw[tH];rfl
 rw[e,tH,fam_congr (λ j _=>a2O hg)];rfl
def Rt0.setS(h:Rt0 L n)(hg:g<L.sl.length)(hc:c<n)(hs:aJR s (L.wt g))(hroot:g=0->s.v=0/\s.r=0):Rt0 (L.setS g c s) n:=by
 have hc':c<(L.sl.getD g []).length:=by rw[h.rows g hg];exact hc
 have hl:= @tH L g c s;refine⟨h.n1,h.n64,h.cpus,h.cr0,h.cr,by rw[hl];exact h.ng,by rw[hl];exact h.ns1,by rw[hl];exact h.ns,h.nk,h.nu,λ j hj=>by rw[UE];exact h.rows j oO,h.nt,λ j h1 h2=>h.par j h1 oO,h.par0,λ j hj=>h.wt j oO,h.clk,λ j d hj hd=>?_,λ d hd=>?_,λ i hi=>?_,h.sorted,h.cur⟩
 .rw[AD hg hc'];split;.rename_i e;rw[e.1];exact hs
  exact h.sp j d oO hd
 .rw[AD hg hc'];split;.rename_i e;exact hroot e.1.symm
  exact h.root d hd
 have t:=h.tk i hi;exact⟨t.id1,t.id2,t.g0,by rw[hl];exact t.g1,t.c0,t.c1,t.e,t.v0,t.v1,t.r0,t.m0,t.m1,t.m2,t.m3⟩
def aCO(h1:0<=a)(h2:a<=18446744073709551615)(h3:0<=b):0<=DJ a b/\DJ a b<=18446744073709551615:=by unfold DJ;split<;>omega
def aAP{f c:Int}(h:aJR s w)(hf:0<=f)(hf2:f<=18446744073709551615)(hc:0<=c):aJR {s with v:=(vP s.v s.r f c).1,r:=(vP s.v s.r f c).2} w:=by obtain⟨h1,h2,h3,h4,h5,h6⟩:=h;have:=aCO hf hf2 hc;simp only[qI,dTt]at h1;unfold vP aJR;simp only[qI,dTt];split<;>(refine⟨?_,?_,?_,?_,h5,h6⟩<;>omega)
def woken1(L:LSt)(c g:Nat):LSt:=L.setS g c {L.sp g c with v:=(vP (L.sp g c).v (L.sp g c).r (L.sp (L.par g).toNat c).floor L.credit).1,r:=(vP (L.sp g c).v (L.sp g c).r (L.sp (L.par g).toNat c).floor L.credit).2}
def Rt0.woken1(h:Rt0 L n)(h0:0<g)(hg:g<L.sl.length)(hc:c<n):Rt0 (woken1 L c g) n:=by have hp:=h.par g h0 hg;have hs:=h.sp (L.par g).toNat c oO hc;exact h.setS hg hc (aAP (h.sp g c hg hc) hs.2.2.2.2.1 hs.2.2.2.2.2 h.cr0) (λ e=>oO)
def wkN(L:LSt)(c:Nat)(l:List Nat):Nat->LSt
 |0=>L
 |j+1=>woken1 (wkN L c l j) c (l.getD j 0)
def pA(L:LSt)(c:Nat)(l:List Nat):LSt:=wkN L c l l.length
def OU{L:LSt}{n c:Nat}{l:List Nat}(h:Rt0 L n)(hc:c<n)(hl:∀g,g∈l->0<g/\g<L.sl.length):∀ {j:Nat},j<=l.length->Rt0 (wkN L c l j) n/\(wkN L c l j).sl.length=L.sl.length
 |0,_=>⟨h,rfl⟩
 |j+1,hj=>by obtain⟨h1,h2⟩:=OU h hc hl (j:=j) oO;have:=hl (l.getD j 0) (by simp only[aU];rw[aN oO];exact zY _);exact⟨h1.woken1 this.1 oO hc,by rw[wkN,woken1,tH,h2]⟩
def gR(l:List Nat):List (List AVal):=l.map λ(g:Nat)=>[aD (aE aH (g:Int))]
def aXD(l:List Nat):(gR l).length=l.length:=dG _
def bBM(h:j<l.length):(gR l)[j]? =aA [aD (aE aH ((l.getD j 0:Nat):Int))]:=by simp[gR,h,oZ]
attribute [go_sem] aXD
def jS{e s:Nat}(h:p e=aB)(h2:oU p H=aB):oU p ((e,⟨s,aB,R⟩)::H)=aB:=by
 simp only[oU,gI,h,BO,iE,lZ]at h2⊢
 exact h2
def bEQ(L:LSt)(n c:Nat)(hS:Rt0 L n)(hc:c<n)(l:List Nat)(hl:∀g,g∈l->0<g/\g<L.sl.length)(hl2:l.length<=1000)(m tk e k:Nat)(hm:m+6+L.sl.length<=tk)(he:tk<e)(hk:e<k):
 Tr aG Γ 166 k [.ptr m 0 0,.sl e 0 l.length,c] ((e,⟨1,aB,gR l⟩)::MH m tk L) (λ k1 r1 H1=>k1=k/\r1= .tup []/\H1=(e,⟨1,aB,gR l⟩)::MH m tk (pA L c l)):=by
 have hWk:Rt0 (pA L c l) n/\(pA L c l).sl.length=L.sl.length:=OU hS hc hl (aJ _);have hWk2:=hWk.2;obtain⟨RH,eRH⟩:=xE ((e,⟨1,aB,gR l⟩)::MH m tk (pA L c l):aS);obtain⟨F,hF⟩:∃F:Nat->aS,∀j,F j=(e,⟨1,aB,gR l⟩)::MH m tk (wkN L c l j):=⟨_,λ _=>rfl⟩;refine Tr.mono (mO (kk:=k) (V:= .tup []) (RH:=RH) oO rfl (by rw[eRH];exact jS (by simp only[kC,dTt];omega) (fX oO oO)) ?_) (λ _ _ _ h=>⟨h.1,h.2.1,h.2.2.trans eRH⟩);refine bR Tryz.func166 rfl 82 rfl bB ?_;simp only[MH,LH];have kp:=kN k [0,1,2,7,8,9,10,12,13,14,15];refine gO ?_;refine cD (X:=Nat) rfl [0,1,2,7,8,9,10,12,13,14,15] k (λ j=>[(14,j)]) (λ j=>F j) (λ j=>j<=l.length) (λ j=>l.length-j) 0 ?_ (bF _) ?_;.rw[hF,wkN];simp only[MH,LH];refine cZ ?_;exact iC
 intro j hj;obtain⟨hM,hMl⟩:=OU hS hc hl hj;have hsucc:wkN L c l (j+1)=woken1 (wkN L c l j) c (l.getD j 0):=rfl;have hlast:j=l.length->pA L c l=wkN L c l j:=λ e=>by rw[e];rfl
 have hget:j<l.length->(gR l)[j]? =aA [aD (aE aH ((l.getD j 0:Nat):Int))]:=bBM;have hg:j<l.length->0<l.getD j 0/\l.getD j 0<L.sl.length:=λ h=>hl _ (by simp only[aU];rw[aN h];exact zY _);obtain⟨M,eM⟩:=xE (wkN L c l j);rw[hF j,<-eM];rw[<-eM]at hM hMl hsucc hlast;obtain⟨g,eg⟩:=xE (l.getD j 0);rw[<-eg]at hget hsucc hg;simp only[MH,LH];refine cZ ?_;by_cases hj2:j<l.length
 .have hget:=hget hj2;obtain⟨hg0,hg1⟩:=hg hj2;have hng:=hM.ng;have hrow:=hM.rows g oO;obtain⟨hp0,hp1⟩:=hM.par g hg0 oO;obtain⟨p,hp⟩:∃p:Nat,M.par g=(p:Int):=⟨(M.par g).toNat,oO⟩;have hrow2:=hM.rows p oO;have hw:=hM.wt g oO;have hs1:=hM.sp g c oO hc;have hs2:=hM.sp p c oO hc;have kp:Kp [0,1,2,7,8,9,10,12,13,14,15] (λ i=>if k<=i then i-k+1 else 0):=oR;have uU:=pJ hget hrow hrow2 hp;refine gJ λ ht=>?_;obtain⟨z,ez⟩:=xE (vP (M.sp g c).v (M.sp g c).r (M.sp p c).floor M.credit);refine dlD [.ret (enc (M.sp g c).v (M.sp g c).r (M.wt g)),.ret (.tup [enc z.1 z.2 (M.wt g),(0:Int)])] ?_;refine kS (zs ?_) (zs ?_) (zs ?_);.exact qZ _ _ _ oO oO
  .rw[ez];exact aUM _ _ _ _ _ hs1.1 hs2.2.2.2.2.1 hs2.2.2.2.2.2 hM.cr0
  have hsetS:∀x,((CP M g).set c x)[c]? =aA x:=λ x=>cE (by rw[EG,hrow];exact hc);have uU:=rY hget hrow hrow2 hp hsetS @ssN;refine gO ?_;refine⟨j+1,oO,oO,?_⟩;rw[hF,hsucc,woken1,OS oO,hp,bW,<-ez];refine cZ ?_;exact iC
 have hj3:j=l.length:=oO;rw[hlast hj3]at eRH;have kp:Kp [0,1,2,7,8,9,10,12,13,14,15] (λ i=>if k<=i then i-k+1 else 0):=oR;refine gJ λ ht=>?_;refine⟨_,rfl,rfl,?_⟩;rw[eRH];simp only[MH,LH];exact SX iV
end Go.Proofs.T
end
section
namespace Go.AM
open Go
variable{α:Type}{R:List α}{v:AVal}{ops:Array Oper}{B:Blk}{p q:Bool}{L:List (Bool×Bool)}{X:List (List AVal)}{zrow:List AVal}{tr:List Foot}{l:List Nat}{c i m n r s t:Nat}{gv:Nat->Nat->Value}{G:Nat->Prop}{x y:Operand}
def shC(f:Foot):Bool×Bool:=(f.rds.isEmpty,f.mods.isEmpty)
def unC(b:Bool×Bool):List Nat×List Nat:=(if b.1=aB then []else [0],if b.2=aB then []else [0])
def EE:∀x,x∈l.map (λ _=>0)->x∈(if l.isEmpty=aB then []else [0]):=λ x hx=>by
 cases l with
 |nil=>simp at hx
 |cons a r=>
  simp only[bN,fO,dM]at hx;simp only[aAE,bP,if_false,tA];rcases hx with h|⟨_,_,h⟩;.exact h
  exact h.symm
def a6I{oj oi:Oper}{fj fi:Foot}(h:BB ops oj (unC (shC fj)) oi (unC (shC fi))=aF):nM ops oj fj oi fi=aF:=by refine ZK (g:=λ _=>0) ?_;simp only[BB,gA,unC,shC]at h;simp only[BB,gA,shG];obtain⟨⟨⟨⟨⟨h1,h2⟩,h3⟩,h4⟩,h5⟩,h6⟩:=h;exact⟨⟨⟨⟨⟨h1,h2⟩,h3⟩,yS EE EE h4⟩,yS EE EE h5⟩,yS EE EE h6⟩
def aYF(hL:tr.map shC=L)(h:FT ops (L.map unC)=aB)(hm:(tr.all λ f=>f.mods.all λ x=>decide (x<f.k'))=aB):lE ops tr=aB:=by
 subst hL;simp only[FT,aY]at h;simp only[lE,aY];intro i hi;have h1:=h i hi;rw[aV,aV]at h1
 cases ho:ops[i]? with
 |none=>rw[ho]at h1;simp at h1
 |some oi=>
  cases ht:tr[i]? with
  |none=>rw[ho,ht]at h1;simp at h1
  |some fi=>
   rw[ho,ht]at h1;simp only[bO,aO,aY]at h1;simp only[aO,aY];refine⟨⟨h1.1,?_⟩,λ j hj=>?_⟩;.have:=aY.1 hm fi (gL ht);exact λ x hx=>aY.1 this x hx
   have h2:=h1.2 j hj;rw[aV,aV]at h2
   cases hoj:ops[j]? with
   |none=>rw[hoj]at h2;simp at h2
   |some oj=>
    cases htj:tr[j]? with
    |none=>rw[hoj,htj]at h2;simp at h2
    |some fj=>
     rw[hoj,htj]at h2;simp only[bO,gQ,dV]at h2⊢
     exact h2.imp a6I id
section
variable{P:Program}{Γ:dW}{o:Oper}{ev:Operand->Option AVal}{get:Nat->Option Blk}{k:Nat}
def aFS{w:World}{ρ:dH}{A:cF}{rows:List (List AVal)}(hs:0<s){cnt:Nat}(hcnt:cnt<=m){b off:Nat}(hl:rows.length=m)(hrl:∀(r:Nat) row,rows[r]? =aA row->row.length=s)
 (hgv:∀r row c v,rows[r]? =aA row->row[c]? =aA v->w.cell? ⟨b,off+r*s+c,aC⟩=aA (gv r c)/\V w G (if p then bX else ρ) (if p then cQ else A) v (gv r c)) (hone:NH (rows.take cnt)):
 (∀j u,(news s cnt gv)[j]? =aA u->w.cell? ((⟨b,off,aC⟩:Addr).add j)=aA u)/\(∀u∈news s cnt gv,u.oneCell'=aB):=by
 refine⟨λ j u hj=>?_,λ u hu=>?_⟩
 .obtain⟨h1,h2,rfl⟩:=tL hj hs;obtain⟨row,v,h3,h4⟩:=xR hrl (by omega:j/s<rows.length) h2;have h5:=(hgv _ row _ v h3 h4).1;rw[Addr.add_mid,<-h5];have:off+j=off+j/s*s+j%s:=by have:=FJ j s;rw[jN]at this;omega
  rw[this]
 obtain⟨j,hj⟩:=pF hu;obtain⟨h1,h2,rfl⟩:=tL hj hs;obtain⟨row,v,h3,h4⟩:=xR hrl (by omega:j/s<rows.length) h2;exact aBX (hgv _ row _ v h3 h4).2 (hone (j/s) row _ v (by rw[fA];rw[iP h1];exact h3) h4)
def AZ{id by':Nat}{rows:List (List AVal)}{ids:List Nat}(cnt:Nat)
 (ho:o.op= .call {callee:= .builtin .copy,args:= #[x,y],argTypes:= #[t,t]}) (hz:iD P t=aA (s,by',zrow)) (hx:ev x=aA (.sl id r n)) (hB:get id=aA B) (hBs:B.sz=s) (hy:ev y=aA v) (hs:SrcA get (deS v) s m rows p ids)
 (hone:((rows.take cnt).all λ row=>row.all one)=aB) (hcnt:cnt=Nat.min m n) (hc0:0<cnt) (hr:r+n<=B.rows.length)   (e1:(B.pure&&p)=q) (e2:gH B.rows (rows.take cnt) r=X):
 Good P Γ o ev get k ⟨.lit (.int .i64 cnt),k,[(id,aA ⟨B.sz,q,X⟩)],id::ids⟩:=by
 subst e1;subst e2;have hcm:cnt<=m/\cnt<=n:=by rw[hcnt];exact⟨Nat.min_le_left _ _,Nat.min_le_right _ _⟩
 refine⟨?_,HM hB hs.some,aJ _⟩;intro w G ρ H A a hrl hA hf hrd hop next Q hn
 unfold iD at hz;split at hz;case h_2=>cases hz
 rename_i e hu;split at hz;case h_2=>cases hz
 rename_i i hi;split at hz;case h_2=>cases hz
 rename_i z hzz;split at hz;case isFalse=>cases hz
 rename_i hsz;cases hz;obtain⟨B',A',h3,hH,hAA⟩:=hrd id sS;rw[hB]at h3;cases h3;obtain⟨_,b,hb,_,hBR⟩:=hrl.blk id B A' hH;have hvx:=hop x pC _ hx;have hvy:=IV (hop y pC _ hy);obtain⟨hsl,hsrl,hsex⟩:=hs.src hrl (λ id' hid=>hrd id' (dZ _ hid)) hvy;obtain⟨sb,soff,scap,hsv,gv,hgv⟩:=hsex oO;obtain⟨hcell,h1⟩:=aFS (cnt:=cnt) hsz.2 hcm.1 hsl hsrl hgv (tJ hone);generalize hev:a.eval x=cvx at hvx
 cases hvx with
 |dangs _ hn'=>rw[hb]at hn';cases hn'
 |sl0=>omega
 |sl h4 h5 h6 h7 h8 h9 h10=>
  rw[hb]at h5;cases h5;rename_i dcap doff;obtain⟨⟨C,ty,hC,hrows⟩,hlen⟩:=hBR.old h6;have e:=h6;unfold World.shape? at e;rw[hC]at e;simp at e;obtain⟨rfl,rfl⟩:=e;have hoff:=h10.resolve_left oO;subst hoff;have hfit0:=PI hrows hlen;have hfit:(r+cnt)*B.sz<=C.size:=pL (bZ _ oO) hfit0;have hnl:=tK i.size cnt gv;have hrun:=SV (P:=P) w t t o.type e b (r*B.sz) n dcap ⟨sb,soff,aC⟩ m scap C ty (news i.size cnt gv) i cnt hu hi hC hcnt hnl hcell (by rw[hnl,hBs,<-cW,<-hBs];exact hfit) h1;have hrun':(execOp a.eval o).run P w= .ok (.value (goInt cnt)) (w.setRow b (C.toList.take (r*B.sz)++news i.size cnt gv++C.toList.drop (r*B.sz+(news i.size cnt gv).length)).toArray):=by simp only[execOp,ho,resolve,invoke,builtin];simp only[uA,bN,bV,bS,dO,bJ,hev,hsv,hrun]
  unfold Oper.wp;rw[hrun'];rw[<-hBs]at hrun'⊢
  have hw:=JT (k:=k) hrl h4 hAA hb hC hrows hlen r cnt (rows.take cnt) p gv sO (λ q row h=>by rw[hBs];exact hsrl q row (CK h).2)
   (λ q row c v h h'=>(hgv q row c v (CK h).2 h').2) oO hfit
  exact hn _ G ρ (goInt cnt) hw.1 .lit hw.2
def aOU{id e r' n' c':Nat}{lo hi:Option Operand}{l h:Int}(ho:o.op= .slice t x lo hi aC)(hB:get id=aA B)(ht:DQ P t=aA B.sz)(hx:ev x=aA (.slc id r n c))
 (hl:bound ev lo 0=aA l) (hh:bound ev hi n=aA h) (h0:0<=l) (h1:l<=h) (h2:h<=c) (he:B.rows.length+e<=r+c) (e1:r+l.toNat=r') (e2:h.toNat-l.toNat=n') (e3:c-l.toNat=c')  (e4:B.rows++bI e (bI B.sz .junk)=X):
 Good P Γ o ev get k ⟨.slc id r' n' c',k,[(id,aA ⟨B.sz,B.pure,X⟩)],[id]⟩:=by subst e1;subst e2;subst e3;subst e4;exact aTN ho hB ht hx hl hh h0 h1 h2 he
def aJC{tn id by':Nat}{kn kq:IntKind}
 (ho:o.op= .call {callee:= .builtin .append,args:= #[x,y],argTypes:= #[t,tn]}) (hz:iD P t=aA (s,by',zrow)) (htn:P.underlying tn=aA (.int kn)) (hx:ev x=aA (.slc id r n c)) (hB:get id=aA B) (hBs:B.sz=s)
 (hy:ev y=aA (.lit (.int kq (m:Int)))) (hm:0<m) (hroom:c<n+m) (hby:(n+m)*by'<=140737488355328) (hlen0:n+m<=9223372036854775807) (hr:r+n<=B.rows.length)  {nm:Nat}  (e1:(B.pure&&aB)=q) (e2:n+m=nm) (e3:(B.rows.drop r).take n++bI m zrow=X):
 Good P Γ o ev get k ⟨.sl k 0 nm,k+1,[(k,aA ⟨s,q,X⟩)],[id]⟩:=by subst e1;subst e2;subst e3;exact aRO ho hz htn hx hB hBs hy hm hroom hby hlen0 hr
def setRows_get?{rows new:List (List AVal)}(hr:r<=rows.length)(q:Nat):(gH rows new r)[q]? =if q<r then rows[q]? else if q<r+new.length then new[q-r]? else rows[q]? :=by
 unfold gH;rw[dA,dQ,uB,Nat.min_eq_left hr];by_cases h1:q<r;.rw[iP h1,iP h1,fA,iP h1]
 rw[iN h1,iN h1,dQ];by_cases h2:q<r+new.length;.rw[iP h2,iP oO]
 rw[iN h2,iN oO,fJ];congr 1;omega
def wG{α:Type}(R:List α)(i:Nat)(row:α):List α:=R.take i++row::R.drop i
def insR_get?{row:α}(h:i<=R.length)(q:Nat):(wG R i row)[q]? =if q<i then R[q]? else if q=i then aA row else R[q-1]? :=by
 unfold wG;rw[dQ,uB,Nat.min_eq_left h];by_cases h1:q<i;.rw[iP h1,iP h1,fA,iP h1]
 rw[iN h1,iN h1];by_cases h2:q=i;.subst h2;simp
 rw[iN h2,List.getElem?_cons,iN oO,fJ];congr 1;omega
def aWX{row:α}(h:i<=R.length):(wG R i row).length=R.length+1:=by unfold wG;simp;omega
end
section
variable{P:Program}{Γ:dW}{o:Oper}{ev:Operand->Option AVal}{get:Nat->Option Blk}{k:Nat}
def LI{ty e id:Nat}(ho:o.op= .binOp .eql t x y ty)(he:P.underlying t=aA (.slice e))(hx:ev x=aA (.slc id r n c))(hB:get id=aA B)(hy:ev y=aA (.lit (.slice aC 0 0))):
 Good P Γ o ev get k ⟨.lit (.bool aF),k,[],[id]⟩:=by refine⟨cL λ w G ρ H A a hr hrd hop=>⟨.bool aF,?_,.lit⟩,λ id' hid=>by simp at hid;rw[hid,hB];rfl,aJ _⟩;obtain⟨B',A',h3,hH,_⟩:=hrd id sS;rw[hB]at h3;cases h3;have hvx:=hop x pS _ hx;have hvy:=iB (hop y pS _ hy);obtain⟨b,off,C,ty',hev,_⟩:=qT hr hH hvx;obtain⟨h1,_,h2,_⟩:=HU (P:=P) he ⟨b,off,aC⟩ n c 0 0 w;simp[execOp,ho,hev,hvy,h1,h2]
end
def LD{kb k:Nat}{fr:Fr}{H:aS}(t:Nat){u:AVal}(hf:look fr t=aA u)(hv:VLe u v):Mv kb k fr H k ((t,v)::del fr t) H:=a1B λ t' z hz=>by
 simp only[look]at hz;split at hz;.rename_i e;subst e;cases hz;exact⟨u,hf,hv⟩
 rw[iK]at hz;split at hz;.cases hz
 exact⟨z,hz,bL _⟩
end Go.AM
end
