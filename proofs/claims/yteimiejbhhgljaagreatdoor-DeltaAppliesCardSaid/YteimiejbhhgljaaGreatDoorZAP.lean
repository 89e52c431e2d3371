import Derived.Test.YteimiejbhhgljaaGreatDoorZAO
set_option linter.unusedVariables false
set_option linter.unusedSimpArgs false
set_option maxHeartbeats 0
set_option maxRecDepth 100000
open Bool renaming and_eq_true->aC,and_false->qP,and_true->qO,eq_false_iff->dS,false_and->kD,true_and->kQ,true_or->yV
open Int renaming ediv_nonneg->PJ,fdiv_eq_ediv_of_nonneg->dL,le_refl->fA,pow_nonneg->qN,toNat_natCast->gX
open Go.IntKind renaming i64->aN,u32->jF
open List renaming all_cons->hY,all_eq_true->aW,cons_append->dQ,eq_nil_of_length_eq_zero->fL,getD_eq_getElem?_getD->bD,getElem?_cons_zero->iX,getElem_mem->bKH,length_map->bP,map->jL,map_append->aH,map_congr_left->gB,map_cons->bG,map_map->jD,map_nil->aV,mem_map->cL,mem_range->dO,nil_append->cN,range->aM,range_succ->CI,replicate->eI
open Nat renaming add_assoc->fS,add_sub_cancel->rN,add_sub_cancel_left->iW,eq_zero_or_pos->jJ,le_refl->aF,mul_one->bAM,not_lt_zero->bJ,sub_self->PG,zero_le->aJ
open Option renaming some->mB
open Go.Proofs.Tryz renaming prog->aA
section
namespace Go.Proofs.T
open Go Go.AM Go.Proofs
variable{Γ:List (Nat×List AVal)}
attribute [local irreducible] gK del
attribute [local go_sem] tJ tE tR
def zX(c n i:Nat):List (List AVal):=(aM i).map λ g=>[.sl (c+g) 0 n]
theorem XD(c n i:Nat):zX c n (i+1)=zX c n i++[[.sl (c+i) 0 n]]:=by simp[zX,CI]
theorem JI(c n i:Nat):(zX c n i).length=i:=by simp[zX]
theorem aPE{c n i g:Nat}(h:g<i):(zX c n i)[g]? =some [.sl (c+g) 0 n]:=by simp[zX,h]
theorem TB{a b c n i:Nat}(ha:a<c\/c+i<=a)(hb:b<c\/c+i<=b):(zX c n i).map (λ row=>row.map (CO a b))=zX c n i:=by unfold zX;rw[jD];refine gB λ g hg=>?_;have:=dO.1 hg;simp only[Function.comp,bG,aV,CO,sw];rw[if_neg oO,if_neg oO]
theorem aFQ{c n i id:Nat}{B:Blk}(h:id<c\/c+i<=id):(zX c n i).map (λ row=>row.map (jE id B))=zX c n i:=by unfold zX;rw[jD];refine gB λ g hg=>?_;have:=dO.1 hg;simp only[Function.comp,bG,aV,jE];rw[if_neg oO]
theorem aWU{c n i q:Nat}(h:c+i<=q):((zX c n i).all λ row=>row.all (iC (kW q)))=true:=by unfold zX;rw[aW];intro row hr;obtain⟨g,hg,rfl⟩:=cL.1 hr;have:=dO.1 hg;simp only[hY,List.all_nil,iC,kW,qO,dTt];omega
theorem bAB{id q:Nat}{l:List (List AVal)}(h:id<q):iC (kW q) (bV id l)=true:=by
 cases l with
 |nil=>rfl
 |cons x r=>rw[BW];simp only[iC,kW,dTt];exact h
theorem bAC{id q s:Nat}{l:List (List AVal)}{H:aS}(h:id<q):rG (kW q) (cA id s l H)=rG (kW q) H:=by
 cases l with
 |nil=>rfl
 |cons x r=>rw[BX];simp only[rG,hY,kW,yV,qO,decide_eq_true h,kQ]
attribute [go_sem] JI TB aFQ aWU bAB bAC
def GV(d:DE)(j:Nat):Tk:=⟨d.gn j,0,0,0,0,false,0,0⟩
theorem a4E{d:DE}{x:Int}:(IG (GV d) d.n3 x).isSome=true↔x∈pre d.gn d.n3:=by
 rw[JR];constructor;.rintro⟨t,h1,h2⟩;obtain⟨i,h3,h4⟩:=mem_pre.1 h1;exact mem_pre.2 ⟨i,h3,by rw[<-h2,<-h4];rfl⟩
 intro h;obtain⟨i,h3,h4⟩:=mem_pre.1 h;exact⟨GV d i,mem_pre.2 ⟨i,h3,rfl⟩,h4⟩
theorem aLU(s:St)(d:DE)(n:Nat)(k kg:Nat)(hkg:k+(6+s.ns)<=kg)(WT:Nat->Int)(CF UF:Nat->List AVal)(SR:Nat->List (List AVal))(Q:AQ)(hid:zI s)(hf:FitD s (lI d))(hnt:s.nt<=1000)(hd:d.size<=1000)
 (hrest:∀m,oQ (mP s) (lI d).gn (lI d).tk m->m.length<=s.nt+d.n4->AM.W aA Γ 236 k (fR (dZ Tryz.f45) [1,1,1,1,1,1,1,1,1,1,1,1]) Q (kg+3) [(2,.rp s.cells),(3,.rp d.cells),(4,.ptr (k+2) 0 0),(5,(0:Int)),(6,.ptr (k+3) 0 0)] ((k+3,⟨7,false,[[s.cpus,.lit (.int .u64 s.credit),.sl (k+4) 0 s.ng,.rd 1 n CF,.rd 1 n UF,bV (kg+2) (m.map tR),.sl (k+5) 0 s.ns]]⟩)::cA (kg+2) 8 (m.map tR) ((k+4,⟨2,true,gN s.ng s.par WT⟩)::(k+5,⟨1,false,zX (k+6) n s.ns⟩)::(k+2,⟨7,true,[[(0:Int),.lit (.int .u64 0),(),(),(),(),()]]⟩)::(kg,⟨7,true,[[(0:Int),.lit (.int .u64 0),(),(),(),.rd 8 d.n3 (λ j=>tR (GV d j)),()]]⟩)::mK (k+6) 3 s.ns SR))):
 AM.W aA Γ 236 k (fR (dZ Tryz.f45) [1,1,1,1,1,1,1,1,1,1,1]) Q (kg+3) [(10,.ptr kg 0 0),(12,(0:Int)),(13,(0:Int)),(2,.rp s.cells),(3,.rp d.cells),(4,.ptr (k+2) 0 0),(5,(0:Int)),(6,.ptr (k+3) 0 0)] ((k+3,⟨7,false,[[s.cpus,.lit (.int .u64 s.credit),.sl (k+4) 0 s.ng,.rd 1 n CF,.rd 1 n UF,bV (kg+2) (([]:List Tk).map tR),.sl (k+5) 0 s.ns]]⟩)::cA (kg+2) 8 (([]:List Tk).map tR) ((k+4,⟨2,true,gN s.ng s.par WT⟩)::(k+5,⟨1,false,zX (k+6) n s.ns⟩)::(k+2,⟨7,true,[[(0:Int),.lit (.int .u64 0),(),(),(),(),()]]⟩)::(kg,⟨7,true,[[(0:Int),.lit (.int .u64 0),(),(),(),.rd 8 d.n3 (λ j=>tR (GV d j)),()]]⟩)::mK (k+6) 3 s.ns SR)):=by
 unfold DE.size at hd;have hla:=sP hid;have htk:=hf.tk.ti;have hlen:(lI d).tk.length=d.n4:=sR _ _;have hlen2:=a2N s;have atL:∀ {i},i<s.nt->(mP s).getD i fB=s.tsk i:=λ h=>tY h;have atT:∀ {j},j<d.n4->(lI d).tk.getD j fB=d.tk j:=λ h=>tY h;refine bY rfl ?_;refine eZ rfl ?_;refine bE (X:=Nat×Nat×List Tk) rfl [0,1,2,3,4,5,6,7,8,9,10,11,12,13,15,17,20,25,43,93,124,149,176,218,233] (kg+3) (λ x=>[(12,x.1),(13,x.2.1)]) (λ x=>(k+3,⟨7,false,[[s.cpus,.lit (.int .u64 s.credit),.sl (k+4) 0 s.ng,.rd 1 n CF,.rd 1 n UF,bV (kg+2) (x.2.2.map tR),.sl (k+5) 0 s.ns]]⟩)::cA (kg+2) 8 (x.2.2.map tR) ((k+4,⟨2,true,gN s.ng s.par WT⟩)::(k+5,⟨1,false,zX (k+6) n s.ns⟩)::(k+2,⟨7,true,[[(0:Int),.lit (.int .u64 0),(),(),(),(),()]]⟩)::(kg,⟨7,true,[[(0:Int),.lit (.int .u64 0),(),(),(),.rd 8 d.n3 (λ j=>tR (GV d j)),()]]⟩)::mK (k+6) 3 s.ns SR)) (λ x=>x.1<=s.nt/\x.2.1<=d.n4/\MInv (mP s) (lI d).gn (lI d).tk x.1 x.2.1 x.2.2) (λ x=>s.nt-x.1+(d.n4-x.2.1)) (0,0,[]) ?_ ⟨aJ _,aJ _,a6Y⟩ ?_;.refine cQ ?_;apply zN;exact fH
 rintro⟨i,j,acc⟩ ⟨hi,hj,hm⟩;simp only at hi hj hm⊢
 have hal:acc.length<=i+j:=hm.len;obtain⟨l,el⟩:∃l,l=acc.map tR:=⟨_,rfl⟩;have hll:l.length<=10000:=by rw[el,bP];omega
 have hSn:∀t,((acc++[t]).map tR)=l++[tR t]:=λ t=>by rw[aH,<-el];rfl
 have wi:i<=1000:=oO;by_cases hend:i=s.nt/\j=d.n4
 .have q1:¬(i:Int)<(s.nt:Int):=oO;have q2:¬(j:Int)<(d.n4:Int):=oO;have hr:=hrest acc (by have h:=hm;rw[hend.1,hend.2,<-hlen2,<-hlen]at h;exact aPP h) oO
  rw[<-el]at hr⊢
  have uU:=zA @q1 @q2;refine cQ ?_;apply zN;refine bY rfl ?_;refine bY rfl ?_;(refine gL rfl [0,1,2,3,4,5,6,7,8,9,10,11,12,13,15,17,20,25,43,93,124,149,176,218,233] rfl rfl (λ K hK=>?_));simp-dsimp-implicitDefEqProofs (disch:=omega)only[go_sem,iN,q1,q2,eq_self,↓reduceIte];(refine hK _ _ _ _ (λ hx=>?_));clear hx hK;simp-dsimp-implicitDefEqProofs (disch:=omega)only[go_sem,iN,q1,q2,eq_self,↓reduceIte];clear K;refine gA rfl _ rfl (λ ht=>?_) (λ ht=>?_);.first|(cases ht;done)|exact absurd (of_decide_eq_true ht) oO|simp at ht
  refine jU rfl ?_;refine cQ ?_;apply zN;refine dI ?_ hr;exact fH
 rw[<-el];by_cases htk1:j<d.n4/\(i=s.nt\/(d.tk j).id<(s.tsk i).id)
 .obtain⟨hj1,hc⟩:=htk1;obtain⟨t,et⟩:∃t,t=d.tk j:=⟨_,rfl⟩;have et':=et.symm;have q2:(j:Int)<(d.n4:Int):=oO;by_cases hi1:i=s.nt
  .have q1:¬(i:Int)<(s.nt:Int):=oO;have q3:((i:Int)=(s.nt:Int))=True:=eq_true oO;rcases l with _|⟨x0,l⟩
   .have hL:True:=trivial;have uU:=xY @hj1 @et' @q1 @q2 @q3;refine cQ ?_;apply zN;have kp:=kpb k kg [0,1,2,3,4,5,6,7,8,9,10,11,12,13,15,17,20,25,43,93,124,149,176,218,233];refine bS ?_;refine aU ⟨λ ht ht=>⟨λ hg=>⟨?_⟩⟩⟩;refine⟨(i,j+1,acc++[t]),⟨by show i<=s.nt;omega,by show j+1<=d.n4;omega,?_⟩,by simp only;omega,?_⟩;.have h:=JL hla htk hm oO (.inl oO);rw[atT hj1,<-et]at h;exact h
    simp only;rw[hSn,cN,(oO:((j+1:Nat):Int)=(j:Int)+1)];refine cQ ?_;apply zN;exact lM (kg+4) (kg+2) (wW (xY (@hj1) (@et') (@q1) (@q2) (@q3)))
   have hL:l.length<=10000:=by simp at hll;omega
   have uU:=xY @hj1 @et' @q1 @q2 @q3;refine cQ ?_;apply zN;have kp:=kpb k kg [0,1,2,3,4,5,6,7,8,9,10,11,12,13,15,17,20,25,43,93,124,149,176,218,233];refine bS ?_;refine aU ⟨λ ht ht=>⟨λ hg=>⟨?_⟩⟩⟩;refine⟨(i,j+1,acc++[t]),⟨by show i<=s.nt;omega,by show j+1<=d.n4;omega,?_⟩,by simp only;omega,?_⟩;.have h:=JL hla htk hm oO (.inl oO);rw[atT hj1,<-et]at h;exact h
   simp only;rw[hSn,dQ,(oO:((j+1:Nat):Int)=(j:Int)+1)];refine cQ ?_;apply zN;exact lM (kg+4) (kg+2) (wW (xY (@hj1) (@et') (@q1) (@q2) (@q3)))
  have hi2:i<s.nt:=oO;obtain⟨a,ea⟩:∃a,a=s.tsk i:=⟨_,rfl⟩;have ea':=ea.symm;have hlt:t.id<a.id:=by rw[et,ea];exact hc.resolve_left hi1
  have q1:(i:Int)<(s.nt:Int):=oO;have q3:¬(i:Int)=(s.nt:Int):=oO;have hcc:i=(mP s).length\/((lI d).tk.getD j fB).id<((mP s).getD i fB).id:=by right;rw[atT hj1,atL hi2,<-et,<-ea];exact hlt
  rcases l with _|⟨x0,l⟩
  .have hL:True:=trivial;have uU:=qW @hj1 @hi2 @et' @ea' @hlt @q1 @q2 @q3;refine cQ ?_;apply zN;have kp:=kpb k kg [0,1,2,3,4,5,6,7,8,9,10,11,12,13,15,17,20,25,43,93,124,149,176,218,233];refine bS ?_;refine aU ⟨λ ht ht=>⟨λ hg=>⟨?_⟩⟩⟩;refine⟨(i,j+1,acc++[t]),⟨by show i<=s.nt;omega,by show j+1<=d.n4;omega,?_⟩,by simp only;omega,?_⟩;.have h:=JL hla htk hm oO (hcc);rw[atT hj1,<-et]at h;exact h
   simp only;rw[hSn,cN,(oO:((j+1:Nat):Int)=(j:Int)+1)];refine cQ ?_;apply zN;exact lM (kg+4) (kg+2) (wW (qW (@hj1) (@hi2) (@et') (@ea') (@hlt) (@q1) (@q2) (@q3)))
  have hL:l.length<=10000:=by simp at hll;omega
  have uU:=qW @hj1 @hi2 @et' @ea' @hlt @q1 @q2 @q3;refine cQ ?_;apply zN;have kp:=kpb k kg [0,1,2,3,4,5,6,7,8,9,10,11,12,13,15,17,20,25,43,93,124,149,176,218,233];refine bS ?_;refine aU ⟨λ ht ht=>⟨λ hg=>⟨?_⟩⟩⟩;refine⟨(i,j+1,acc++[t]),⟨by show i<=s.nt;omega,by show j+1<=d.n4;omega,?_⟩,by simp only;omega,?_⟩;.have h:=JL hla htk hm oO (hcc);rw[atT hj1,<-et]at h;exact h
  simp only;rw[hSn,dQ,(oO:((j+1:Nat):Int)=(j:Int)+1)];refine cQ ?_;apply zN;exact lM (kg+4) (kg+2) (wW (qW (@hj1) (@hi2) (@et') (@ea') (@hlt) (@q1) (@q2) (@q3)))
 have hi2:i<s.nt:=by refine Classical.byContradiction λ h=>?_;have e1:i=s.nt:=oO;have e2:¬j=d.n4:=λ e=>hend ⟨e1,e⟩;exact htk1 ⟨oO,.inl e1⟩
 obtain⟨a,ea⟩:∃a,a=s.tsk i:=⟨_,rfl⟩;have ea':=ea.symm;have hcc:¬(j<(lI d).tk.length/\((lI d).tk.getD j fB).id<((mP s).getD i fB).id):=λ h=>by have h1:j<d.n4:=oO;refine htk1 ⟨h1,.inr ?_⟩;have h2:=h.2;rw[atT h1,atL hi2]at h2;exact h2
 have q1:(i:Int)<(s.nt:Int):=oO;have q3:¬(i:Int)=(s.nt:Int):=oO;have hfg:=AJ (Γ:=Γ) d.n3 oO (GV d) a.id;have hft:=AJ (Γ:=Γ) d.n4 oO d.tk a.id;have hig:(IG (GV d) d.n3 a.id).isSome=true↔((mP s).getD i fB).id∈(lI d).gn:=by rw[atL hi2,<-ea];exact a4E
 have hit:(IG d.tk d.n4 a.id).isSome=true↔qR (lI d).tk ((mP s).getD i fB).id:=by rw[atL hi2,<-ea];exact JR
 obtain⟨A,eA⟩:∃t,t=GY (GV d) d.n3 a.id:=⟨_,rfl⟩;obtain⟨B,eB⟩:∃t,t=GY d.tk d.n4 a.id:=⟨_,rfl⟩;obtain⟨yg,eyg⟩:∃z,z=(IG (GV d) d.n3 a.id).isSome:=⟨_,rfl⟩;obtain⟨yt,eyt⟩:∃z,z=(IG d.tk d.n4 a.id).isSome:=⟨_,rfl⟩;rw[<-eyg]at hig hfg;rw[<-eyt]at hit hft;rw[<-eA]at hfg;rw[<-eB]at hft;simp only[tR]at hfg hft;obtain⟨t,et⟩:∃t,t=d.tk j:=⟨_,rfl⟩;have et':=et.symm;by_cases hj1:j<d.n4
 .have q2:(j:Int)<(d.n4:Int):=oO;have hlt:¬t.id<a.id:=λ h=>htk1 ⟨hj1,.inr (by rw[<-et,<-ea];exact h)⟩
  cases yg with
  |true=>
   cases yt with
   |true=>
    have uU:=qW @hi2 @hj1 @et' @ea' @hlt @q1 @q2 @q3;refine cQ ?_;apply zN;have kp:=kpb k kg [0,1,2,3,4,5,6,7,8,9,10,11,12,13,15,17,20,25,43,93,124,149,176,218,233];refine bS ?_;refine aU ⟨λ ht ht=>⟨λ hg=>⟨?_⟩⟩⟩;refine mN [.ret (.tup [.agg [A.id,A.group,A.weight,A.cpu,.lit (.int .u64 A.mask),A.ready,.lit (.int .u64 A.v),.lit (.int .u32 A.r)],true])] ?_;refine aU (zs ?_);all_goals(try exact hfg)
    refine bS ?_;refine aU (zs ?_);refine mN [.ret (.tup [.agg [B.id,B.group,B.weight,B.cpu,.lit (.int .u64 B.mask),B.ready,.lit (.int .u64 B.v),.lit (.int .u32 B.r)],true])] ?_;refine dD (zs ?_) (zs ?_);all_goals(try exact hft)
    refine bS ?_;refine aU ⟨λ ht=>zN ?_⟩;refine⟨(i+1,j,acc),⟨by show i+1<=s.nt;omega,by show j<=d.n4;omega,tH hm oO (.inl (hig.1 rfl))⟩,by simp only;omega,?_⟩;simp only;rw[<-el,(oO:((i+1:Nat):Int)=(i:Int)+1)];exact fH
   |false=>
    have uU:=qW @hi2 @hj1 @et' @ea' @hlt @q1 @q2 @q3;refine cQ ?_;apply zN;have kp:=kpb k kg [0,1,2,3,4,5,6,7,8,9,10,11,12,13,15,17,20,25,43,93,124,149,176,218,233];refine bS ?_;refine aU ⟨λ ht ht=>⟨λ hg=>⟨?_⟩⟩⟩;refine mN [.ret (.tup [.agg [A.id,A.group,A.weight,A.cpu,.lit (.int .u64 A.mask),A.ready,.lit (.int .u64 A.v),.lit (.int .u32 A.r)],true])] ?_;refine aU (zs ?_);all_goals(try exact hfg)
    refine bS ?_;refine aU (zs ?_);refine mN [.ret (.tup [.agg [B.id,B.group,B.weight,B.cpu,.lit (.int .u64 B.mask),B.ready,.lit (.int .u64 B.v),.lit (.int .u32 B.r)],false])] ?_;refine dD (zs ?_) (zs ?_);all_goals(try exact hft)
    refine bS ?_;refine aU ⟨λ ht=>zN ?_⟩;refine⟨(i+1,j,acc),⟨by show i+1<=s.nt;omega,by show j<=d.n4;omega,tH hm oO (.inl (hig.1 rfl))⟩,by simp only;omega,?_⟩;simp only;rw[<-el,(oO:((i+1:Nat):Int)=(i:Int)+1)];exact fH
  |false=>
   cases yt with
   |true=>
    have uU:=qW @hi2 @hj1 @et' @ea' @hlt @q1 @q2 @q3;refine cQ ?_;apply zN;have kp:=kpb k kg [0,1,2,3,4,5,6,7,8,9,10,11,12,13,15,17,20,25,43,93,124,149,176,218,233];refine bS ?_;refine aU ⟨λ ht ht=>⟨λ hg=>⟨?_⟩⟩⟩;refine mN [.ret (.tup [.agg [A.id,A.group,A.weight,A.cpu,.lit (.int .u64 A.mask),A.ready,.lit (.int .u64 A.v),.lit (.int .u32 A.r)],false])] ?_;refine aU (zs ?_);all_goals(try exact hfg)
    refine bS ?_;refine aU (zs ?_);refine mN [.ret (.tup [.agg [B.id,B.group,B.weight,B.cpu,.lit (.int .u64 B.mask),B.ready,.lit (.int .u64 B.v),.lit (.int .u32 B.r)],true])] ?_;refine dD (zs ?_) (zs ?_);all_goals(try exact hft)
    refine bS ?_;refine aU ⟨λ ht=>zN ?_⟩;refine⟨(i+1,j,acc),⟨by show i+1<=s.nt;omega,by show j<=d.n4;omega,tH hm oO (.inr (hit.1 rfl))⟩,by simp only;omega,?_⟩;simp only;rw[<-el,(oO:((i+1:Nat):Int)=(i:Int)+1)];exact fH
   |false=>
    have hst:=QJ hla htk hm oO hcc (λ h=>by have:=hig.2 h;cases this) (λ h=>by have:=hit.2 h;cases this);rw[atL hi2,<-ea]at hst;rcases l with _|⟨x0,l⟩
    .have hL:True:=trivial;have uU:=qW @hi2 @hj1 @et' @ea' @hlt @q1 @q2 @q3;refine cQ ?_;apply zN;have kp:=kpb k kg [0,1,2,3,4,5,6,7,8,9,10,11,12,13,15,17,20,25,43,93,124,149,176,218,233];refine bS ?_;refine aU ⟨λ ht ht=>⟨λ hg=>⟨?_⟩⟩⟩;refine mN [.ret (.tup [.agg [A.id,A.group,A.weight,A.cpu,.lit (.int .u64 A.mask),A.ready,.lit (.int .u64 A.v),.lit (.int .u32 A.r)],false])] ?_;refine aU (zs ?_);all_goals(try exact hfg)
     refine bS ?_;refine aU (zs ?_);refine mN [.ret (.tup [.agg [B.id,B.group,B.weight,B.cpu,.lit (.int .u64 B.mask),B.ready,.lit (.int .u64 B.v),.lit (.int .u32 B.r)],false])] ?_;refine dD (zs ?_) (zs ?_);all_goals(try exact hft)
     refine bS ?_;refine aU ⟨λ ht=>zN ?_⟩;refine⟨(i+1,j,acc++[a]),⟨by show i+1<=s.nt;omega,by show j<=d.n4;omega,hst⟩,by simp only;omega,?_⟩;simp only;rw[hSn,cN,(oO:((i+1:Nat):Int)=(i:Int)+1)];refine cQ ?_;apply zN;exact lM (kg+6) (kg+2) (wW (qW (@hi2) (@hj1) (@et') (@ea') (@hlt) (@q1) (@q2) (@q3)))
    have hL:l.length<=10000:=by simp at hll;omega
    have uU:=qW @hi2 @hj1 @et' @ea' @hlt @q1 @q2 @q3;refine cQ ?_;apply zN;have kp:=kpb k kg [0,1,2,3,4,5,6,7,8,9,10,11,12,13,15,17,20,25,43,93,124,149,176,218,233];refine bS ?_;refine aU ⟨λ ht ht=>⟨λ hg=>⟨?_⟩⟩⟩;refine mN [.ret (.tup [.agg [A.id,A.group,A.weight,A.cpu,.lit (.int .u64 A.mask),A.ready,.lit (.int .u64 A.v),.lit (.int .u32 A.r)],false])] ?_;refine aU (zs ?_);all_goals(try exact hfg)
    refine bS ?_;refine aU (zs ?_);refine mN [.ret (.tup [.agg [B.id,B.group,B.weight,B.cpu,.lit (.int .u64 B.mask),B.ready,.lit (.int .u64 B.v),.lit (.int .u32 B.r)],false])] ?_;refine dD (zs ?_) (zs ?_);all_goals(try exact hft)
    refine bS ?_;refine aU ⟨λ ht=>zN ?_⟩;refine⟨(i+1,j,acc++[a]),⟨by show i+1<=s.nt;omega,by show j<=d.n4;omega,hst⟩,by simp only;omega,?_⟩;simp only;rw[hSn,dQ,(oO:((i+1:Nat):Int)=(i:Int)+1)];refine cQ ?_;apply zN;exact lM (kg+6) (kg+2) (wW (qW (@hi2) (@hj1) (@et') (@ea') (@hlt) (@q1) (@q2) (@q3)))
 have q2:¬(j:Int)<(d.n4:Int):=oO
 cases yg with
 |true=>
  cases yt with
  |true=>
   have uU:=xY @hi2 @ea' @q1 @q2 @q3;refine cQ ?_;apply zN;have kp:=kpb k kg [0,1,2,3,4,5,6,7,8,9,10,11,12,13,15,17,20,25,43,93,124,149,176,218,233];refine bS ?_;refine aU ⟨λ ht ht=>⟨λ hg=>⟨?_⟩⟩⟩;refine mN [.ret (.tup [.agg [A.id,A.group,A.weight,A.cpu,.lit (.int .u64 A.mask),A.ready,.lit (.int .u64 A.v),.lit (.int .u32 A.r)],true])] ?_;refine aU (zs ?_);all_goals(try exact hfg)
   refine bS ?_;refine aU (zs ?_);refine mN [.ret (.tup [.agg [B.id,B.group,B.weight,B.cpu,.lit (.int .u64 B.mask),B.ready,.lit (.int .u64 B.v),.lit (.int .u32 B.r)],true])] ?_;refine dD (zs ?_) (zs ?_);all_goals(try exact hft)
   refine bS ?_;refine aU ⟨λ ht=>zN ?_⟩;refine⟨(i+1,j,acc),⟨by show i+1<=s.nt;omega,by show j<=d.n4;omega,tH hm oO (.inl (hig.1 rfl))⟩,by simp only;omega,?_⟩;simp only;rw[<-el,(oO:((i+1:Nat):Int)=(i:Int)+1)];exact fH
  |false=>
   have uU:=xY @hi2 @ea' @q1 @q2 @q3;refine cQ ?_;apply zN;have kp:=kpb k kg [0,1,2,3,4,5,6,7,8,9,10,11,12,13,15,17,20,25,43,93,124,149,176,218,233];refine bS ?_;refine aU ⟨λ ht ht=>⟨λ hg=>⟨?_⟩⟩⟩;refine mN [.ret (.tup [.agg [A.id,A.group,A.weight,A.cpu,.lit (.int .u64 A.mask),A.ready,.lit (.int .u64 A.v),.lit (.int .u32 A.r)],true])] ?_;refine aU (zs ?_);all_goals(try exact hfg)
   refine bS ?_;refine aU (zs ?_);refine mN [.ret (.tup [.agg [B.id,B.group,B.weight,B.cpu,.lit (.int .u64 B.mask),B.ready,.lit (.int .u64 B.v),.lit (.int .u32 B.r)],false])] ?_;refine dD (zs ?_) (zs ?_);all_goals(try exact hft)
   refine bS ?_;refine aU ⟨λ ht=>zN ?_⟩;refine⟨(i+1,j,acc),⟨by show i+1<=s.nt;omega,by show j<=d.n4;omega,tH hm oO (.inl (hig.1 rfl))⟩,by simp only;omega,?_⟩;simp only;rw[<-el,(oO:((i+1:Nat):Int)=(i:Int)+1)];exact fH
 |false=>
  cases yt with
  |true=>
   have uU:=xY @hi2 @ea' @q1 @q2 @q3;refine cQ ?_;apply zN;have kp:=kpb k kg [0,1,2,3,4,5,6,7,8,9,10,11,12,13,15,17,20,25,43,93,124,149,176,218,233];refine bS ?_;refine aU ⟨λ ht ht=>⟨λ hg=>⟨?_⟩⟩⟩;refine mN [.ret (.tup [.agg [A.id,A.group,A.weight,A.cpu,.lit (.int .u64 A.mask),A.ready,.lit (.int .u64 A.v),.lit (.int .u32 A.r)],false])] ?_;refine aU (zs ?_);all_goals(try exact hfg)
   refine bS ?_;refine aU (zs ?_);refine mN [.ret (.tup [.agg [B.id,B.group,B.weight,B.cpu,.lit (.int .u64 B.mask),B.ready,.lit (.int .u64 B.v),.lit (.int .u32 B.r)],true])] ?_;refine dD (zs ?_) (zs ?_);all_goals(try exact hft)
   refine bS ?_;refine aU ⟨λ ht=>zN ?_⟩;refine⟨(i+1,j,acc),⟨by show i+1<=s.nt;omega,by show j<=d.n4;omega,tH hm oO (.inr (hit.1 rfl))⟩,by simp only;omega,?_⟩;simp only;rw[<-el,(oO:((i+1:Nat):Int)=(i:Int)+1)];exact fH
  |false=>
   have hst:=QJ hla htk hm oO hcc (λ h=>by have:=hig.2 h;cases this) (λ h=>by have:=hit.2 h;cases this);rw[atL hi2,<-ea]at hst;rcases l with _|⟨x0,l⟩
   .have hL:True:=trivial;have uU:=xY @hi2 @ea' @q1 @q2 @q3;refine cQ ?_;apply zN;have kp:=kpb k kg [0,1,2,3,4,5,6,7,8,9,10,11,12,13,15,17,20,25,43,93,124,149,176,218,233];refine bS ?_;refine aU ⟨λ ht ht=>⟨λ hg=>⟨?_⟩⟩⟩;refine mN [.ret (.tup [.agg [A.id,A.group,A.weight,A.cpu,.lit (.int .u64 A.mask),A.ready,.lit (.int .u64 A.v),.lit (.int .u32 A.r)],false])] ?_;refine aU (zs ?_);all_goals(try exact hfg)
    refine bS ?_;refine aU (zs ?_);refine mN [.ret (.tup [.agg [B.id,B.group,B.weight,B.cpu,.lit (.int .u64 B.mask),B.ready,.lit (.int .u64 B.v),.lit (.int .u32 B.r)],false])] ?_;refine dD (zs ?_) (zs ?_);all_goals(try exact hft)
    refine bS ?_;refine aU ⟨λ ht=>zN ?_⟩;refine⟨(i+1,j,acc++[a]),⟨by show i+1<=s.nt;omega,by show j<=d.n4;omega,hst⟩,by simp only;omega,?_⟩;simp only;rw[hSn,cN,(oO:((i+1:Nat):Int)=(i:Int)+1)];refine cQ ?_;apply zN;exact lM (kg+6) (kg+2) (wW (xY (@hi2) (@ea') (@q1) (@q2) (@q3)))
   have hL:l.length<=10000:=by simp at hll;omega
   have uU:=xY @hi2 @ea' @q1 @q2 @q3;refine cQ ?_;apply zN;have kp:=kpb k kg [0,1,2,3,4,5,6,7,8,9,10,11,12,13,15,17,20,25,43,93,124,149,176,218,233];refine bS ?_;refine aU ⟨λ ht ht=>⟨λ hg=>⟨?_⟩⟩⟩;refine mN [.ret (.tup [.agg [A.id,A.group,A.weight,A.cpu,.lit (.int .u64 A.mask),A.ready,.lit (.int .u64 A.v),.lit (.int .u32 A.r)],false])] ?_;refine aU (zs ?_);all_goals(try exact hfg)
   refine bS ?_;refine aU (zs ?_);refine mN [.ret (.tup [.agg [B.id,B.group,B.weight,B.cpu,.lit (.int .u64 B.mask),B.ready,.lit (.int .u64 B.v),.lit (.int .u32 B.r)],false])] ?_;refine dD (zs ?_) (zs ?_);all_goals(try exact hft)
   refine bS ?_;refine aU ⟨λ ht=>zN ?_⟩;refine⟨(i+1,j,acc++[a]),⟨by show i+1<=s.nt;omega,by show j<=d.n4;omega,hst⟩,by simp only;omega,?_⟩;simp only;rw[hSn,dQ,(oO:((i+1:Nat):Int)=(i:Int)+1)];refine cQ ?_;apply zN;exact lM (kg+6) (kg+2) (wW (xY (@hi2) (@ea') (@q1) (@q2) (@q3)))
attribute [local go_sem] tJ tE tR
theorem aUD(s:St)(d:DE)(n:Nat)(k kg:Nat)(hkg:k+(6+s.ns)<=kg)(WT:Nat->Int)(CF UF:Nat->List AVal)(SR:Nat->List (List AVal))(Q:AQ)(hkg2:kg=k+(6+s.ns))(hd:d.size<=1000)
 (hrest:AM.W aA Γ 236 k (fR (dZ Tryz.f45) [1,1,1,1,1,1,1,1,1,1,1]) Q (kg+3) [(10,.ptr kg 0 0),(12,(0:Int)),(13,(0:Int)),(2,.rp s.cells),(3,.rp d.cells),(4,.ptr (k+2) 0 0),(5,(0:Int)),(6,.ptr (k+3) 0 0)] ((k+3,⟨7,false,[[s.cpus,.lit (.int .u64 s.credit),.sl (k+4) 0 s.ng,.rd 1 n CF,.rd 1 n UF,bV (kg+2) (([]:List Tk).map tR),.sl (k+5) 0 s.ns]]⟩)::cA (kg+2) 8 (([]:List Tk).map tR) ((k+4,⟨2,true,gN s.ng s.par WT⟩)::(k+5,⟨1,false,zX (k+6) n s.ns⟩)::(k+2,⟨7,true,[[(0:Int),.lit (.int .u64 0),(),(),(),(),()]]⟩)::(kg,⟨7,true,[[(0:Int),.lit (.int .u64 0),(),(),(),.rd 8 d.n3 (λ j=>tR (GV d j)),()]]⟩)::mK (k+6) 3 s.ns SR))):
 AM.W aA Γ 236 k (fR (dZ Tryz.f45) [1,1,1,1,1,1,1,1]) Q (kg) [(2,.rp s.cells),(3,.rp d.cells),(4,.ptr (k+2) 0 0),(5,(0:Int)),(6,.ptr (k+3) 0 0)] ((k+3,⟨7,false,[[s.cpus,.lit (.int .u64 s.credit),.sl (k+4) 0 s.ng,.rd 1 n CF,.rd 1 n UF,(),.sl (k+5) 0 s.ns]]⟩)::(k+4,⟨2,true,gN s.ng s.par WT⟩)::(k+5,⟨1,false,zX (k+6) n s.ns⟩)::(k+2,⟨7,true,[[(0:Int),.lit (.int .u64 0),(),(),(),(),()]]⟩)::mK (k+6) 3 s.ns SR):=by
 unfold DE.size at hd;have kp:=kpb k kg [0,1,2,3,4,5,6,7,8,9,10,11,12,13,15,17,20,25,43,93,124,149,176,218,233];refine bS ?_;refine aU (zs ?_);refine bE (X:=Nat) rfl [0,1,2,3,4,5,6,7,8,9,10,11,12,13,15,17,20,25,43,93,124,149,176,218,233] (kg+2) (λ i=>[(11,i),(10,.ptr kg 0 0)]) (λ i=>(kg,⟨7,false,[[(0:Int),.lit (.int .u64 0),(),(),(),bV (kg+1) ((pre (GV d) i).map tR),()]]⟩)::cA (kg+1) 8 ((pre (GV d) i).map tR) ((k+3,⟨7,false,[[s.cpus,.lit (.int .u64 s.credit),.sl (k+4) 0 s.ng,.rd 1 n CF,.rd 1 n UF,(),.sl (k+5) 0 s.ns]]⟩)::(k+4,⟨2,true,gN s.ng s.par WT⟩)::(k+5,⟨1,false,zX (k+6) n s.ns⟩)::(k+2,⟨7,true,[[(0:Int),.lit (.int .u64 0),(),(),(),(),()]]⟩)::mK (k+6) 3 s.ns SR)) (λ i=>i<=d.n3) (λ i=>d.n3-i) 0 ?_ (aJ _) ?_;.rw[show pre (GV d) 0=[]from rfl,aV];refine Mv.trans (sE kg (by simp-dsimp-implicitDefEqProofs (disch:=omega)only[go_sem,iN,eq_self,↓reduceIte];rfl)) ?_;refine Mv.trans (FP (k2:=kg+2) oO) ?_;refine cQ ?_;apply zN;exact fH
 intro i hi;obtain⟨l,el⟩:∃l,l=(pre (GV d) i).map tR:=⟨_,rfl⟩;have hll:l.length<=10000:=by rw[el,bP,sR];omega
 have hSn:(pre (GV d) (i+1)).map tR=l++[tR (GV d i)]:=by rw[wX,aH,<-el];rfl
 rw[<-el];by_cases hlt:i<d.n3
 .have q1:(i:Int)<(d.n3:Int):=oO;rcases l with _|⟨x0,l⟩
  .skip
   have uU:=zA @hlt @q1;refine cQ ?_;apply zN;refine bS ?_;refine aU ⟨λ ht=>zN ?_⟩;refine⟨i+1,oO,oO,?_⟩;rw[hSn,cN,GV,(oO:((i+1:Nat):Int)=(i:Int)+1)];refine cQ ?_;apply zN;exact lM (kg+3) (kg+1) (wW (And.intro (@hlt) (@q1)))
  have hL:l.length<=10000:=by simp at hll;omega
  have uU:=zA @hlt @q1;refine cQ ?_;apply zN;refine bS ?_;refine aU ⟨λ ht=>zN ?_⟩;refine⟨i+1,oO,oO,?_⟩;rw[hSn,dQ,GV,(oO:((i+1:Nat):Int)=(i:Int)+1)];refine cQ ?_;apply zN;exact lM (kg+3) (kg+1) (wW (And.intro (@hlt) (@q1)))
 have q1:¬(i:Int)<(d.n3:Int):=oO;have hin:i=d.n3:=oO;have hnl:l.length=d.n3:=by rw[el,bP,sR,hin]
 have hvl:VLe (rows 8 l) (.rd 8 d.n3 (λ j=>tR (GV d j))):=by rw[rows,hnl];refine VLe.rd λ j hj=>?_;rw[el,hin];simp[pre,bD,hj]
 have uU:= @q1;refine cQ ?_;apply zN;refine bY rfl ?_;refine bY rfl ?_;(refine gL rfl [0,1,2,3,4,5,6,7,8,9,10,11,12,13,15,17,20,25,43,93,124,149,176,218,233] rfl rfl (λ K hK=>?_));simp-dsimp-implicitDefEqProofs (disch:=omega)only[go_sem,iN,q1,eq_self,↓reduceIte];(refine hK _ _ _ _ (λ hx=>?_));clear hx hK;simp-dsimp-implicitDefEqProofs (disch:=omega)only[go_sem,iN,q1,eq_self,↓reduceIte];clear K;refine gA rfl _ rfl (λ ht=>?_) (λ ht=>?_);.first|(cases ht;done)|exact absurd (of_decide_eq_true ht) oO|simp at ht
 refine jU rfl ?_;refine cQ ?_;apply zN;have hz1:VLes [(0:Int),.lit (.int .u64 0),(),(),(),rows 8 l,()] [(0:Int),.lit (.int .u64 0),(),(),(),.rd 8 d.n3 (λ j=>tR (GV d j)),()]:= .cons (aK _) (.cons (aK _) (.cons (aK _) (.cons (aK _) (.cons (aK _) (.cons hvl (.cons (aK _) .nil))))));have hfz:∀B:Blk,(zX (k+6) n s.ns).map (λ row=>row.map (jE (kg+1) B))=zX (k+6) n s.ns:=λ B=>aFQ (.inr oO);have hTV:∀id:Nat,bV id (([]:List Tk).map tR)= .lit (.slice none 0 0):=λ _=>rfl;have hTH:∀(id:Nat) (H:aS),cA id 8 (([]:List Tk).map tR) H=H:=λ _ _=>rfl;rcases l with _|⟨x0,l⟩
 .have hz2:VLes [(0:Int),.lit (.int .u64 0),(),(),(),(),()] [(0:Int),.lit (.int .u64 0),(),(),(),.rd 8 d.n3 (λ j=>tR (GV d j)),()]:=by refine .cons (aK _) (.cons (aK _) (.cons (aK _) (.cons (aK _) (.cons (aK _) (.cons ?_ (.cons (aK _) .nil))))));rw[<-hnl];exact kO
  have uU:=zA @hTV @hTH;refine cQ ?_;apply zN;refine dI (Mv.row kg (l:=[]) [(0:Int),.lit (.int .u64 0),(),(),(),.rd 8 d.n3 (λ j=>tR (GV d j)),()] (by simp(disch:=omega)only[AM.look,iN,↓reduceIte,cN];rfl) hz2 rfl) ?_;refine cQ ?_;apply zN;refine bY rfl ?_;(refine gL rfl [0,1,2,3,4,5,6,7,8,9,10,11,12,13,15,17,20,25,43,93,124,149,176,218,233] rfl rfl (λ K hK=>?_));simp-dsimp-implicitDefEqProofs (disch:=omega)only[go_sem,iN,hTV,hTH,eq_self,↓reduceIte];(refine hK _ _ _ _ (λ hx=>?_));clear hx hK;simp-dsimp-implicitDefEqProofs (disch:=omega)only[go_sem,iN,hTV,hTH,eq_self,↓reduceIte];clear K;refine dI ?_ hrest;rw[aV];exact fH
 skip
 have uU:=AW @hTV @hTH @hfz;refine cQ ?_;apply zN;refine dI (dJ (kg+1) (B:=⟨8,true,x0::l⟩) (by simp(disch:=omega)only[AM.look,iN,↓reduceIte]) rfl) ?_;simp-dsimp-implicitDefEqProofs only[kX,fE,go_sem,hTV,hTH,hfz,eq_self,↓reduceIte];refine dI (Mv.row kg (l:=[]) [(0:Int),.lit (.int .u64 0),(),(),(),.rd 8 d.n3 (λ j=>tR (GV d j)),()] (by simp(disch:=omega)only[AM.look,iN,↓reduceIte,cN];rfl) hz1 rfl) ?_;refine cQ ?_;apply zN;refine bY rfl ?_;(refine gL rfl [0,1,2,3,4,5,6,7,8,9,10,11,12,13,15,17,20,25,43,93,124,149,176,218,233] rfl rfl (λ K hK=>?_));simp-dsimp-implicitDefEqProofs (disch:=omega)only[go_sem,iN,hTV,hTH,hfz,eq_self,↓reduceIte];(refine hK _ _ _ _ (λ hx=>?_));clear hx hK;simp-dsimp-implicitDefEqProofs (disch:=omega)only[go_sem,iN,hTV,hTH,hfz,eq_self,↓reduceIte];clear K;refine dI ?_ hrest;rw[aV];exact fH
attribute [local go_sem] tJ tE tR
theorem a0F(s:St)(d:DE)(n:Nat)(k kg:Nat)(hkg:k+(6+s.ns)<=kg)(t:St)(m:List Tk)(hnk:t.nk=n)(hnu:t.nu=n)(hsp:∀g,g<t.ns->t.nsp g=n)(htl:mP t=m)(ec:t.cpus=s.cpus)(er:t.credit=s.credit)(eg:t.ng=s.ng)(ep:t.par=s.par)(en:t.ns=s.ns)
 (z:Bool) (hR:∀Γ',AM.Pure aA Γ' 105 [.agg t.cells] z):
 AM.W aA Γ 236 k (fR (dZ Tryz.f45) [1,1,1,1,1,1,1,1,1,1,1,1]) (yD aA Tryz.f45 (λ _ r1 H1=>Bor Γ H1 r1 (.tup [.agg (if z=true then t else zSt).cells,(if z=true then 0 else 352:Int)]))) (kg+3) [(2,.rp s.cells),(3,.rp d.cells),(4,.ptr (k+2) 0 0),(5,(0:Int)),(6,.ptr (k+3) 0 0)] ((k+3,⟨7,false,[[s.cpus,.lit (.int .u64 s.credit),.sl (k+4) 0 s.ng,.rd 1 n (kf t),.rd 1 n (uf t),bV (kg+2) (m.map tR),.sl (k+5) 0 s.ns]]⟩)::cA (kg+2) 8 (m.map tR) ((k+4,⟨2,true,gN s.ng s.par t.wt⟩)::(k+5,⟨1,false,zX (k+6) n s.ns⟩)::(k+2,⟨7,true,[[(0:Int),.lit (.int .u64 0),(),(),(),(),()]]⟩)::(kg,⟨7,true,[[(0:Int),.lit (.int .u64 0),(),(),(),.rd 8 d.n3 (λ j=>tR (GV d j)),()]]⟩)::mK (k+6) 3 s.ns (λ g=>kI n (t.sp g)))):=by
 refine dI (k:=kg+3) (k1:=kg+3) (fr1:=[(2,.rp s.cells),(3,.rp d.cells),(4,.ptr (k+2) 0 0),(5,.lit (.int .i64 0)),(6,.ptr (k+3) 0 0)]) (H1:=(k+3,⟨7,false,[[s.cpus,.lit (.int .u64 s.credit),.sl (k+4) 0 s.ng,.rd 1 n (kf t),.rd 1 n (uf t),bV (kg+2) (m.map tR),.sl (k+5) 0 s.ns]]⟩)::(k+2,⟨7,true,[[(0:Int),.lit (.int .u64 0),(),(),(),(),()]]⟩)::cA (kg+2) 8 (m.map tR) ((k+4,⟨2,true,gN s.ng s.par t.wt⟩)::(k+5,⟨1,false,zX (k+6) n s.ns⟩)::(kg,⟨7,true,[[(0:Int),.lit (.int .u64 0),(),(),(),.rd 8 d.n3 (λ j=>tR (GV d j)),()]]⟩)::mK (k+6) 3 s.ns (λ g=>kI n (t.sp g)))) ?_ ?_;.generalize m.map tR=l;exact fH
 obtain⟨HH,eHH⟩:∃h:aS,h=cA (kg+2) 8 (m.map tR) ((k+4,⟨2,true,gN s.ng s.par t.wt⟩)::(k+5,⟨1,false,zX (k+6) n s.ns⟩)::(kg,⟨7,true,[[.lit (.int .i64 0),.lit (.int .u64 0),.lit (.slice none 0 0),.lit (.slice none 0 0),.lit (.slice none 0 0),.rd 8 d.n3 (λ j=>tR (GV d j)),.lit (.slice none 0 0)]]⟩)::mK (k+6) 3 s.ns (λ g=>kI n (t.sp g))):=⟨_,rfl⟩;obtain⟨CE,eCE⟩:∃c:List AVal,c=[.lit (.int .i64 s.cpus),.lit (.int .u64 s.credit),.sl (k+4) 0 s.ng,.rd 1 n (kf t),.rd 1 n (uf t),bV (kg+2) (m.map tR),.sl (k+5) 0 s.ns]:=⟨_,rfl⟩;have hlt:m.length=t.nt:=by rw[<-htl,a2N]
 have look1:∀q,q<kg+2->AM.look HH q=AM.look ((k+4,⟨2,true,gN s.ng s.par t.wt⟩)::(k+5,⟨1,false,zX (k+6) n s.ns⟩)::(kg,⟨7,true,[[(0:Int),.lit (.int .u64 0),(),(),(),.rd 8 d.n3 (λ j=>tR (GV d j)),()]]⟩)::mK (k+6) 3 s.ns (λ g=>kI n (t.sp g)):aS) q:=λ q hq=>by
  rw[eHH]
  cases m with
  |nil=>rfl
  |cons x r=>simp only[bG,BX,AM.look];rw[if_neg oO]
 have hCE:∀Γ' (H0:aS),(∀q,q≠k+3->q≠k+2->AM.look H0 q=AM.look HH q)->∀(j:Nat) v v',CE[j]? =some v->t.cells[j]? =some v'->Bor Γ' H0 v v':=λ Γ' H0 hH0=>by
  have b2:Bor Γ' H0 (.sl (k+4) 0 s.ng) (.rd 2 t.ng (gf t)):=by rw[eg];exact wG (B:=⟨2,true,gN s.ng s.par t.wt⟩) (by rw[hH0 _ oO oO,look1 _ oO];simp only[AM.look];repeat(first|rw[if_neg oO]|rw[if_pos trivial])) (by rw[nU];exact aF _) (λ i _=>rfl) λ i hi=>⟨_,wT hi,by unfold gf;rw[ep];exact qF rfl⟩
  have b5:Bor Γ' H0 (bV (kg+2) (m.map tR)) (.rd 8 t.nt (tf t)):=by
   rw[<-hlt]
   cases hm:m with
   |nil=>exact Bor.le (oY (v:= .lit (.slice none 0 0)) rfl) kO
   |cons x r=>
    have e:m.map tR=tR x::r.map tR:=by rw[hm];rfl
    rw[bG,BW,bP];refine wG (n:=r.length+1) (B:=⟨8,true,m.map tR⟩) (by rw[hH0 _ oO oO,eHH,e,BX];simp only[AM.look];repeat(first|rw[if_neg oO]|rw[if_pos trivial])) (by rw[e];simp) (λ i _=>rfl) λ i hi=>⟨tf t i,?_,qF rfl⟩;rw[<-htl];exact aNB (by rw[<-hlt,hm];exact hi)
  have b6:Bor Γ' H0 (.sl (k+5) 0 s.ns) (.rd 1 t.ns (VU t)):=by
   rw[en];refine wG (B:=⟨1,false,zX (k+6) n s.ns⟩) (by rw[hH0 _ oO oO,look1 _ oO];simp only[AM.look];repeat(first|rw[if_neg oO]|rw[if_pos trivial])) (by rw[JI];exact aF _) (λ i _=>rfl) λ i hi=>⟨_,aPE hi,λ j v v' h1 h2=>?_⟩
   match j with
   | 0=>
     simp only[iX,mB.injEq,VU]at h1 h2
     subst h1;subst h2
     rw[hsp i oO]
     refine wG (B:=⟨3,true,kI n (t.sp i)⟩) ?_ (by rw[nT];exact aF _) (λ c _=>rfl) λ c hc=>⟨_,tV hc,qF rfl⟩
     rw[hH0 _ oO oO,look1 _ oO]
     simp only[AM.look]
     repeat rw[if_neg oO]
     exact uB hi
   |j+1=>simp[VU]at h1
  intro j v v' h1 h2;rw[eCE]at h1
  match j with
  |0=>cases h1;cases h2;rw[ec];exact Bor.lit
  |1=>cases h1;cases h2;rw[er];exact Bor.lit
  |2=>cases h1;cases h2;exact b2
  |3=>cases h1;cases h2;rw[hnk];exact oY rfl
  |4=>cases h1;cases h2;rw[hnu];exact oY rfl
  |5=>cases h1;cases h2;exact b5
  |6=>cases h1;cases h2;exact b6
  |j+7=>simp at h1
 have hCl:CE.length=7:=by rw[eCE];rfl
 have hC1:CE.all AM.one=true:=by rw[eCE];cases m<;>rfl
 have hCt:CE.take 7=CE:=by rw[eCE];rfl
 obtain⟨cb,ecb⟩:∃b,b=CE.all clean:=⟨_,rfl⟩;have ecb':=ecb.symm;rw[<-eCE,<-eHH];refine bY rfl ?_;refine aUR 1 ⟨rfl,trivial⟩ (Z:=Unit) (λ _=>True) 6 (k+3) t.cells (λ φ=>[(2,.rp s.cells),(3,.rp d.cells),(4,.lit (φ 4)),(5,(0:Int)),(6,.lit (φ 6))]) (λ _=>[(233,(!z)),(4,.ptr (k+2) 0 0),(5,(0:Int)),(6,.ptr (k+3) 0 0)]) (λ _ φ=>[(233,(!z)),(4,.lit (φ 4)),(5,(0:Int)),(6,.lit (φ 6))]) rfl ?_ ?_ ?_ ?_ ?_ ?_;.simp only[AM.look];rfl
 .exact Bor.ptr (B:=⟨7,false,[CE]⟩) (row:=CE) (by simp only[AM.look];rfl) rfl (by rw[hCl];rfl) (hCE _ _ λ q h1 h2=>by simp only[AM.look];rw[if_neg (Ne.symm h1),if_neg (Ne.symm h2)])
 .intro φ t' v' h;simp only[AM.look]at h;repeat' split at h
  .rename_i e;subst e;cases h;exact .inl ⟨_,rfl,oY rfl⟩
  .rename_i e;subst e;cases h;exact .inl ⟨_,rfl,oY rfl⟩
  .rename_i e;subst e;cases h;exact .inr rfl
  .rename_i e;subst e;cases h;exact .inl ⟨_,rfl,oY rfl⟩
  .rename_i e;subst e;cases h;exact .inr rfl
  cases h
 .intro z' φ t' v' h;simp only[AM.look]at h;repeat' split at h
  .rename_i e;subst e;cases h;exact⟨_,rfl,.inl ⟨rfl,rfl⟩⟩
  .rename_i e;subst e;cases h;exact⟨_,rfl,.inr ⟨rfl,rfl⟩⟩
  .rename_i e;subst e;cases h;exact⟨_,rfl,.inl ⟨rfl,rfl⟩⟩
  .rename_i e;subst e;cases h;exact⟨_,rfl,.inr ⟨rfl,rfl⟩⟩
  cases h
 .intro φ B0 x hφ;have hR:=hR ((B0,t.cells++eI x .junk)::Γ);simp only[hφ];refine a5M ?_;have kp:=fI k [0,1,2,3,4,5,6,7,8,9,10,11,12,13,15,17,20,25,43,93,124,149,176,218,233];refine lU [.raw (some 231) ⟨.agg t.cells,kg+3,[],[]⟩,.ret z] ?_;refine wM (zs ?_) (zs ?_) (zs ?_);.exact MK rfl rfl (by simp only[AM.look];rfl) rfl
  all_goals(try exact hR)
  refine a5N ⟨(),kg+3,?_⟩;exact fH
 intro _ _
 cases z with
 |false=>have kp:=fI k [0,1,2,3,4,5,6,7,8,9,10,11,12,13,15,17,20,25,43,93,124,149,176,218,233];refine bS ?_;refine aU ⟨λ ht=>zN ?_⟩;refine aX rfl ?_;refine cQ ?_;apply zN;refine⟨_,rfl,?_⟩;exact Bor.le aTP KC
 |true=>
  have kp:=fI k [0,1,2,3,4,5,6,7,8,9,10,11,12,13,15,17,20,25,43,93,124,149,176,218,233];have uU:=DP @hCl @hC1 @hCt @ecb';refine bS ?_;refine aU ⟨λ ht=>zN ?_⟩;refine aX rfl ?_;refine cQ ?_;apply zN;refine⟨_,rfl,?_⟩;refine Bor.tup rfl λ j v v' h1 h2=>?_
  match j with
  | 0=>
    cases h1;cases h2
    refine Bor.agg (by rw[hCl];rfl) (hCE _ _ λ q h1 h2=>?_)
    simp only[AM.look]
    rw[if_neg (Ne.symm h1),if_neg (Ne.symm h2)]
  |1=>cases h1;cases h2;exact Bor.lit
  |j+2=>simp at h1
attribute [local go_sem] tJ tE tR
def oV(b:Nat):Nat->AVal
 |0=> .lit (.slice none 0 0)
 |i+1=> .sl b 0 (i+1)
def oHh(b c n:Nat):Nat->aS->aS
 |0,H=>H
 |i+1,H=>(b,⟨1,false,zX c n (i+1)⟩)::H
theorem lmA{l m:List (List AVal)}{f:List AVal->List AVal}:(l++m).map f=l.map f++m.map f:=aH
theorem aBE(i:Nat)(f g:Nat->Int):gN (i+1) f g=gN i f g++[[.lit (.int .i64 (f i)),.lit (.int .i64 (g i))]]:=by simp[gN,CI]
theorem aUC(s:St)(d:DE)(n:Nat)(hd:d.size<=1000)(hn:0<n)(hn2:n<=64)(e1:s.nk=n)(e2:s.nu=n)(e3:∀g,g<s.ns->s.nsp g=n)(h1:0<s.ng)(h2:s.ng<=256)(h3:s.ns=s.ng)(hf:FitD s (lI d))
 (hright:AM.Pure aA Γ 105 [.agg s.cells] true) (hfits:AM.Pure aA Γ 106 [.agg s.cells,.agg d.cells] true) (k:Nat) (POST:Nat->AVal->aS->Prop) (WT:Nat->Int) (CF UF:Nat->List AVal) (eWT:WT=pT s.ng s.wt (pre d.wg d.n2)) (eCF:CF=λ i=>[.lit (.int .i64 (pT n s.clk (pre d.ck d.n0) i))]) (eUF:UF=λ i=>[.lit (.int .i64 (pT n s.cur (pre d.cu d.n1) i))])
 (hrest:AM.W aA Γ 236 k (fR (dZ Tryz.f45) [1,1,1,1,1,1,1,1]) (yD aA Tryz.f45 POST) (k+(6+s.ns)) [(2,.rp s.cells),(3,.rp d.cells),(4,.ptr (k+2) 0 0),(5,(0:Int)),(6,.ptr (k+3) 0 0)] ((k+3,⟨7,false,[[s.cpus,.lit (.int .u64 s.credit),.sl (k+4) 0 s.ng,.rd 1 n CF,.rd 1 n UF,(),.sl (k+5) 0 s.ns]]⟩)::(k+4,⟨2,true,gN s.ng s.par WT⟩)::(k+5,⟨1,false,zX (k+6) n s.ns⟩)::(k+2,⟨7,true,[[(0:Int),.lit (.int .u64 0),(),(),(),(),()]]⟩)::mK (k+6) 3 s.ns (λ g=>kI n (mkS s d n d.n5 g)))):
 AM.Tr aA Γ 45 k [.agg s.cells,.agg d.cells] [] POST:=by
 unfold DE.size at hd;obtain⟨f0,f1,f2,_,_,f5⟩:=fitD_iff.1 hf;have cw:=PP (Γ:=Γ) s oO;have cW:AM.Pure aA Γ 107 [.rd 1 s.ng (λ i=>[(s.wt i)]),.rd 2 d.n2 d.f2] (.rd 1 s.ng (λ i=>[(WT i)])):=by rw[eWT];exact aAK s.ng s.wt d.n2 d.wg h1 oO oO λ i hi=>⟨(f2 i hi).1,(f2 i hi).2.1⟩
 have cC:AM.Pure aA Γ 107 [.rd 1 s.nk (kf s),.rd 2 d.n0 d.f0] (.rd 1 n CF):=by rw[eCF,e1];exact aAK n s.clk d.n0 d.ck hn oO oO λ i hi=>⟨(f0 i hi).1,by rw[<-e1];exact(f0 i hi).2.1⟩
 have cU:AM.Pure aA Γ 107 [.rd 1 s.nu (uf s),.rd 2 d.n1 d.f1] (.rd 1 n UF):=by rw[eUF,e2];exact aAK n s.cur d.n1 d.cu hn oO oO λ i hi=>⟨(f1 i hi).1,by rw[<-e1];exact(f1 i hi).2.1⟩
 obtain⟨WF,eWF⟩:∃f:Nat->List AVal,f=λ i=>[.lit (.int .i64 (s.wt i))]:=⟨_,rfl⟩;obtain⟨WG,eWG⟩:∃f:Nat->List AVal,f=λ i=>[.lit (.int .i64 (WT i))]:=⟨_,rfl⟩;rw[<-eWF]at cw cW;rw[<-eWG]at cW;have hWG:∀i,WG i=[.lit (.int .i64 (WT i))]:=λ i=>by rw[eWG]
 clear eWT eCF eUF eWF eWG;obtain⟨kg,ekg⟩:∃x,x=k+(6+s.ns):=⟨_,rfl⟩;rw[<-ekg]at hrest;obtain⟨SR0,eSR⟩:∃S:Nat->List (List AVal),S=λ g=>kI n (s.sp g):=⟨_,rfl⟩;have hSR:∀g,(aM n).map (sf s g)=SR0 g:=λ g=>by rw[eSR];rfl
 have hSl:∀g,(SR0 g).length=n:=λ g=>by rw[eSR];exact nT _ _
 have hS1:∀g,((SR0 g).all λ row=>row.all AM.one)=true:=λ g=>by rw[<-hSR];exact pM _ _ λ _=>rfl
 have hn0:¬n=0:=oO;refine iD Tryz.func45 rfl 236 rfl bB ?_;refine bY rfl ?_;(refine gL rfl [0,1,2,3,4,5,6,7,8,9,10,11,12,13,15,17,20,25,43,93,124,149,176,218,233] rfl rfl (λ K hK=>?_));simp-dsimp-implicitDefEqProofs (disch:=omega)only[go_sem,iN,eq_self,↓reduceIte];(refine hK _ _ _ _ (λ hx=>?_));clear hx hK;simp-dsimp-implicitDefEqProofs (disch:=omega)only[go_sem,iN,eq_self,↓reduceIte];clear K;refine dI (dJ (k) (by simp-dsimp-implicitDefEqProofs (disch:=omega)only[go_sem,iN,eq_self,↓reduceIte];rfl) rfl) ?_;simp-dsimp-implicitDefEqProofs only[kX,fE,go_sem,eq_self,↓reduceIte];refine dI (dJ (k+1) (by simp-dsimp-implicitDefEqProofs (disch:=omega)only[go_sem,iN,eq_self,↓reduceIte];rfl) rfl) ?_;simp-dsimp-implicitDefEqProofs only[kX,fE,go_sem,eq_self,↓reduceIte];have kp:=kpb k kg [0,1,2,3,4,5,6,7,8,9,10,11,12,13,15,17,20,25,43,93,124,149,176,218,233];refine bS ?_;refine aU (zs ?_);refine lU [.ret true] ?_;refine dD (zs ?_) (zs ?_);all_goals(try exact hright)
 refine bS ?_;refine aU ⟨λ ht=>zN ?_⟩;refine lU [.ret true] ?_;refine dD (zs ?_) (zs ?_);all_goals(try exact hfits)
 refine bS ?_;refine aU ⟨λ ht=>zN ?_⟩;refine mN [.ret (.rd 1 s.ng WF),.ret (.rd 1 s.ng WG)] ?_;refine dD (zs ?_) (zs ?_);all_goals(try(first|exact cw|exact cW))
 refine bS ?_;refine aU (zs ?_);refine bE (X:=Nat) rfl [0,1,2,3,4,5,6,7,8,9,10,11,12,13,15,17,20,25,43,93,124,149,176,218,233] kg (λ i=>[(8,i)]) (λ i=>(k+3,⟨7,false,[[s.cpus,.lit (.int .u64 s.credit),bV (k+4) (gN i s.par WT),(),(),(),oV (k+5) i]]⟩)::cA (k+4) 2 (gN i s.par WT) (oHh (k+5) (k+6) n i ((k+2,⟨7,true,[[(0:Int),.lit (.int .u64 0),(),(),(),(),()]]⟩)::mK (k+6) 3 i SR0))) (λ i=>i<=s.ng) (λ i=>s.ng-i) 0 ?_ (aJ _) ?_;.rw[show gN 0 s.par WT=[]from rfl,show oV (k+5) 0= .lit (.slice none 0 0)from rfl];simp only[oHh];refine Mv.trans (sE (k+3) (by simp-dsimp-implicitDefEqProofs (disch:=omega)only[go_sem,iN,eq_self,↓reduceIte];rfl)) ?_;refine Mv.trans (FP (k2:=kg) oO) ?_;refine cQ ?_;apply zN;exact fH
 intro i hi;by_cases hlt:i<s.ng
 .have hlt2:(i:Int)<(s.ng:Int):=oO;have hsi:i<s.ns:=oO;have hpi:=e3 i hsi;have hsr:=hSR i;have hsl:=hSl i;have hs1:=hS1 i;have hwi:=hWG i;have hGl:(gN i s.par WT).length=i:=nU _ _ _;have hGs:=aBE i s.par WT;obtain⟨G,eG⟩:∃G,G=gN i s.par WT:=⟨_,rfl⟩;rw[<-eG]at hGl hGs⊢
  rcases jJ i with hi0|hi0;.subst hi0;have hG0:G=[]:=fL hGl;subst hG0;rw[show oV (k+5) 0= .lit (.slice none 0 0)from rfl];simp only[oHh];have c0:((0:Nat):Int)=0:=rfl;have uU:=eQ @hlt @hlt2 @hsi @hpi @hsr @hsl @hs1 @hwi (zA @hn0 @hn);refine cQ ?_;apply zN;refine bS ?_;refine aU ⟨λ ht=>zN ?_⟩;refine⟨0+1,oO,oO,?_⟩;rw[hGs,cN,show oV (k+5) (0+1)= .sl (k+5) 0 (0+1)from rfl];simp only[oHh];rw[XD,show zX (k+6) n 0=[]from rfl,cN];refine Mv.trans (iT (kg+1) (k+4) ⟨oO,oO⟩ ⟨oO,oO⟩) ?_;refine Mv.trans (iT (kg+5) (k+5) ⟨oO,oO⟩ ⟨oO,oO⟩) ?_;refine Mv.trans (iT (kg+3) (k+6) ⟨oO,oO⟩ ⟨oO,oO⟩) ?_;have uU:=zA @pP @MS;refine cQ ?_;apply zN;exact fH
  have eov:oV (k+5) i= .sl (k+5) 0 i:=by obtain⟨j,rfl⟩:∃j,i=j+1:=⟨i-1,oO⟩;rfl
  have eoh:∀H,oHh (k+5) (k+6) n i H=(k+5,⟨1,false,zX (k+6) n i⟩)::H:=λ H=>by obtain⟨j,rfl⟩:∃j,i=j+1:=⟨i-1,oO⟩;rfl
  rcases G with _|⟨g0,G⟩;.simp at hGl;omega
  have hGl2:G.length+1=i:=by simpa using hGl
  rw[eov,eoh];have hOl:=JI (k+6) n i;have hOs:=XD (k+6) n i;have w1:=TB (a:=kg+1) (b:=k+4) (c:=k+6) (n:=n) (i:=i) (.inr oO) (.inl oO);have w2:=TB (a:=kg+5) (b:=k+5) (c:=k+6) (n:=n) (i:=i) (.inr oO) (.inl oO);have w3:=TB (a:=kg+3) (b:=k+(6+i)) (c:=k+6) (n:=n) (i:=i) (.inr oO) (.inr oO);obtain⟨OU,eOU⟩:∃O,O=zX (k+6) n i:=⟨_,rfl⟩;rw[<-eOU]at hOl hOs w1 w2 w3⊢
  have uU:=eQ @hlt @hlt2 @hsi @hpi @hsr @hsl @hs1 @hwi (DP @hn0 @hn @hGl2 @hOl);refine cQ ?_;apply zN;refine bS ?_;refine aU ⟨λ ht=>zN ?_⟩;refine⟨i+1,oO,oO,?_⟩;rw[hGs,dQ,show oV (k+5) (i+1)= .sl (k+5) 0 (i+1)from rfl];simp only[oHh];rw[hOs,(oO:((i+1:Nat):Int)=(i:Int)+1)];refine Mv.trans (iT (kg+1) (k+4) ⟨oO,oO⟩ ⟨oO,oO⟩) ?_;refine Mv.trans (iT (kg+5) (k+5) ⟨oO,oO⟩ ⟨oO,oO⟩) ?_;refine Mv.trans (iT (kg+3) (k+(6+i)) ⟨oO,oO⟩ ⟨oO,oO⟩) ?_;have uU:=qQ @lmA @w1 @w2 @w3 @pP @hGl2;refine cQ ?_;apply zN;rw[eOU];exact fH
 have hin:i=s.ng:=oO;subst hin;obtain⟨j,ej⟩:∃j,s.ng=j+1:=⟨s.ng-1,oO⟩;have hGl:(gN s.ng s.par WT).length=s.ng:=nU _ _ _;have eov:oV (k+5) s.ng= .sl (k+5) 0 s.ns:=by rw[h3,ej];rfl
 have eoh:∀H,oHh (k+5) (k+6) n s.ng H=(k+5,⟨1,false,zX (k+6) n s.ns⟩)::H:=λ H=>by rw[h3,ej];rfl
 have hav:bV (k+4) (gN s.ng s.par WT)= .sl (k+4) 0 s.ng:=by
  generalize gN s.ng s.par WT=G at hGl
  cases G with
  |nil=>simp at hGl;omega
  |cons x r=>rw[BW,<-hGl];rfl
 have hah:∀H,cA (k+4) 2 (gN s.ng s.par WT) H=(k+4,⟨2,true,gN s.ng s.par WT⟩)::H:=λ H=>by
  generalize gN s.ng s.par WT=G at hGl
  cases G with
  |nil=>simp at hGl;omega
  |cons x r=>rfl
 rw[eov,eoh,hav,hah];rw[show mK (k+6) 3 s.ng SR0=mK (k+6) 3 s.ns SR0 by rw[h3]];clear eov eoh hav hah;have hnlt:¬(s.ng:Int)<(s.ng:Int):=oO;have uU:= @hnlt;refine cQ ?_;apply zN;refine bS ?_;refine aU ⟨λ ht=>zN ?_⟩;refine mN [.ret (.rd 1 n CF),.ret (.rd 1 n UF)] ?_;refine aU (zs ?_);all_goals(try(first|exact cC|exact cU))
 refine bS ?_;refine aU (zs ?_);refine bE (X:=Nat) rfl [0,1,2,3,4,5,6,7,8,9,10,11,12,13,15,17,20,25,43,93,124,149,176,218,233] kg (λ i=>[(9,i)]) (λ i=>(k+3,⟨7,false,[[s.cpus,.lit (.int .u64 s.credit),.sl (k+4) 0 s.ng,.rd 1 n CF,.rd 1 n UF,(),.sl (k+5) 0 s.ns]]⟩)::(k+4,⟨2,true,gN s.ng s.par WT⟩)::(k+5,⟨1,false,zX (k+6) n s.ns⟩)::(k+2,⟨7,true,[[(0:Int),.lit (.int .u64 0),(),(),(),(),()]]⟩)::mK (k+6) 3 s.ns (λ g=>kI n (mkS s d n i g))) (λ i=>i<=d.n5) (λ i=>d.n5-i) 0 ?_ (aJ _) ?_;.rw[show mkS s d n 0=s.sp from rfl,<-eSR];have uU:=Go.AM.uU;refine cQ ?_;apply zN;exact fH
 clear hnlt cC cU cw cW hright hfits hSR hSl hS1 eSR;intro i hi;obtain⟨FSq,eF⟩:∃F,F=mkS s d n i:=⟨_,rfl⟩;have hnx:mkS s d n (i+1)=if 0<=(d.sp i).1/\(d.sp i).1<s.ns/\0<=(d.sp i).2.1/\(d.sp i).2.1<n then wR FSq (d.sp i).1.toNat (d.sp i).2.1.toNat (d.sp i).2.2 else FSq:=by rw[mkS,wX,QA,eF];rfl
 rw[<-eF];by_cases hlt:i<d.n5;.obtain⟨⟨q1,q2,q3,q4,_⟩,_⟩:=f5 i hlt;rw[e1]at q4;rw[if_pos ⟨q1,q2,q3,q4⟩]at hnx;obtain⟨x,ex⟩:∃x,x=(d.sp i).1:=⟨_,rfl⟩;obtain⟨y,ey⟩:∃y,y=(d.sp i).2.1:=⟨_,rfl⟩;obtain⟨v,ev⟩:∃v,v=(d.sp i).2.2:=⟨_,rfl⟩;rw[<-ex]at q1 q2 hnx;rw[<-ey]at q3 q4 hnx;rw[<-ev]at hnx;have ex':=ex.symm;have ey':=ey.symm;have ev':=ev.symm;obtain⟨gt,egt⟩:∃q,q=x.toNat:=⟨_,rfl⟩;obtain⟨ct,ect⟩:∃q,q=y.toNat:=⟨_,rfl⟩;rw[<-egt,<-ect]at hnx;have egt':=egt.symm;have ect':=ect.symm;have bg:gt<s.ns:=oO;have bc:ct<n:=oO;have hco:=aPE (c:=k+6) (n:=n) bg;rw[fS]at hco;have hol:=JI (k+6) n s.ns;have g1:=tV (f:=FSq gt) bc;have hls:=nT n (FSq gt);have gs:=PV (n:=n) (c:=ct) (f:=FSq) (g:=gt) (v:=v);have fs:=YR (n:=n) (c:=ct) (f:=FSq) (g:=gt) (v:=v);have h0:¬x<0:=oO;have h2y:¬y<0:=oO;have uU:=eQ @hlt @ex' @ey' @ev' @h0 @q1 @q2 @q3 (eQ @q4 @h2y @egt' @ect' @bg @bc @hco @hol (DP @g1 @hls @gs @fs));refine cQ ?_;apply zN;have kp:Kp [0,1,2,3,4,5,6,7,8,9,10,11,12,13,15,17,20,25,43,93,124,149,176,218,233] (λ i=>if k+6<=i then 6 else i-k):=vD;refine bS ?_;refine aU ⟨λ ht=>zN ?_⟩;refine⟨i+1,oO,oO,?_⟩;rw[hnx,(oO:((i+1:Nat):Int)=(i:Int)+1)];exact fH
 have hin5:i=d.n5:=oO;rw[hin5]at eF;rw[<-eF]at hrest;have hnlt:¬(i:Int)<(d.n5:Int):=oO;refine cQ ?_;apply zN;refine bY rfl ?_;refine bY rfl ?_;(refine gL rfl [0,1,2,3,4,5,6,7,8,9,10,11,12,13,15,17,20,25,43,93,124,149,176,218,233] rfl rfl (λ K hK=>?_));simp-dsimp-implicitDefEqProofs (disch:=omega)only[go_sem,iN,hnlt,eq_self,↓reduceIte];(refine hK _ _ _ _ (λ hx=>?_));clear hx hK;simp-dsimp-implicitDefEqProofs (disch:=omega)only[go_sem,iN,hnlt,eq_self,↓reduceIte];clear K;refine gA rfl _ rfl (λ ht=>?_) (λ ht=>?_);.first|(cases ht;done)|exact absurd (of_decide_eq_true ht) oO|simp at ht
 refine jU rfl ?_;refine cQ ?_;apply zN;refine dI ?_ hrest;exact fH
end Go.Proofs.T
end
