import Derived.Test.YteimiejbhhgljaaGreatDoorZAA
set_option linter.unusedVariables false
set_option linter.unusedSimpArgs false
set_option maxHeartbeats 0
set_option maxRecDepth 100000
open Array renaming getD_eq_getD_getElem?->aD,getElem?_append_left->gR,getElem?_eq_getElem->aP,getElem?_eq_none->gH,getElem?_eq_some_iff->cZ,getElem?_setIfInBounds_ne->kR,getElem?_setIfInBounds_self_of_lt->qV,getElem?_toList->bA,length_toList->vM,mem_of_getElem?->bGD,replicate->vL,size_append->bAP
open Bool renaming and_eq_true->aC,false_eq_true->aO,not_eq_true'->aT,or_eq_false_iff->fQ,or_eq_true->bH,true_and->kQ
open List renaming all_eq_true->aW,any_eq_true->aHT,cons_append->dQ,getD_eq_getElem?_getD->bD,getElem?_append->kY,getElem?_cons_succ->eW,getElem?_eq_getElem->aE,getElem?_eq_some_iff->aG,getElem?_map->aQ,getElem?_of_mem->aAC,getElem?_range->aML,getElem?_take->lB,getElem?_toArray->cH,getElem_mem->bKH,length_append->bQ,length_cons->lZ,length_take->bKG,map->jL,map_append->aH,map_cons->bG,map_map->jD,map_nil->aV,mem_append->cD,mem_cons->jK,mem_cons_of_mem->fP,mem_filter->jY,mem_map->cL,mem_range->dO,nil_append->cN,range->aM,range_succ->CI,size_toArray->gW
open Nat renaming add_assoc->fS,add_comm->bFX,add_mul->cX,add_sub_cancel->rN,add_sub_cancel_left->iW,add_zero->jX,div_lt_of_lt_mul->ZZ,le_refl->aF,le_trans->DS,lt_irrefl->tC,lt_succ_self->dC,lt_trichotomy->mH,mod_eq_of_lt->HR,mul_comm->jW,mul_le_mul_right->dE,mul_one->bAM,pos_of_ne_zero->a0R,sub_self->PG,sub_zero->bFW,zero_add->dV,zero_mul->tM
open Option renaming bind_eq_some_iff->bX,bind_some->bKF,isNone->oD,isSome_iff_exists->fK,map_eq_none_iff->dG,map_eq_some_iff->aB,map_none->oC,map_some->cB
open Go.Result renaming andThen->aEZ,andThen_ok->bI
open Go.Sem renaming run_bind->bO,run_pure->dP
section
namespace Go.AM
theorem HRel.drop {Γ:List (Nat×List AVal)}{w:World}{G:Nat->Prop}{ρ:cM}{H:lP}(h:HRel Γ w G ρ H)(id:Nat)(A:bU):
 HRel Γ w G (dT ρ id none) (iR H A [(id,none)])/\∀S,Step S w G ρ w G (dT ρ id none):=by
 have hs:∀S:bU,Step S w G ρ w G (dT ρ id none):=λ S=>by
  refine⟨aF _,λ _ _ _=>rfl,λ _ _=>rfl,λ _ h=>h,λ _ h=> .inl h,?_,?_,rfl,rfl,rfl⟩
  .rintro b ⟨i,s,hb⟩;simp only[dT]at hb;split at hb;.cases hb
   exact .inl ⟨i,s,hb⟩
  intro i _;simp only[dT];split;.exact .inl rfl
  exact .inr rfl
 refine⟨h.after (hs (λ _=>True)) _ ?_ ?_ ?_ h.ro,hs⟩
 .intro i hi;simp only[iR]at hi;simp only[dT];split at hi;.rename_i he;rw[if_pos he]
  rename_i he;rw[if_neg he];exact h.dom i hi
 .intro i B A1 hi;simp only[iR]at hi;split at hi;.cases hi
  rename_i he;obtain⟨hA,b,hb,hg,_⟩:=h.blk i B A1 hi;exact⟨hA,.inl ⟨A1,b,hi,λ _ h=>h,λ _ _=>trivial,by simp[dT,he],hb,rfl,hg⟩⟩
 intro i j b s t hi hj;simp only[dT]at hi hj;split at hi;.cases hi
 split at hj;.cases hj
 exact h.inj i j b s t hi hj
section
variable{P:Program}{Γ:List (Nat×List AVal)}{o:Oper}{ev:Operand->Option AVal}{get:Nat->Option Blk}{k:Nat}
theorem GH(w:World)(t ty e:TypeId)(i:TypeInfo)(ht:P.underlying t=some (.slice e))(hi:P.info? e=some i)
 (g sLen sCap:Nat) (cur:Array Value) (ety:TypeId) (hg:w.heap[g]? =some (.cells cur ety (0,0)))
 (a:Addr) (m c:Nat) (news:List Value) (hl:news.length=m*i.size) (hnews:∀j u,news[j]? =some u->w.cell? (a.add j)=some u) (h1:∀u∈news,u.oneCell'=true)
 (hroom:sLen+m<=sCap) (hfit:sLen*i.size+news.length<=cur.size):
 (Builtin.append_ #[t,t] ty #[.slice (some ⟨g,0,none⟩) sLen sCap,.slice (some a) m c]).run P w=
   .ok (.slice (some ⟨g,0,none⟩) (sLen+m) sCap) (w.setRow g (cur.toList.take (sLen*i.size)++news++cur.toList.drop (sLen*i.size+news.length)).toArray):=by have hf:=run_firstCells_some (P:=P) w i.size m a m c news hl hnews;have hst:=run_storeCells_at (P:=P) g (sLen*i.size) ety news 0 cur w hg (by simpa using hfit) h1;simp only[jX]at hst;simp[Builtin.append_,run_underlying ht,sizeOf,typeInfo,hi,Builtin.lenOf,hroom,hf,Addr.add_lit,hst]
structure Src (w:World) (G:Nat->Prop) (ρ:cM) (A:bU) (s m:Nat) (rows:List (List AVal)) (pure:Bool) (cv:Value):Prop where
 len:rows.length=m
 rlen:∀(r:Nat) row,rows[r]? =some row->row.length=s
 ex:0<m->∃b off cap,cv= .slice (some ⟨b,off,none⟩) m cap/\∃gv:Nat->Nat->Value,∀r row c v,rows[r]? =some row->row[c]? =some v→
  w.cell? ⟨b,off+r*s+c,none⟩=some (gv r c)/\V w G (if pure then bR else ρ) (if pure then cF else A) v (gv r c)
def news(s m:Nat)(gv:Nat->Nat->Value):List Value:=(aM (m*s)).map λ j=>gv (j/s) (j%s)
theorem LJ(s m:Nat)(gv:Nat->Nat->Value):(news s m gv).length=m*s:=by simp[news]
theorem wY{s m:Nat}{gv:Nat->Nat->Value}{r c:Nat}(hr:r<m)(hc:c<s):(news s m gv)[r*s+c]? =some (gv r c):=by
 have hlt:r*s+c<m*s:=by have:(r+1)*s<=m*s:=dE s hr;rw[cX]at this;omega
 unfold news;rw[aQ,aML hlt];have h1:(r*s+c)%s=c:=by rw[bFX,Nat.add_mul_mod_self_right];exact HR hc
 have h2:(r*s+c)/s=r:=by rw[bFX,Nat.add_mul_div_right _ _ oO,Nat.div_eq_of_lt hc];omega
 simp[h1,h2]
theorem LL{s m:Nat}{gv:Nat->Nat->Value}{j:Nat}{u:Value}(h:(news s m gv)[j]? =some u)(hs:0<s):j/s<m/\j%s<s/\u=gv (j/s) (j%s):=by unfold news at h;rw[aQ]at h;simp only[aB]at h;obtain⟨i,hi,rfl⟩:=h;obtain⟨hlt,he⟩:=aG.1 hi;simp at he hlt;subst he;exact⟨ZZ (by rw[jW];exact hlt),Nat.mod_lt _ hs,rfl⟩
theorem JG{rows:List (List AVal)}{s r c:Nat}(hl:∀(r:Nat) row,rows[r]? =some row->row.length=s)(hr:r<rows.length)(hc:c<s):∃row v,rows[r]? =some row/\row[c]? =some v:=by have h1:rows[r]? =some rows[r]:=aE hr;have h2:=hl r _ h1;exact⟨rows[r],rows[r][c]'oO,h1,aE oO⟩
def aFH(rows:List (List AVal)):Prop:=∀(r:Nat) row (c:Nat) v,rows[r]? =some row->row[c]? =some v->one v=true
theorem IP{t s by' n m:Nat}{x y:Operand}{zrow:List AVal}{olds src:List (List AVal)}{pd ps:Bool}{rds:List Nat}{idd:Option Nat}
 (ho:o.op= .call {callee:= .builtin .append,args:= #[x,y],argTypes:= #[t,t]}) (hz:iB P t=some (s,by',zrow)) (hm:0<m) (hlen:n+m<=9223372036854775807) (hby:(n+m)*by'<=140737488355328)
 (hone:aFH src) (hidk:∀id,idd=some id->id<k)
 (hdst:∀w G ρ H (A:bU) (a:Act),HRel Γ w G ρ H->(∀id,id∈rds->∃B A',get id=some B/\H id=some (B,A')/\∀i,A' i->A i)->(∀x,x∈o.op.operands->∀v,ev x=some v->V w G ρ A v (a.eval x))→
   (idd=none/\n=0/\olds=[]/\a.eval x= .slice none 0 0)∨
   (∃id B A',idd=some id/\H id=some (B,A')/\(∀i,A' i->A i)/\B.sz=s/\B.pure=pd/\B.rows=olds/\olds.length=n/\V w G ρ A (.sl id 0 n) (a.eval x)))
 (hsrc:∀w G ρ H (A:bU) (a:Act),HRel Γ w G ρ H->(∀id,id∈rds->∃B A',get id=some B/\H id=some (B,A')/\∀i,A' i->A i)->(∀x,x∈o.op.operands->∀v,ev x=some v->V w G ρ A v (a.eval x))→
   Src w G ρ A s m src ps (a.eval y)):
 OpOk P Γ o ev get k ⟨.sl k 0 (n+m),k+1,(k,some ⟨s,(idd.isNone||pd)&&ps,olds++src⟩)::(match idd with|some id=>[(id,none)]|none=>[]),rds⟩:=by
 unfold iB at hz;split at hz;case h_2=>cases hz
 rename_i e hu;split at hz;case h_2=>cases hz
 rename_i i hi;split at hz;case h_2=>cases hz
 rename_i z hzz;split at hz;case isFalse=>cases hz
 rename_i hsz;cases hz;intro w G ρ H A a hr hA hf hrd hop next Q hn
 have hkA:¬A k:=λ hk=>tC _ (hA k hk);obtain⟨hρk,hfr⟩:=hf k (aF _) (dC _);obtain⟨hsl,hsrl,hsex⟩:=hsrc w G ρ H A a hr hrd hop;obtain⟨sb,soff,scap,hsv,gv,hgv⟩:=hsex hm;have hnl:=LJ i.size m gv
 have hcells:∀j u,(news i.size m gv)[j]? =some u->w.cell? ((⟨sb,soff,none⟩:Addr).add j)=some u:=λ j u hj=>by
  obtain⟨h1,h2,rfl⟩:=LL hj hsz.2;obtain⟨row,v,h3,h4⟩:=JG hsrl (by omega:j/i.size<src.length) h2;have h5:=(hgv _ row _ v h3 h4).1;rw[Addr.add_mid,<-h5];have:soff+j=soff+j/i.size*i.size+j%i.size:=by have:=Nat.div_add_mod j i.size;rw[jW]at this;omega
  rw[this]
 have hone':∀u∈news i.size m gv,u.oneCell'=true:=λ u hu=>by obtain⟨j,hj⟩:=aAC hu;obtain⟨h1,h2,rfl⟩:=LL hj hsz.2;obtain⟨row,v,h3,h4⟩:=JG hsrl (by omega:j/i.size<src.length) h2;exact aPG (hgv _ row _ v h3 h4).2 (hone _ row _ v h3 h4)
 have hrowlen:∀(hol:∀(r:Nat) row,olds[r]? =some row->row.length=i.size) (r:Nat) row,(olds++src)[r]? =some row->row.length=i.size:=λ hol r row h=>by
  rw[kY]at h;split at h;.exact hol r row h
  exact hsrl _ row h
 have hnewV:∀(pp:Bool) (v:AVal) (cv:Value),(pp=true->ps=true)->V w G (if ps then bR else ρ) (if ps then cF else A) v cv->V w G (if pp then bR else ρ) (if pp then cF else A) v cv:=λ pp v cv hp h=>by
  cases ps with
  |true=>
   cases pp with
   |true=>simpa using h
   |false=>simp only[if_true]at h;simp only[aO,if_false];exact h.weaken
  |false=>cases pp with
   |true=>exact absurd (hp rfl) (by simp)
   |false=>simpa using h
 have hval:∀cv w',((execOp a.eval o).run P w= .ok (.value cv) w')=((Builtin.append_ #[t,t] o.type #[a.eval x,.slice (some ⟨sb,soff,none⟩) m scap]).run P w= .ok cv w'):=λ cv w'=>by simp only[execOp,ho,resolve,invoke,builtin];simp only[List.map_toArray,bG,aV,bO,dP,bI,hsv];cases(Builtin.append_ #[t,t] o.type #[a.eval x,.slice (some ⟨sb,soff,none⟩) m scap]).run P w<;>simp[aEZ]
 rcases hdst w G ρ H A a hr hrd hop with⟨rfl,rfl,rfl,hxv⟩|⟨id,B,A',rfl,hH,hAA,hBs,rfl,rfl,rfl,hV⟩
 .have hrun:=run_append_nil (P:=P) w t o.type e i z hu hi hzz ⟨sb,soff,none⟩ m scap (news i.size m gv) hnl hcells hm oO (by have:(0+m)*i.bytes<=140737488355328:=hby;rw[dV]at this;omega);rw[<-hxv]at hrun;have hrun':=(hval _ _).mpr hrun;unfold Oper.wp;rw[hrun'];have hge:=grownCap_ge w m 0 e;have hcm:=grownCap_le_maxLen w m 0 e (by unfold maxLen;omega)
  have hrel:=hr.alloc k hρk hfr ⟨i.size,(oD (none:Option Nat)||pd)&&ps,([]:List (List AVal))++src⟩ ((news i.size m gv).toArray++Builtin.zeroCells z.cells (grownCap w m 0 e-m)) e A (λ i=>A i\/(k<=i/\i<k+1)) hkA (λ _ h=> .inl h) (.inr ⟨aF _,dC _⟩)
   (λ r row h=>hsrl r row (by simpa using h))
   (λ r row c v h1 h2=>by
     simp only[cN]at h1;have hc:c<i.size:=by have:=(aG.1 h2).1;have:=hsrl r row h1;omega
     have hrm:r<m:=by have:=(aG.1 h1).1;omega
     refine⟨gv r c,?_,hnewV _ v _ (by simp) (hgv r row c v h1 h2).2⟩;rw[gR (by have:=wY (gv:=gv) hrm hc;have:=(aG.1 this).1;simpa using this),cH]
     exact wY hrm hc)
   w.drew rfl rfl rfl rfl
  have hst:=mS (w:=w) (G:=G) (ρ:=ρ) k i.size (.cells ((news i.size m gv).toArray++Builtin.zeroCells z.cells (grownCap w m 0 e-m)) e) w.drew rfl rfl rfl rfl;refine hn _ G _ _ hrel ?_ ⟨hst.size,hst.keep,hst.shape,hst.g,hst.g',hst.own,λ id hid=>hst.ids id (λ he=>hid (oO:k<=id/\id<k+1)),hst.os,hst.tape,hst.output⟩;simp only[dV];refine .sl (b:=w.heap.size) (s:=i.size) (ty:=e) (m:=((news i.size m gv).toArray++Builtin.zeroCells z.cells (grownCap w m 0 e-m)).size) (.inr ⟨aF _,dC _⟩) (by simp[dT]) ?_ ?_ hge hcm (.inr (by simp));.have:=iV w.drew (.cells ((news i.size m gv).toArray++Builtin.zeroCells z.cells (grownCap w m 0 e-m)) e);have e1:w.drew.heap.size=w.heap.size:=rfl;rw[e1]at this;unfold World.shape?;rw[this]
  rw[bAP,gW,hnl,size_zeroCells,hsz.1,<-cX];exact dE _ oO
 have hidk':=hidk id rfl;obtain⟨hAid,b,hb,hg,⟨⟨C,_,⟨hC0,hH0⟩,hrows⟩,hbl⟩⟩:=hr.blk id B A' hH;have hsB:B.sz=i.size:=hBs
 have hnC:B.rows.length*i.size<=C.size:=by
  by_cases h0:B.rows.length=0;.rw[h0];simp
  obtain⟨row,v,h1,h2⟩:=JG (s:=i.size) (r:=B.rows.length-1) (c:=i.size-1) (λ r row h=>by rw[<-hsB];exact hbl r row h) oO oO;obtain⟨cu,h3,_⟩:=hrows _ row _ v h1 h2;have h4:=(cZ.1 h3).1;rw[hsB]at h4;have:B.rows.length*i.size=(B.rows.length-1)*i.size+i.size:=by have e1:B.rows.length=(B.rows.length-1)+1:=oO;rw[e1,cX];simp
  omega
 have holdV:∀(pp:Bool) (v:AVal) (cv:Value),(pp=true->B.pure=true)->V w G (if B.pure then bR else ρ) (if B.pure then cF else A') v cv->V w G (if pp then bR else ρ) (if pp then cF else A) v cv:=λ pp v cv hp h=>by
  cases hbp:B.pure with
  |true=>
   rw[hbp]at h
   cases pp with
   |true=>simpa using h
   |false=>simp only[if_true]at h;simp only[aO,if_false];exact h.weaken
  |false=>
   rw[hbp]at h hp
   cases pp with
   |true=>exact absurd (hp rfl) (by simp)
   |false=>simp only[aO,if_false]at h⊢;exact h.mono (λ _ h=>h) (λ _ _=>rfl) (λ _ _=>rfl) hAA (λ _ _=> .inr rfl)
 generalize hev:a.eval x=cvx at hV hval;generalize hbn:B.rows.length=bn at hV
 cases hV with
 |dangs _ hnn=>rw[hb]at hnn;cases hnn
 |sl0 ha hρ=>
  have hb0:B.rows.length=0:=hbn;have hrl:B.rows=[]:=List.length_eq_zero_iff.1 hb0;have hrun:=run_append_nil (P:=P) w t o.type e i z hu hi hzz ⟨sb,soff,none⟩ m scap (news i.size m gv) hnl hcells hm oO (by have:(0+m)*i.bytes<=(B.rows.length+m)*i.bytes:=dE _ oO;rw[dV]at this;omega);have hrun':=(hval _ _).mpr hrun;unfold Oper.wp;rw[hrun'];have hge:=grownCap_ge w m 0 e;have hcm:=grownCap_le_maxLen w m 0 e (by unfold maxLen;omega);obtain⟨hrd0,hsd⟩:=hr.drop id (λ i=>A i\/(k<=i/\i<k+1));have hρ0:∀v cv,V w G ρ A v cv->V w G (dT ρ id none) A v cv:=λ v cv h=>h.mono (λ _ h=>h) (λ _ _=>rfl) (λ _ _=>rfl) (λ _ h=>h) (λ j _=>(hsd A).ids j ‹_›)
  have hVd:∀(pp:Bool) v cv,V w G (if pp then bR else ρ) (if pp then cF else A) v cv->V w G (if pp then bR else dT ρ id none) (if pp then cF else A) v cv:=λ pp v cv h=>by
   cases pp with
   |true=>simpa using h
   |false=>simp only[aO,if_false]at h⊢;exact hρ0 v cv h
  have hrel:=hrd0.alloc k (by simp only[dT];split<;>simp_all) (λ j B1 A1 hj=>by
   simp only[iR]at hj;split at hj;.cases hj
   exact hfr j B1 A1 hj) ⟨i.size,(oD (some id)||B.pure)&&ps,B.rows++src⟩
   ((news i.size m gv).toArray++Builtin.zeroCells z.cells (grownCap w m 0 e-m)) e A (λ i=>A i\/(k<=i/\i<k+1)) hkA (λ _ h=> .inl h) (.inr ⟨aF _,dC _⟩)
   (hrowlen (λ r row h=>by rw[<-hsB];exact hbl r row h))
   (λ r row c v h1 h2=>by
     have h1':(B.rows++src)[r]? =some row:=h1;rw[hrl,cN]at h1';have hc:c<i.size:=by have:=(aG.1 h2).1;have:=hsrl r row h1';omega
     have hrm:r<m:=by have:=(aG.1 h1').1;omega
     have h9:=wY (gv:=gv) hrm hc;refine⟨gv r c,?_,hVd _ v _ (hnewV _ v _ (by simp) (hgv r row c v h1' h2).2)⟩;rw[gR (by have:=(aG.1 h9).1;simpa using this),cH];exact h9)
   w.drew rfl rfl rfl rfl
  have hst:=(hsd (λ j=>j≠k)).trans (mS (w:=w) (G:=G) (ρ:=dT ρ id none) k i.size (.cells ((news i.size m gv).toArray++Builtin.zeroCells z.cells (grownCap w m 0 e-m)) e) w.drew rfl rfl rfl rfl) (λ _ h=>h)
  have hup:iR (iR H (λ i=>A i\/(k<=i/\i<k+1)) [(id,none)]) (λ i=>A i\/(k<=i/\i<k+1)) [(k,some ⟨i.size,(oD (some id)||B.pure)&&ps,B.rows++src⟩)]
   =iR H (λ i=>A i\/(k<=i/\i<k+1)) [(k,some ⟨i.size,(oD (some id)||B.pure)&&ps,B.rows++src⟩),(id,none)]:=rfl
  rw[hup]at hrel;refine hn _ G _ _ hrel ?_ ⟨hst.size,hst.keep,hst.shape,hst.g,hst.g',hst.own,λ j hj=>hst.ids j (λ he=>hj (oO:k<=j/\j<k+1)),hst.os,hst.tape,hst.output⟩;have e0:B.rows.length+m=m:=oO;show V _ G _ (λ i=>A i\/(k<=i/\i<k+1)) (AVal.sl k 0 (B.rows.length+m)) _;rw[e0];refine .sl (b:=w.heap.size) (s:=i.size) (ty:=e) (m:=((news i.size m gv).toArray++Builtin.zeroCells z.cells (grownCap w m 0 e-m)).size) (.inr ⟨aF _,dC _⟩) (by simp[dT]) ?_ ?_ hge hcm (.inr (by simp));.have:=iV w.drew (.cells ((news i.size m gv).toArray++Builtin.zeroCells z.cells (grownCap w m 0 e-m)) e);have e1:w.drew.heap.size=w.heap.size:=rfl;rw[e1]at this;unfold World.shape?;rw[this]
  rw[bAP,gW,hnl,size_zeroCells,hsz.1,<-cX];exact dE _ oO
 |sl ha hρ hsh hm1 hn1 hc1 hoff=>
  subst hbn;rw[hb]at hρ;cases hρ;rename_i ty ms cap off;have hC:w.heap[b]? =some (.cells C ty (0,0)):=by rw[hC0,hH0.shaped hC0 hsh]
  have hsC:ms=C.size:=by unfold World.shape? at hsh;rw[hC]at hsh;simp at hsh;exact hsh.symm
  subst hsC;by_cases hroom:B.rows.length+m<=cap
  .have hoff':off=0:=by rcases hoff with h|h;· omega
                        · simpa using h
   subst hoff';have hfit:B.rows.length*i.size+(news i.size m gv).length<=C.size:=by rw[hnl,<-cX];have h5:(B.rows.length+m)*i.size<=cap*i.size:=dE _ hroom;rw[hsB]at hm1;simp only[dV]at hm1;omega
   have hrun:=GH (P:=P) w t o.type e i hu hi b B.rows.length cap C ty hC ⟨sb,soff,none⟩ m scap (news i.size m gv) hnl hcells hone' hroom hfit;have hrun':=(hval _ _).mpr hrun;unfold Oper.wp;rw[hrun'];have hseg:=BE (l:=C.toList) (vs:=news i.size m gv) (o:=B.rows.length*i.size) (by simpa using hfit)
   have hrw:=vX hr hb k (.inr ⟨hρk,hfr⟩) ⟨i.size,(oD (some id)||B.pure)&&ps,B.rows++src⟩ hsB.symm
    (C.toList.take (B.rows.length*i.size)++news i.size m gv++C.toList.drop (B.rows.length*i.size+(news i.size m gv).length)).toArray ty A (λ i=>A i\/(k<=i/\i<k+1)) (.inr hkA) (λ _ h=> .inl h) (.inr ⟨aF _,dC _⟩)
    (w.setRow b (C.toList.take (B.rows.length*i.size)++news i.size m gv++C.toList.drop (B.rows.length*i.size+(news i.size m gv).length)).toArray)
    (setRow_heap w b C _ ty _ hC) (λ j hj=>setRow_other w b j _ hj) (size_setRow _ _ _)
    (by unfold World.shape?;rw[setRow_heap w b C _ ty _ hC,hC];simp;omega)
    rfl rfl rfl (hrowlen (λ r row h=>by rw[<-hsB];exact hbl r row h))
    (λ r row c v h1 h2=>by
      have h1':(B.rows++src)[r]? =some row:=h1;have hc:c<i.size:=by have:=(aG.1 h2).1;have:=hrowlen (λ r row h=>by rw[<-hsB];exact hbl r row h) r row h1';omega
      show ∃cv,(C.toList.take (B.rows.length*i.size)++news i.size m gv++C.toList.drop (B.rows.length*i.size+(news i.size m gv).length)).toArray[r*i.size+c]? =some cv/\V w G (if((oD (some id)||B.pure)&&ps)then bR else ρ) (if((oD (some id)||B.pure)&&ps)then cF else A) v cv;rw[cH,hseg];rw[kY]at h1';split at h1'
      .rename_i hlt;have h6:r*i.size+c<B.rows.length*i.size:=by have:(r+1)*i.size<=B.rows.length*i.size:=dE _ hlt;rw[cX]at this;omega
       rw[if_pos h6];obtain⟨cu,h7,h8⟩:=hrows r row c v h1' h2;rw[hsB]at h7;exact⟨cu,by rw[bA];exact h7,holdV _ v cu (by simp;intro h _;exact h) h8⟩
      rename_i hge;have hrm:r-B.rows.length<m:=by have:=(aG.1 h1').1;omega
      have h9:=wY (gv:=gv) hrm hc;have h10:=(aG.1 h9).1
      have e1:r*i.size+c=B.rows.length*i.size+((r-B.rows.length)*i.size+c):=by
       have:r*i.size=B.rows.length*i.size+(r-B.rows.length)*i.size:=by rw[<-cX];congr 1;omega
       omega
      rw[e1,if_neg oO,if_pos oO];have e2:B.rows.length*i.size+((r-B.rows.length)*i.size+c)-B.rows.length*i.size=(r-B.rows.length)*i.size+c:=oO;rw[e2];exact⟨_,h9,hnewV _ v _ (by simp) (hgv _ row c v h1' h2).2⟩)
   obtain⟨hrel,hst⟩:=hrw;refine hn _ G _ _ hrel ?_ ⟨hst.size,hst.keep,hst.shape,hst.g,hst.g',hst.own,λ j hj=>hst.ids j (.inl (λ he=>hj (oO:k<=j/\j<k+1))),hst.os,hst.tape,hst.output⟩;have hne:(0:Nat)*B.sz=0:=by simp
   refine .sl (b:=b) (s:=B.sz) (ty:=ty) (m:=C.size) (.inr ⟨aF _,dC _⟩) (by simp[dT]) ?_ hm1 hroom hc1 (.inr (by simp));unfold World.shape?;rw[setRow_heap w b C _ ty _ hC];have hl2:(C.toList.take (B.rows.length*i.size)++news i.size m gv++C.toList.drop (B.rows.length*i.size+(news i.size m gv).length)).toArray.size=C.size:=by simp only[gW,bQ,bKG,List.length_drop,vM];omega
   simp only[hl2]
  have holds:∀j v,(C.toList.take (B.rows.length*i.size))[j]? =some v->w.cell? ((⟨b,off,none⟩:Addr).add j)=some v:=λ j v hj=>by
   rw[lB]at hj;split at hj
   .rename_i hlt;have hn0:0<B.rows.length:=a0R (λ h0=>by rw[h0]at hlt;simp at hlt)
    have hoff':off=0:=by rcases hoff with h|h;· omega
                         · simpa using h
    subst hoff';rw[Addr.add_mid,cell_of_row w b _ C ty (0,0) hC,<-bA,dV];exact hj
   cases hj
  have hol:(C.toList.take (B.rows.length*i.size)).length=B.rows.length*i.size:=by simp;omega
  have hrun:=run_append_grow (P:=P) w t o.type e i z hu hi hzz ⟨b,off,none⟩ B.rows.length cap _ hol holds ⟨sb,soff,none⟩ m scap (news i.size m gv) hnl hcells oO oO (growslice_fits oO hby);have hrun':=(hval _ _).mpr hrun;unfold Oper.wp;rw[hrun'];have hge:=grownCap_ge w (B.rows.length+m) cap e;have hcm:=grownCap_le_maxLen w (B.rows.length+m) cap e (by unfold maxLen;omega);obtain⟨hrd0,hsd⟩:=hr.drop id (λ i=>A i\/(k<=i/\i<k+1));have hρ0:∀v cv,V w G ρ A v cv->V w G (dT ρ id none) A v cv:=λ v cv h=>h.mono (λ _ h=>h) (λ _ _=>rfl) (λ _ _=>rfl) (λ _ h=>h) (λ j _=>(hsd A).ids j ‹_›)
  have hVd:∀(pp:Bool) v cv,V w G (if pp then bR else ρ) (if pp then cF else A) v cv->V w G (if pp then bR else dT ρ id none) (if pp then cF else A) v cv:=λ pp v cv h=>by
   cases pp with
   |true=>simpa using h
   |false=>simp only[aO,if_false]at h⊢;exact hρ0 v cv h
  have hrel:=hrd0.alloc k (by simp only[dT];split<;>simp_all) (λ j B1 A1 hj=>by
   simp only[iR]at hj;split at hj;.cases hj
   exact hfr j B1 A1 hj) ⟨i.size,(oD (some id)||B.pure)&&ps,B.rows++src⟩
   ((C.toList.take (B.rows.length*i.size)).toArray++(news i.size m gv).toArray++Builtin.zeroCells z.cells (grownCap w (B.rows.length+m) cap e-(B.rows.length+m))) e A (λ i=>A i\/(k<=i/\i<k+1)) hkA (λ _ h=> .inl h) (.inr ⟨aF _,dC _⟩)
   (hrowlen (λ r row h=>by rw[<-hsB];exact hbl r row h))
   (λ r row c v h1 h2=>by
     have h1':(B.rows++src)[r]? =some row:=h1;have hc:c<i.size:=by have:=(aG.1 h2).1;have:=hrowlen (λ r row h=>by rw[<-hsB];exact hbl r row h) r row h1';omega
     show ∃cv,((C.toList.take (B.rows.length*i.size)).toArray++(news i.size m gv).toArray++Builtin.zeroCells z.cells (grownCap w (B.rows.length+m) cap e-(B.rows.length+m)))[r*i.size+c]? =some cv/\V w G (if((oD (some id)||B.pure)&&ps)then bR else dT ρ id none) (if((oD (some id)||B.pure)&&ps)then cF else A) v cv;rw[kY]at h1';split at h1'
     .rename_i hlt;have h6:r*i.size+c<B.rows.length*i.size:=by have:(r+1)*i.size<=B.rows.length*i.size:=dE _ hlt;rw[cX]at this;omega
      obtain⟨cu,h7,h8⟩:=hrows r row c v h1' h2;rw[hsB]at h7;refine⟨cu,?_,hVd _ v cu (holdV _ v cu (by simp;intro h _;exact h) h8)⟩;rw[Array.append_assoc,gR (by simp;omega),cH,lB,if_pos h6,bA];exact h7
     rename_i hge;have hrm:r-B.rows.length<m:=by have:=(aG.1 h1').1;omega
     have h9:=wY (gv:=gv) hrm hc;have h10:=(aG.1 h9).1
     have e1:r*i.size+c=B.rows.length*i.size+((r-B.rows.length)*i.size+c):=by
      have:r*i.size=B.rows.length*i.size+(r-B.rows.length)*i.size:=by rw[<-cX];congr 1;omega
      omega
     refine⟨_,?_,hVd _ v _ (hnewV _ v _ (by simp) (hgv _ row c v h1' h2).2)⟩;have hsz1:(C.toList.take (B.rows.length*i.size)).toArray.size=B.rows.length*i.size:=by rw[gW];exact hol
     rw[Array.append_assoc,Array.getElem?_append_right (by rw[hsz1];omega),hsz1,e1,iW,gR (by rw[gW];exact h10),cH];exact h9)
   w.drew rfl rfl rfl rfl
  have hst:=(hsd (λ j=>j≠k)).trans (mS (w:=w) (G:=G) (ρ:=dT ρ id none) k i.size (.cells ((C.toList.take (B.rows.length*i.size)).toArray++(news i.size m gv).toArray++Builtin.zeroCells z.cells (grownCap w (B.rows.length+m) cap e-(B.rows.length+m))) e) w.drew rfl rfl rfl rfl) (λ _ h=>h)
  have hup:iR (iR H (λ i=>A i\/(k<=i/\i<k+1)) [(id,none)]) (λ i=>A i\/(k<=i/\i<k+1)) [(k,some ⟨i.size,(oD (some id)||B.pure)&&ps,B.rows++src⟩)]
   =iR H (λ i=>A i\/(k<=i/\i<k+1)) [(k,some ⟨i.size,(oD (some id)||B.pure)&&ps,B.rows++src⟩),(id,none)]:=rfl
  rw[hup]at hrel;refine hn _ G _ _ hrel ?_ ⟨hst.size,hst.keep,hst.shape,hst.g,hst.g',hst.own,λ j hj=>hst.ids j (λ he=>hj (oO:k<=j/\j<k+1)),hst.os,hst.tape,hst.output⟩;refine .sl (b:=w.heap.size) (s:=i.size) (ty:=e) (m:=((C.toList.take (B.rows.length*i.size)).toArray++(news i.size m gv).toArray++Builtin.zeroCells z.cells (grownCap w (B.rows.length+m) cap e-(B.rows.length+m))).size) (.inr ⟨aF _,dC _⟩) (by simp[dT]) ?_ ?_ hge hcm (.inr (by simp));.have:=iV w.drew (.cells ((C.toList.take (B.rows.length*i.size)).toArray++(news i.size m gv).toArray++Builtin.zeroCells z.cells (grownCap w (B.rows.length+m) cap e-(B.rows.length+m))) e);have e1:w.drew.heap.size=w.heap.size:=rfl;rw[e1]at this;unfold World.shape?;rw[this]
  rw[bAP,bAP,gW,gW,hnl,hol,size_zeroCells,hsz.1,<-cX,<-cX];exact dE _ oO
end
def del{α:Type}(l:List (Nat×α))(k:Nat):List (Nat×α):=
 match l with
 |[]=>[]
 |(a,x)::r=>if a=k then del r k else(a,x)::del r k
theorem gI{α:Type}:∀(l:List (Nat×α)) (k j:Nat),look (del l k) j=if j=k then none else look l j
 |[],k,j=>by simp[del,look]
 |(a,x)::r,k,j=>by
  simp only[del];by_cases h:a=k
  .rw[if_pos h,gI r k j];by_cases h2:j=k;.rw[if_pos h2,if_pos h2]
   rw[if_neg h2,if_neg h2];simp only[look];rw[if_neg oO]
  rw[if_neg h];simp only[look];by_cases h3:a=j;.rw[if_pos h3,if_pos h3,if_neg oO]
  rw[if_neg h3,if_neg h3];exact gI r k j
def gK(fr:Fr)(d:Option Nat)(v:AVal):Fr:=
 match d with
 |some t=>(t,v)::del fr t
 |none=>fr
def lD(H:aS):List (Nat×Option Blk)->aS
 |[]=>H
 |(id,some B)::r=>(id,B)::del (lD H r) id
 |(id,none)::r=>del (lD H r) id
def uA(upd:List (Nat×Option Blk))(id:Nat):Option (Option Blk):=look upd id
theorem tI(fr:Fr)(d:Option Nat)(v:AVal)(t:Nat):look (gK fr d v) t=if d=some t then some v else look fr t:=by
 cases d with
 |none=>simp[gK]
 |some x=>
  simp only[gK,look];by_cases h:x=t;.rw[if_pos h,if_pos (by rw[h])]
  rw[if_neg h,gI,if_neg (λ e=>h e.symm),if_neg (λ e=>h (by cases e;rfl))]
theorem mD(H:aS):∀(upd:List (Nat×Option Blk)) (id:Nat),look (lD H upd) id=match uA upd id with|some x=>x|none=>look H id
 |[],id=>rfl
 |(i,some B)::r,id=>by
  simp only[lD,look,uA];by_cases h:i=id;.rw[if_pos h,if_pos h]
  rw[if_neg h,if_neg h,gI,if_neg (λ e=>h e.symm)];exact mD H r id
 |(i,none)::r,id=>by
  simp only[lD,look,uA];by_cases h:i=id;.rw[if_pos h,gI,if_pos h.symm]
  rw[if_neg h,gI,if_neg (λ e=>h e.symm)];exact mD H r id
theorem mQ(H:lP)(A:bU):∀(upd:List (Nat×Option Blk)) (id:Nat),iR H A upd id=match uA upd id with|some x=>x.map λ B=>(B,A)|none=>H id
 |[],id=>rfl
 |(i,x)::r,id=>by
  simp only[iR,uA,look];by_cases h:id=i;.rw[if_pos h,if_pos h.symm]
  rw[if_neg h,if_neg (λ e=>h e.symm)];exact mQ H A r id
def a7I(want:Bool):Value->Bool
 | .bool b=>b==want
 |_=>false
def mJ(all:Array Oper)(fr:Fr)(o:Oper):Option Bool:=
 match o.guard with
 |none=>some true
 | some (j,want)=>match((all[j]?).bind (·.dst)).bind (look fr)with
   |some (.lit v)=>some (a7I want v)
   |_=>none
structure Good (P:Program) (Γ:List (Nat×List AVal)) (o:Oper) (ev:Operand->Option AVal) (get:Nat->Option Blk) (k:Nat) (out:Out):Prop where
 ok:OpOk P Γ o ev get k out
 rds:∀id,id∈out.rds->(get id).isSome=true
 le:k<=out.k
structure Foot where
 rds:List Nat
 mods:List Nat
 k:Nat
 k':Nat
def Run(P:Program)(Γ:List (Nat×List AVal))(all:Array Oper):List Oper->Nat->Fr->aS->(List Foot->Nat->Fr->aS->Prop)->Prop
 |[],k,fr,H,K=>K [] k fr H
 | o::r,k,fr,H,K=>
   (mJ all fr o=some false/\Run P Γ all r k (gK fr o.dst (.lit undef)) H (λ tr=>K (⟨[],[],k,k⟩::tr)))∨
   (mJ all fr o=some true/\∃out,Good P Γ o (kB Γ fr) (look H) k out/\Run P Γ all r out.k (gK fr o.dst out.v) (lD H out.upd) (λ tr=>K (⟨out.rds,out.upd.map (·.1),k,out.k⟩::tr)))
def mM(nt:Nat)(ops:Array Oper):Bool:=ops.toList.all λ o=>match o.dst with|some d=>decide (d<nt)|none=>true
section
variable{P:Program}{Γ:List (Nat×List AVal)}{nt kb:Nat}{Q:AQ}{k:Nat}{fr:Fr}{H:aS}
theorem aUG(A0:bU)(kb k k':Nat)(h0:kb<=k)(h:k<=k'):(λ i=>jA A0 kb k i\/(k<=i/\i<k'))=jA A0 kb k':=funext λ i=>by
 simp only[jA,eq_iff_iff];constructor
 .rintro((h|h)|h);.exact .inl h
  .exact .inr ⟨h.1,oO⟩
  exact .inr ⟨oO,h.2⟩
 rintro(h|h);.exact .inl (.inl h)
 by_cases hi:i<k;.exact .inl (.inr ⟨h.1,hi⟩)
 exact .inr ⟨oO,h.2⟩
theorem aEI{A0:bU}{kb k:Nat}(hA0:∀i,A0 i->i<kb)(h:kb<=k):∀i,jA A0 kb k i->i<k:=λ i hi=>by
 rcases hi with hi|hi;.have:=hA0 i hi;omega
 exact hi.2
theorem zW(a:Act)(d:Option Nat)(cv:Value)(t:Nat)(hd:∀x,d=some x->x<a.tmps.size):(a.put d cv).tmps.getD t undef=if d=some t then cv else a.tmps.getD t undef:=by
 cases d with
 |none=>simp[Act.put]
 |some x=>
  have hx:=hd x rfl;simp only[Act.put,aD];by_cases h:x=t;.subst h;rw[if_pos rfl,qV hx];rfl
  rw[if_neg (λ e=>h (by cases e;rfl)),kR h]
theorem zV(a:Act)(d:Option Nat)(cv:Value):(a.put d cv).tmps.size=a.tmps.size:=by cases d<;>simp[Act.put]
theorem tX(a:Act)(d:Option Nat)(cv:Value):(a.put d cv).defers=a.defers:=by cases d<;>rfl
theorem yQ{ops:Array Oper}(h:mM nt ops=true){i:Nat}{o:Oper}(hi:ops[i]? =some o):∀x,o.dst=some x->x<nt:=by intro x hx;have:=aW.1 h o (by simpa using bGD hi);rw[hx]at this;simpa using this
theorem yH{ops:Array Oper}{o:Oper}{a:Act}{b:Bool}(hd:mM nt ops=true)(hsz:a.tmps.size=nt)
 (hslot:∀j want,o.guard=some (j,want)->∀t,(ops[j]?).bind (·.dst)=some t->∀c,look fr t=some (.lit c)->a.tmps.getD t undef=c) (hg:mJ ops fr o=some b):
 Region.wanted o (yielded ops a.tmps)=b:=by
 unfold mJ at hg;unfold Region.wanted
 cases hgd:o.guard with
 |none=>rw[hgd]at hg;cases hg;rfl
 |some jw=>
  obtain⟨j,want⟩:=jw;rw[hgd]at hg;simp only at hg⊢
  split at hg
  .rename_i c hc;cases hg;obtain⟨t,ht,hl⟩:=bX.1 hc;have h1:=hslot j want hgd t ht c hl;obtain⟨o',ho',hd'⟩:=bX.1 ht;have hlt:t<a.tmps.size:=by rw[hsz];exact yQ hd ho' t hd'
   unfold yielded;rw[ht];have h2:a.tmps[t]? =some c:=by rw[aD,aP hlt]at h1;rw[aP hlt];simpa using h1
   simp only[bKF,h2];cases c<;>first|rfl|(rename_i c;cases c<;>cases want<;>rfl)
  cases hg
theorem PU{ops:Array Oper}(hd:mM nt ops=true){A0:bU}(hA0:∀i,A0 i->i<kb){w0:World}{G0:Nat->Prop}{ρ0:cM}{Q':Exit->Act->World->Prop}:
 ∀ (l:List Oper) (i:Nat),(∀j,l[j]? =ops[i+j]?)->∀(k:Nat) (fr:Fr) (H:aS) (K:List Foot->Nat->Fr->aS->Prop),kb<=k->Run P Γ ops l k fr H K→
   ∀w G ρ a,Inv Γ nt w G ρ (jA A0 kb k) a fr H->Step (kN kb) w0 G0 ρ0 w G ρ→
   (∀tr k' fr' H' G' ρ' a' w',K tr k' fr' H'->kb<=k'->Inv Γ nt w' G' ρ' (jA A0 kb k') a' fr' H'->Step (kN kb) w0 G0 ρ0 w' G' ρ'->Q' .normal a' w')->wpOps P ops Q' (List.range' i l.length) a w:=by
 intro l
 induction l with
 |nil=>intro i hl k fr H K hk hrun w G ρ a hi hs hK;exact hK [] k fr H G ρ a w hrun hk hi hs
 |cons o r ih=>
  intro i hl k fr H K hk hrun w G ρ a hi hs hK;have ho:ops[i]? =some o:=by have:=hl 0;simpa using this.symm
  have hdst:=yQ hd ho;have hl':∀j,r[j]? =ops[i+1+j]? :=λ j=>by have:=hl (j+1);rw[eW]at this;rw[this];congr 1;omega
  have hslot:∀j want,o.guard=some (j,want)->∀t,(ops[j]?).bind (·.dst)=some t->∀c,look fr t=some (.lit c)->a.tmps.getD t undef=c:=
   λ j want _ t _ c hc=>gV (hi.frm t _ hc)
  have hlt:=aEI (A0:=A0) hA0 hk;rw[lZ,List.range'_succ,wpOps_cons];unfold wpOp;rw[ho];rcases hrun with⟨hg,hrun⟩|⟨hg,out,⟨hop,hrds,hkk⟩,hrun⟩
  .simp only[yH hd hi.size hslot hg,aO,if_false];refine ih (i+1) hl' k _ H _ hk hrun w G ρ (a.put o.dst undef) ⟨hi.rel,by rw[zV];exact hi.size,by rw[tX];exact hi.defers,λ t v hv=>?_⟩ hs (λ tr k' fr' H' G' ρ' a' w' h1=>hK _ k' fr' H' G' ρ' a' w' h1);rw[tI]at hv;rw[zW a o.dst undef t (λ x hx=>by rw[hi.size];exact hdst x hx)];split at hv;.rename_i he;cases hv;rw[if_pos he];exact .lit
   rename_i hne;rw[if_neg hne];exact hi.frm t v hv
  simp only[yH hd hi.size hslot hg,if_true];left;have hHof:∀id B A',bK H (jA A0 kb k) id=some (B,A')->A'=jA A0 kb k:=λ id B A' hH=>by simp only[bK,aB]at hH;obtain⟨B',_,he⟩:=hH;cases he;rfl
  refine hop w G ρ (bK H (jA A0 kb k)) (jA A0 kb k) a hi.rel hlt (λ j h1 h2=>?_) (λ id hid=>?_) (λ x _ v hv=>VF hi hv) _ Q' (λ w' G' ρ' cv hrel hv hst=>?_)
  .refine⟨?_,λ id B A' hH hA=>?_⟩
   .cases hρ:ρ j with
    |none=>rfl
    |some x=>
     cases hH:bK H (jA A0 kb k) j with
     |none=>rw[hi.rel.dom j hH]at hρ;cases hρ
     |some y=>obtain⟨B,A⟩:=y;have hA:=(hi.rel.blk j B A hH).1;rw[hHof j B A hH]at hA;have:=hlt j hA;omega
   rw[hHof id B A' hH]at hA;have:=hlt j hA;omega
  .obtain⟨B,hB⟩:=fK.1 (hrds id hid);exact⟨B,jA A0 kb k,hB,by simp only[bK,hB,cB],λ _ h=>h⟩
  have hst':Step (kN kb) w G ρ w' G' ρ':=⟨hst.size,hst.keep,hst.shape,hst.g,hst.g',hst.own,λ j hj=>hst.ids j (λ hc=>by simp only[kN]at hj;omega),hst.os,hst.tape,hst.output⟩;rw[aUG A0 kb k out.k hk hkk]at hrel hv
  have hup:∀j,jA A0 kb k j->jA A0 kb out.k j:=λ j hj=>by
   rcases hj with hj|hj;.exact .inl hj
   exact .inr ⟨hj.1,oO⟩
  refine ih (i+1) hl' out.k _ _ _ oO hrun w' G' ρ' (a.put o.dst cv) ⟨?_,by rw[zV];exact hi.size,by rw[tX];exact hi.defers,λ t v hv'=>?_⟩ (hs.trans hst' (λ _ h=>h)) (λ tr k' fr' H' G' ρ' a' w' h1=>hK _ k' fr' H' G' ρ' a' w' h1)
  .refine hrel.allow _ (λ id hid=>?_) (λ id B A' hid=>?_)
   .simp only[bK,dG]at hid;rw[mD]at hid;rw[mQ];split at hid;.rename_i x hx;rw[hid];rfl
    rename_i hx;simp only[bK,hid,oC]
   simp only[bK,aB]at hid;obtain⟨B',hB',he⟩:=hid;cases he;rw[mD]at hB';rw[mQ];split at hB';.rename_i x hx;rw[hB'];exact⟨jA A0 kb out.k,rfl,λ _ h=>h⟩
   rename_i hx;exact⟨jA A0 kb k,by simp only[bK,hB',cB],hup⟩
  rw[tI]at hv';rw[zW a o.dst cv t (λ x hx=>by rw[hi.size];exact hdst x hx)];split at hv';.rename_i he;cases hv';rw[if_pos he];exact hv
  rename_i hne;rw[if_neg hne];exact(hi.frm t v hv').step hi.rel hst (λ j hj hc=>by have:=hlt j hj;omega) hup
theorem NY{id:Nat}{ops:Array Oper}(hd:mM nt ops=true)(h:Run P Γ ops ops.toList k fr H (λ _ k' fr' H'=>kb<=k'->Q .normal k' fr' H')):W P Γ nt kb (.region id ops false) Q k fr H:=λ A0 hA0 hk w G ρ a hi=>by
 refine wp_region ?_
 have:=PU (kb:=kb) (Q':=Post Γ nt A0 kb w G ρ Q) hd hA0 ops.toList 0 (λ j=>by rw[bA,dV]) k fr H _ hk h w G ρ a hi (jT _ _ _ _)
  (λ tr k' fr' H' G' ρ' a' w' hK hk' hi' hs'=>⟨G',ρ',k',fr',H',hK hk',hk',hi',hs'⟩)
 rw[vM,<-List.range_eq_range']at this;exact this
end
inductive Bef (ops:Array Oper):Nat->Nat->Prop
 |edge {i o e}:ops[i]? =some o->e∈o.after->Region.binds .any e=true->Bef ops e.on i
 |trans {a b c}:Bef ops a b->Bef ops b c->Bef ops a c
def aEB(ops:Array Oper):Nat->Nat->Nat->Bool
 |0,_,_=>false
 | f+1,j,i=>match ops[i]? with
   |some o=>o.after.toList.any λ e=>Region.binds .any e&&(e.on==j||aEB ops f j e.on)
   |none=>false
theorem aLO{ops:Array Oper}:∀(f j i:Nat),aEB ops f j i=true->Bef ops j i:=by
 intro f
 induction f with
 |zero=>intro j i h;cases h
 |succ f ih=>
  intro j i h;simp only[aEB]at h;split at h
  .rename_i o ho;obtain⟨e,he',hb⟩:=aHT.1 h;have he:e∈o.after:=by simpa using he'
   simp only[aC,bH,beq_iff_eq]at hb;obtain⟨h1,h2⟩:=hb;rcases h2 with rfl|h2;.exact .edge ho he h1
   exact .trans (ih j e.on h2) (.edge ho he h1)
  cases h
def pC(ops:Array Oper)(o:Oper):List Nat:=
 (o.op.operands.toList.filterMap λ | .tmp t=>some t|_=>none)++(match o.guard with|some (j,_)=>((ops[j]?).bind (·.dst)).toList|none=>[])
def jO(a b:List Nat):Bool:=a.any λ x=>b.contains x
def EX(o:Oper):List Nat:=o.dst.toList
def nB(ops:Array Oper)(oj:Oper)(fj:Foot)(oi:Oper)(fi:Foot):Bool:=
 jO (EX oj) (pC ops oi)||jO (EX oj) (EX oi)||jO (EX oi) (pC ops oj)||jO fj.mods fi.rds||jO fj.mods fi.mods||jO fj.rds fi.mods
def kS(ops:Array Oper)(tr:List Foot):Bool:=
 (aM ops.size).all λ i=>match ops[i]?,tr[i]? with
   |some oi,some fi=>(oi.after.toList.all λ e=> !Region.binds .any e||decide (e.on<i))&&(fi.mods.all λ x=>decide (x<fi.k'))&&
      (aM i).all λ j=>match ops[j]?,tr[j]? with
        |some oj,some fj=> !nB ops oj fj oi fi||aEB ops ops.size j i
        |_,_=>false
   |_,_=>false
theorem xA{a b:List Nat}(h:jO a b=false){x:Nat}(h1:x∈a)(h2:x∈b):False:=by unfold jO at h;have:=List.any_eq_false.1 h x h1;simp at this;exact this h2
section
variable{P:Program}{Γ:List (Nat×List AVal)}{nt kb:Nat}{Q:AQ}{k:Nat}{fr:Fr}{H:aS}
def OA(P:Program)(Γ:List (Nat×List AVal))(ops:Array Oper)(o:Oper)(k:Nat)(fr:Fr)(H:aS)(out:Option Out)(k':Nat)(fr':Fr)(H':aS):Prop:=
 match out with
 |none=>mJ ops fr o=some false/\k'=k/\fr'=gK fr o.dst (.lit undef)/\H'=H
 |some out=>mJ ops fr o=some true/\Good P Γ o (kB Γ fr) (look H) k out/\k'=out.k/\fr'=gK fr o.dst out.v/\H'=lD H out.upd
def rD(k k':Nat):Option Out->Foot
 |none=>⟨[],[],k,k'⟩
 |some out=>⟨out.rds,out.upd.map (·.1),k,k'⟩
theorem aOO{ops:Array Oper}:∀(l:List Oper) (k:Nat) (fr:Fr) (H:aS) (K:List Foot->Nat->Fr->aS->Prop),Run P Γ ops l k fr H K→
 ∃ (kf:Nat->Nat) (frf:Nat->Fr) (Hf:Nat->aS) (outf:Nat->Option Out),kf 0=k/\frf 0=fr/\Hf 0=H∧
   (∀j o,l[j]? =some o->OA P Γ ops o (kf j) (frf j) (Hf j) (outf j) (kf (j+1)) (frf (j+1)) (Hf (j+1)))∧
   ∃tr:List Foot,tr.length=l.length/\(∀j,j<l.length->tr[j]? =some (rD (kf j) (kf (j+1)) (outf j)))/\K tr (kf l.length) (frf l.length) (Hf l.length):=by
 intro l
 induction l with
 |nil=>intro k fr H K h;exact⟨λ _=>k,λ _=>fr,λ _=>H,λ _=>none,rfl,rfl,rfl,λ j o hj=>by simp at hj,[],rfl,λ j hj=>by simp at hj,h⟩
 |cons o r ih=>
  intro k fr H K h;rcases h with⟨hg,h⟩|⟨hg,out,hgood,h⟩
  .obtain⟨kf,frf,Hf,outf,h1,h2,h3,h4,tr,h5,h6,h7⟩:=ih _ _ _ _ h;refine⟨λ j=>match j with|0=>k|j+1=>kf j,λ j=>match j with|0=>fr|j+1=>frf j,λ j=>match j with|0=>H|j+1=>Hf j,λ j=>match j with|0=>none|j+1=>outf j,rfl,rfl,rfl,λ j o' hj=>?_,⟨[],[],k,k⟩::tr,by simp[h5],λ j hj=>?_,h7⟩
   .cases j with
    |zero=>cases hj;exact⟨hg,h1,h2,h3⟩
    |succ j=>exact h4 j o' (by simpa using hj)
   cases j with
   |zero=>simp[rD,h1]
   |succ j=>exact h6 j (by simpa using hj)
  obtain⟨kf,frf,Hf,outf,h1,h2,h3,h4,tr,h5,h6,h7⟩:=ih _ _ _ _ h;refine⟨λ j=>match j with|0=>k|j+1=>kf j,λ j=>match j with|0=>fr|j+1=>frf j,λ j=>match j with|0=>H|j+1=>Hf j,λ j=>match j with|0=>some out|j+1=>outf j,rfl,rfl,rfl,λ j o' hj=>?_,⟨out.rds,out.upd.map (·.1),k,out.k⟩::tr,by simp[h5],λ j hj=>?_,h7⟩
  .cases j with
   |zero=>cases hj;exact⟨hg,hgood,h1,h2,h3⟩
   |succ j=>exact h4 j o' (by simpa using hj)
  cases j with
  |zero=>simp[rD,h1]
  |succ j=>exact h6 j (by simpa using hj)
structure Text (A0:bU) (P:Program) (Γ:List (Nat×List AVal)) (ops:Array Oper) (kf:Nat->Nat) (frf:Nat->Fr) (Hf:Nat->aS) (outf:Nat->Option Out):Prop where
 init:∀x,A0 x->x<kf 0
 step:∀j o,ops[j]? =some o->OA P Γ ops o (kf j) (frf j) (Hf j) (outf j) (kf (j+1)) (frf (j+1)) (Hf (j+1))
 low:∀i o e,ops[i]? =some o->e∈o.after->Region.binds .any e=true->e.on<i
 mods:∀i o out x,ops[i]? =some o->outf i=some out->x∈out.upd.map (·.1)->x<kf (i+1)
 apart:∀i j oi oj,j<i->ops[i]? =some oi->ops[j]? =some oj->nB ops oj (rD (kf j) (kf (j+1)) (outf j)) oi (rD (kf i) (kf (i+1)) (outf i))=true->Bef ops j i
variable{A0:bU}{ops:Array Oper}{kf:Nat->Nat}{frf:Nat->Fr}{Hf:Nat->aS}{outf:Nat->Option Out}
def aHY(outf:Nat->Option Out)(j:Nat):AVal:=match outf j with|some out=>out.v|none=> .lit undef
def zZ(kf:Nat->Nat)(j x:Nat):Prop:=kf j<=x/\x<kf (j+1)
def aMN(A0:bU)(ops:Array Oper)(kf:Nat->Nat)(i:Nat):bU:=λ x=>A0 x\/∃j,j<ops.size/\Bef ops j i/\zZ kf j x
def Aop(A0:bU)(ops:Array Oper)(kf:Nat->Nat)(i:Nat):bU:=λ x=>aMN A0 ops kf i x\/zZ kf i x
def qC(ops:Array Oper)(j:Nat):Option Nat:=(ops[j]?).bind (·.dst)
def mW(outf:Nat->Option Out)(j id:Nat):Option (Option Blk):=match outf j with|some out=>uA out.upd id|none=>none
def EO(A0:bU)(ops:Array Oper)(kf:Nat->Nat)(fr0:Fr)(outf:Nat->Option Out)(D:Nat->Bool):Nat->Nat->Option (AVal×bU)
 |0,t=>(look fr0 t).map λ v=>(v,A0)
 |m+1,t=>if D m=true/\qC ops m=some t then some (aHY outf m,Aop A0 ops kf m)else EO A0 ops kf fr0 outf D m t
def HD(A0:bU)(ops:Array Oper)(kf:Nat->Nat)(H0:aS)(outf:Nat->Option Out)(D:Nat->Bool):Nat->lP
 |0,id=>bK H0 A0 id
 |m+1,id=>if D m=true then(match mW outf m id with|some x=>x.map λ B=>(B,Aop A0 ops kf m)|none=>HD A0 ops kf H0 outf D m id)else HD A0 ops kf H0 outf D m id
theorem BO{fr0:Fr}{D D':Nat->Bool}{t:Nat}:∀(m:Nat),(∀j,j<m->qC ops j=some t->D j=D' j)->EO A0 ops kf fr0 outf D m t=EO A0 ops kf fr0 outf D' m t:=by
 intro m
 induction m with
 |zero=>intro _;rfl
 |succ m ih=>
  intro h;simp only[EO];rw[ih (λ j hj=>h j oO)];by_cases hd:qC ops m=some t;.rw[h m oO hd]
  rw[if_neg (λ c=>hd c.2),if_neg (λ c=>hd c.2)]
theorem FR{H0:aS}{D D':Nat->Bool}{id:Nat}:∀(m:Nat),(∀j,j<m->(mW outf j id).isSome=true->D j=D' j)->HD A0 ops kf H0 outf D m id=HD A0 ops kf H0 outf D' m id:=by
 intro m
 induction m with
 |zero=>intro _;rfl
 |succ m ih=>
  intro h;simp only[HD];rw[ih (λ j hj=>h j oO)]
  cases hm:mW outf m id with
  |none=>simp
  |some x=>rw[h m oO (by rw[hm];rfl)]
theorem aYF{fr0:Fr}{t i:Nat}:∀(m:Nat),i<=m->EO A0 ops kf fr0 outf (λ j=>decide (j<i)) m t=EO A0 ops kf fr0 outf (λ _=>true) i t:=by
 intro m
 induction m with
 |zero=>intro h;have:i=0:=oO;subst this;rfl
 |succ m ih=>
  intro h;by_cases he:i=m+1;.subst he;exact BO _ (λ j hj _=>by simp;omega)
  simp only[EO];rw[if_neg (by simp;omega)];exact ih oO
theorem a5U{H0:aS}{id i:Nat}:∀(m:Nat),i<=m->HD A0 ops kf H0 outf (λ j=>decide (j<i)) m id=HD A0 ops kf H0 outf (λ _=>true) i id:=by
 intro m
 induction m with
 |zero=>intro h;have:i=0:=oO;subst this;rfl
 |succ m ih=>
  intro h;by_cases he:i=m+1;.subst he;exact FR _ (λ j hj _=>by simp;omega)
  simp only[HD];rw[if_neg (by simp;omega)];exact ih oO
theorem YI(T:Text A0 P Γ ops kf frf Hf outf){t:Nat}:∀(i:Nat),i<=ops.size->(EO A0 ops kf (frf 0) outf (λ _=>true) i t).map (·.1)=look (frf i) t:=by
 intro i
 induction i with
 |zero=>intro _;simp only[EO];cases look (frf 0) t<;>rfl
 |succ i ih=>
  intro hi;have ho:ops[i]? =some ops[i]:=aP oO;have hs:=T.step i _ ho;simp only[EO,true_and];have hd:qC ops i=(ops[i]).dst:=by simp[qC,ho]
  unfold OA at hs
  cases hout:outf i with
  |none=>
   rw[hout]at hs;rw[hs.2.2.1,tI,hd];split;.simp[aHY,hout]
   exact ih oO
  |some out=>
   rw[hout]at hs;rw[hs.2.2.2.1,tI,hd];split;.simp[aHY,hout]
   exact ih oO
theorem VS(T:Text A0 P Γ ops kf frf Hf outf){id:Nat}:∀(i:Nat),i<=ops.size->(HD A0 ops kf (Hf 0) outf (λ _=>true) i id).map (·.1)=look (Hf i) id:=by
 intro i
 induction i with
 |zero=>intro _;simp only[HD,bK];cases look (Hf 0) id<;>rfl
 |succ i ih=>
  intro hi;have ho:ops[i]? =some ops[i]:=aP oO;have hs:=T.step i _ ho;simp only[HD,if_true];unfold OA at hs
  cases hout:outf i with
  |none=>rw[hout]at hs;rw[hs.2.2.2];simp only[mW,hout];exact ih oO
  |some out=>
   rw[hout]at hs;rw[hs.2.2.2.2,mD];simp only[mW,hout]
   cases hx:uA out.upd id with
   |none=>exact ih oO
   |some x=>cases x<;>rfl
theorem rK(T:Text A0 P Γ ops kf frf Hf outf):∀(j i:Nat),i<=j->j<=ops.size->kf i<=kf j:=by
 intro j
 induction j with
 |zero=>intro i h _;have:i=0:=oO;subst this;exact aF _
 |succ j ih=>
  intro i h hj;by_cases he:i=j+1;.subst he;exact aF _
  have h1:=ih i oO oO;have ho:ops[j]? =some ops[j]:=aP oO;have hs:=T.step j _ ho;unfold OA at hs
  cases hout:outf j with
  |none=>rw[hout]at hs;rw[hs.2.1];exact h1
  |some out=>rw[hout]at hs;rw[hs.2.2.1];exact DS h1 hs.2.1.le
theorem aFT(T:Text A0 P Γ ops kf frf Hf outf){i j x:Nat}(hi:i<ops.size)(hj:j<ops.size)(h1:zZ kf i x)(h2:zZ kf j x):i=j:=by
 rcases mH i j with h|h|h;.have:=rK T j (i+1) oO oO;unfold zZ at*;omega
 .exact h
 have:=rK T i (j+1) oO oO;unfold zZ at*;omega
theorem zY(T:Text A0 P Γ ops kf frf Hf outf){i x:Nat}(hi:i<ops.size)(h1:zZ kf i x)(h2:A0 x):False:=by have h3:=T.init x h2;have:=rK T i 0 oO oO;unfold zZ at*;omega
theorem a5W(T:Text A0 P Γ ops kf frf Hf outf){i j:Nat}(h:Bef ops j i):j<i:=by
 induction h with
 |edge ho he hb=>exact T.low _ _ _ ho he hb
 |trans _ _ h1 h2=>omega
theorem aKP{fr0:Fr}{t i:Nat}(hb:∀j,j<i->qC ops j=some t->Bef ops j i):∀(m:Nat),m<=i->i<ops.size->∀v A,EO A0 ops kf fr0 outf (λ _=>true) m t=some (v,A)->∀x,A x->aMN A0 ops kf i x:=by
 intro m
 induction m with
 |zero=>intro _ _ v A h x hx;simp only[EO,aB]at h;obtain⟨u,_,he⟩:=h;cases he;exact .inl hx
 |succ m ih=>
  intro hm hi v A h x hx;simp only[EO,true_and]at h;split at h
  .rename_i hd;cases h;have hbm:=hb m oO hd;rcases hx with(hx|⟨j,hj,hbj,hn⟩)|hx;.exact .inl hx
   .exact .inr ⟨j,hj,.trans hbj hbm,hn⟩
   exact .inr ⟨m,oO,hbm,hx⟩
  exact ih oO hi v A h x hx
theorem aUZ{H0:aS}{id i:Nat}(hb:∀j,j<i->(mW outf j id).isSome=true->Bef ops j i):∀(m:Nat),m<=i->i<ops.size->∀B A,HD A0 ops kf H0 outf (λ _=>true) m id=some (B,A)->∀x,A x->aMN A0 ops kf i x:=by
 intro m
 induction m with
 |zero=>intro _ _ v A h x hx;simp only[HD,bK,aB]at h;obtain⟨u,_,he⟩:=h;cases he;exact .inl hx
 |succ m ih=>
  intro hm hi v A h x hx;simp only[HD,if_true]at h
  cases hmod:mW outf m id with
  |none=>rw[hmod]at h;exact ih oO hi v A h x hx
  |some y=>
   rw[hmod]at h;simp only[aB]at h;obtain⟨B',_,he⟩:=h;cases he;have hbm:=hb m oO (by rw[hmod];rfl);rcases hx with(hx|⟨j,hj,hbj,hn⟩)|hx;.exact .inl hx
   .exact .inr ⟨j,hj,.trans hbj hbm,hn⟩
   exact .inr ⟨m,oO,hbm,hx⟩
theorem RZ(T:Text A0 P Γ ops kf frf Hf outf){D:Nat->Bool}(hD:∀j,D j=true->∀l,Bef ops l j->D l=true){i:Nat}(hi:i<ops.size)(hDi:D i=false){x:Nat}(hx:zZ kf i x){j:Nat}(hj:j<ops.size)(hDj:D j=true):¬Aop A0 ops kf j x:=by
 rintro((h|⟨l,hl,hb,hn⟩)|h);.exact zY T hi hx h
 .have:=aFT T hi hl hx hn;subst this;rw[hD j hDj _ hb]at hDi;cases hDi
 have:=aFT T hi hj hx h;subst this;rw[hDj]at hDi;cases hDi
theorem aYE(T:Text A0 P Γ ops kf frf Hf outf){fr0:Fr}{D:Nat->Bool}(hD:∀j,D j=true->∀l,Bef ops l j->D l=true){i:Nat}(hi:i<ops.size)(hDi:D i=false){x:Nat}(hx:zZ kf i x){t:Nat}:
 ∀(m:Nat),m<=ops.size->∀v A,EO A0 ops kf fr0 outf D m t=some (v,A)->¬A x:=by
 intro m
 induction m with
 |zero=>intro _ v A h hA;simp only[EO,aB]at h;obtain⟨u,_,he⟩:=h;cases he;exact zY T hi hx hA
 |succ m ih=>
  intro hm v A h;simp only[EO]at h;split at h;.rename_i hd;cases h;exact RZ T hD hi hDi hx oO hd.1
  exact ih oO v A h
theorem a5T(T:Text A0 P Γ ops kf frf Hf outf){H0:aS}{D:Nat->Bool}(hD:∀j,D j=true->∀l,Bef ops l j->D l=true){i:Nat}(hi:i<ops.size)(hDi:D i=false){x:Nat}(hx:zZ kf i x){id:Nat}:
 ∀(m:Nat),m<=ops.size->∀B A,HD A0 ops kf H0 outf D m id=some (B,A)->¬A x:=by
 intro m
 induction m with
 |zero=>intro _ v A h hA;simp only[HD,bK,aB]at h;obtain⟨u,_,he⟩:=h;cases he;exact zY T hi hx hA
 |succ m ih=>
  intro hm v A h;simp only[HD]at h;split at h
  .rename_i hd
   cases hmod:mW outf m id with
   |none=>rw[hmod]at h;exact ih oO v A h
   |some y=>rw[hmod]at h;simp only[aB]at h;obtain⟨B',_,he⟩:=h;cases he;exact RZ T hD hi hDi hx oO hd
  exact ih oO v A h
theorem aGS{fr0:Fr}{D:Nat->Bool}{i t:Nat}(hn:qC ops i=some t->∀j,i<j->D j=true->qC ops j≠some t):∀(m:Nat),i<m→
 EO A0 ops kf fr0 outf (λ j=>if j=i then true else D j) m t=if qC ops i=some t then some (aHY outf i,Aop A0 ops kf i)else EO A0 ops kf fr0 outf D m t:=by
 intro m
 induction m with
 |zero=>intro h;omega
 |succ m ih=>
  intro h;by_cases he:m=i
  .subst he;simp only[EO,if_true,true_and];by_cases hd:qC ops m=some t;.rw[if_pos hd,if_pos hd]
   rw[if_neg hd,if_neg hd,if_neg (λ c=>hd c.2)];exact BO _ (λ j hj _=>by rw[if_neg oO])
  simp only[EO,if_neg he];rw[ih oO];by_cases hd:qC ops i=some t
  .rw[if_pos hd,if_pos hd];split;.rename_i hc;exact absurd hc.2 (hn hd m oO hc.1)
   rfl
  rw[if_neg hd,if_neg hd]
theorem aUY{H0:aS}{D:Nat->Bool}{i id:Nat}(hn:(mW outf i id).isSome=true->∀j,i<j->D j=true->mW outf j id=none)(hDi:D i=false):∀(m:Nat),i<m→
 HD A0 ops kf H0 outf (λ j=>if j=i then true else D j) m id=match mW outf i id with|some x=>x.map λ B=>(B,Aop A0 ops kf i)|none=>HD A0 ops kf H0 outf D m id:=by
 intro m
 induction m with
 |zero=>intro h;omega
 |succ m ih=>
  intro h;by_cases he:m=i;.subst he;simp only[HD,if_true];have hc:HD A0 ops kf H0 outf (λ j=>if j=m then true else D j) m id=HD A0 ops kf H0 outf D m id:=FR _ (λ j hj _=>by rw[if_neg oO]);rw[hc,if_neg (by rw[hDi];simp)]
  simp only[HD,if_neg he];rw[ih oO]
  cases hm:mW outf i id with
  |none=>rfl
  |some x=>
   simp only;split;.rename_i hDm;rw[hn (by rw[hm];rfl) m oO hDm]
   rfl
def aDT(ops:Array Oper)(D:Nat->Bool):Prop:=∀j,D j=true->∀l,Bef ops l j->D l=true
theorem IY{D:Nat->Bool}(h:∀i o e,D i=true->ops[i]? =some o->e∈o.after->Region.binds .any e=true->D e.on=true):aDT ops D:=by
 intro j hj l hb
 induction hb with
 |edge ho he hb=>exact h _ _ _ hj ho he hb
 |trans h1 h2 ih1 ih2=>exact ih1 (ih2 hj)
theorem aJK{D:Nat->Bool}(hc:aDT ops D){i:Nat}{o:Oper}(ho:ops[i]? =some o)(hr:∀e,e∈o.after->Region.binds .any e=true->D e.on=true):∀ {l},Bef ops l i->D l=true:=by
 intro l hb
 have key:∀ {a b},Bef ops a b->b=i->D a=true:=by
  intro a b hb
  induction hb with
  |edge ho' he hb'=>intro h;subst h;rw[ho]at ho';cases ho';exact hr _ he hb'
  |trans h1 h2 ih1 ih2=>intro h;exact hc _ (ih2 h) _ h1
 exact key hb rfl
structure DInv (A0:bU) (Γ:List (Nat×List AVal)) (nt:Nat) (ops:Array Oper) (kf:Nat->Nat) (fr0:Fr) (H0:aS) (outf:Nat->Option Out) (D:Nat->Bool) (w:World) (G:Nat->Prop) (ρ:cM) (a:Act):Prop where
 rel:HRel Γ w G ρ (HD A0 ops kf H0 outf D ops.size)
 size:a.tmps.size=nt
 defers:a.defers=[]
 frm:∀t v A,EO A0 ops kf fr0 outf D ops.size t=some (v,A)->V w G ρ A v (a.tmps.getD t undef)
theorem YJ{i:Nat}{out:Out}(h:outf i=some out):(rD (kf i) (kf (i+1)) (outf i)).rds=out.rds:=by rw[h];rfl
theorem aKS{i:Nat}{out:Out}(h:outf i=some out):(rD (kf i) (kf (i+1)) (outf i)).mods=out.upd.map (·.1):=by rw[h];rfl
theorem aFX:∀ {upd:List (Nat×Option Blk)} {id:Nat},(uA upd id).isSome=true->id∈upd.map (·.1)
 |[],id,h=>by simp[uA,look]at h
 |(i,x)::r,id,h=>by
  simp only[uA,look]at h;split at h;.rename_i he;simp[he]
  simp only[bG,jK];exact .inr (aFX h)
theorem yF{j id:Nat}(h:(mW outf j id).isSome=true):id∈(rD (kf j) (kf (j+1)) (outf j)).mods:=by
 unfold mW at h
 cases hout:outf j with
 |none=>rw[hout]at h;simp at h
 |some out=>rw[hout]at h;exact aFX h
theorem EW{o:Oper}{t:Nat}(h:o.dst=some t):t∈EX o:=by simp[EX,h]
theorem OV{oj oi:Oper}{fj fi:Foot}{t:Nat}(h1:oj.dst=some t)(h2:t∈pC ops oi):nB ops oj fj oi fi=true:=by
 cases hc:nB ops oj fj oi fi with
 |true=>rfl
 |false=>simp only[nB,fQ]at hc;exact(xA hc.1.1.1.1.1 (EW h1) h2).elim
theorem NF{oj oi:Oper}{fj fi:Foot}{t:Nat}(h1:t∈pC ops oj)(h2:oi.dst=some t):nB ops oj fj oi fi=true:=by
 cases hc:nB ops oj fj oi fi with
 |true=>rfl
 |false=>simp only[nB,fQ]at hc;exact(xA hc.1.1.1.2 (EW h2) h1).elim
theorem UV{oj oi:Oper}{fj fi:Foot}{t:Nat}(h1:oj.dst=some t)(h2:oi.dst=some t):nB ops oj fj oi fi=true:=by
 cases hc:nB ops oj fj oi fi with
 |true=>rfl
 |false=>simp only[nB,fQ]at hc;exact(xA hc.1.1.1.1.2 (EW h1) (EW h2)).elim
theorem FC{oj oi:Oper}{fj fi:Foot}{x:Nat}(h1:x∈fj.mods)(h2:x∈fi.rds\/x∈fi.mods):nB ops oj fj oi fi=true:=by
 cases hc:nB ops oj fj oi fi with
 |true=>rfl
 |false=>
  simp only[nB,fQ]at hc;rcases h2 with h2|h2;.exact(xA hc.1.1.2 h1 h2).elim
  exact(xA hc.1.2 h1 h2).elim
theorem OW{oj oi:Oper}{fj fi:Foot}{x:Nat}(h1:x∈fj.rds)(h2:x∈fi.mods):nB ops oj fj oi fi=true:=by
 cases hc:nB ops oj fj oi fi with
 |true=>rfl
 |false=>simp only[nB,fQ]at hc;exact(xA hc.2 h1 h2).elim
theorem aLA(T:Text A0 P Γ ops kf frf Hf outf)(hd:mM nt ops=true){D:Nat->Bool}(hDs:∀j,D j=true->j<ops.size)(hc:aDT ops D){i:Nat}{o:Oper}(ho:ops[i]? =some o)(hDi:D i=false)
 (hr:∀e,e∈o.after->Region.binds .any e=true->D e.on=true) {w:World} {G:Nat->Prop} {ρ:cM} {a:Act} (hinv:DInv A0 Γ nt ops kf (frf 0) (Hf 0) outf D w G ρ a)
 {K:Act->World->Prop} {Q':Exit->Act->World->Prop} (hK:∀w' G' ρ' a',DInv A0 Γ nt ops kf (frf 0) (Hf 0) outf (λ j=>if j=i then true else D j) w' G' ρ' a'->Step (kN (kf 0)) w G ρ w' G' ρ'->K a' w'):wpOp P ops Q' i K a w:=by
 have hi:i<ops.size:=by have:=(cZ.1 ho).1;exact this
 have hpre:∀ {l},Bef ops l i->D l=true:=aJK hc ho hr;have hdsti:qC ops i=o.dst:=by simp[qC,ho]
 have opAt:∀j t,qC ops j=some t->∃oj,ops[j]? =some oj/\oj.dst=some t:=λ j t h=>by obtain⟨oj,h1,h2⟩:=bX.1 h;exact⟨oj,h1,h2⟩
 have hslotD:∀t,t∈pC ops o->(∀j,j<i->qC ops j=some t->Bef ops j i)/\(∀j,qC ops j=some t->D j=decide (j<i)):=λ t ht=>by
  have h1:∀j,j<i->qC ops j=some t->Bef ops j i:=λ j hj hdj=>by obtain⟨oj,h2,h3⟩:=opAt j t hdj;exact T.apart i j o oj hj ho h2 (OV h3 ht)
  refine⟨h1,λ j hdj=>?_⟩;obtain⟨oj,h2,h3⟩:=opAt j t hdj;rcases mH j i with h|h|h;.rw[hpre (h1 j h hdj)];simp[h]
  .rw[h,hDi];simp
  have hb:=T.apart j i oj o h h2 ho (NF ht h3)
  cases hDj:D j with
  |false=>simp;omega
  |true=>rw[hc j hDj _ hb]at hDi;cases hDi
 have hslot:∀t,t∈pC ops o->∀v,look (frf i) t=some v->V w G ρ (aMN A0 ops kf i) v (a.tmps.getD t undef):=λ t ht v hv=>by
  obtain⟨h1,h2⟩:=hslotD t ht;have h3:=YI T (t:=t) i oO;rw[hv]at h3;simp only[aB]at h3;obtain⟨⟨v',A⟩,h4,h5⟩:=h3;simp only at h5;subst h5;have h6:EO A0 ops kf (frf 0) outf D ops.size t=some (v',A):=by rw[BO (D':=λ j=>decide (j<i)) ops.size (λ j _ hdj=>h2 j hdj),aYF ops.size oO];exact h4
  exact(hinv.frm t v' A h6).mono (λ _ h=>h) (λ _ _=>rfl) (λ _ _=>rfl) (aKP h1 i (aF _) hi v' A h4) (λ _ _=> .inr rfl)
 have hguard:∀b,mJ ops (frf i) o=some b->Region.wanted o (yielded ops a.tmps)=b:=λ b hb=>
  yH hd hinv.size (λ j want hg t ht c hcl=>by have:=hslot t (by unfold pC;rw[hg];simp[ht]) _ hcl;exact gV this) hb
 have hs:=T.step i o ho;unfold OA at hs;have hdst:=yQ hd ho;have hdn:∀t,qC ops i=some t->∀j,i<j->D j=true->qC ops j≠some t:=λ t ht j hj hDj hdj=>by obtain⟨oj,h2,h3⟩:=opAt j t hdj;rw[hdsti]at ht;have hb:=T.apart j i oj o hj h2 ho (UV ht h3);rw[hc j hDj _ hb]at hDi;cases hDi
 unfold wpOp;rw[ho]
 cases hout:outf i with
 |none=>
  rw[hout]at hs;obtain⟨hg,hk,hfr,hH⟩:=hs;simp only[hguard _ hg,aO,if_false];refine hK w G ρ (a.put o.dst undef) ⟨?_,by rw[zV];exact hinv.size,by rw[tX];exact hinv.defers,λ t v A hv=>?_⟩ (jT _ _ _ _)
  .have:HD A0 ops kf (Hf 0) outf (λ j=>if j=i then true else D j) ops.size=HD A0 ops kf (Hf 0) outf D ops.size:=funext λ id=>by rw[aUY (λ h=>by simp[mW,hout]at h) hDi ops.size hi];simp[mW,hout]
   rw[this];exact hinv.rel
  rw[aGS (hdn t) ops.size hi]at hv;rw[zW a o.dst undef t (λ x hx=>by rw[hinv.size];exact hdst x hx)];rw[hdsti]at hv;split at hv;.rename_i he;cases hv;rw[if_pos he];simp only[aHY,hout];exact .lit
  rename_i hne;rw[if_neg hne];exact hinv.frm t v A hv
 |some out=>
  rw[hout]at hs;obtain⟨hg,hgood,hk,hfr,hH⟩:=hs;simp only[hguard _ hg,if_true];left;have hnew:∀x,(kf i<=x/\x<out.k)↔zZ kf i x:=λ x=>by unfold zZ;rw[hk]
  have hmod1:∀id,(mW outf i id).isSome=true->∀j,i<j->D j=true->mW outf j id=none:=λ id h j hj hDj=>by
   cases hm:mW outf j id with
   |none=>rfl
   |some x=>have hj':=hDs j hDj;have hb:=T.apart j i _ o hj (aP hj') ho (FC (yF h) (.inr (yF (by rw[hm];rfl))));rw[hc j hDj _ hb]at hDi;cases hDi
  refine hgood.ok w G ρ (HD A0 ops kf (Hf 0) outf D ops.size) (aMN A0 ops kf i) a hinv.rel (λ x hx=>?_) (λ x h1 h2=>?_) (λ id hid=>?_) (λ x hx v hv=>?_) K Q' (λ w' G' ρ' cv hrel hv hst=>?_)
  .rcases hx with hx|⟨j,hj,hb,hnj⟩;.have h1:=T.init x hx;have h2:=rK T i 0 oO oO;omega
   have h1:=a5W T hb;have h2:=rK T i (j+1) oO oO;unfold zZ at hnj;omega
  .have hn:=(hnew x).1 ⟨h1,h2⟩;have hold:∀id B A,HD A0 ops kf (Hf 0) outf D ops.size id=some (B,A)->¬A x:=λ id B A h=>a5T T hc hi hDi hn ops.size (aF _) B A h;refine⟨?_,hold⟩
   cases hH:HD A0 ops kf (Hf 0) outf D ops.size x with
   |none=>exact hinv.rel.dom x hH
   |some y=>obtain⟨B,A⟩:=y;exact absurd (hinv.rel.blk x B A hH).1 (hold x B A hH)
  .obtain⟨B,hB⟩:=fK.1 (hgood.rds id hid)
   have h1:∀j,j<i->(mW outf j id).isSome=true->Bef ops j i:=λ j hj hm=>
    T.apart i j o _ hj ho (aP oO) (FC (yF hm) (.inl (by rw[YJ hout];exact hid)))
   have h2:∀j,j<ops.size->(mW outf j id).isSome=true->D j=decide (j<i):=λ j hj hm=>by
    rcases mH j i with h|h|h;.rw[hpre (h1 j h hm)];simp[h]
    .rw[h,hDi];simp
    have hb:=T.apart j i _ o h (aP hj) ho (OW (by rw[YJ hout];exact hid) (yF hm))
    cases hDj:D j with
    |false=>simp;omega
    |true=>rw[hc j hDj _ hb]at hDi;cases hDi
   have h3:=VS T (id:=id) i oO;rw[hB]at h3;simp only[aB]at h3;obtain⟨⟨B',A⟩,h4,h5⟩:=h3;simp only at h5;subst h5;refine⟨B',A,hB,?_,aUZ h1 i (aF _) hi B' A h4⟩;rw[FR (D':=λ j=>decide (j<i)) ops.size (λ j hj hm=>h2 j hj hm),a5U ops.size oO];exact h4
  .cases x with
   |tmp t=>exact hslot t (by unfold pC;simp only[cD,List.mem_filterMap];exact .inl ⟨.tmp t,by simpa using hx,rfl⟩) v hv
   |const c=>cases hv;exact .lit
   |global g=>simp only[kB,aB]at hv;obtain⟨cells,hl,rfl⟩:=hv;exact(hinv.rel.glob g cells hl).1.weaken
   |func f=>cases hv;exact .fn rfl (λ j v hj=>by simp at hj)
  have hA:(λ x=>aMN A0 ops kf i x\/(kf i<=x/\x<out.k))=Aop A0 ops kf i:=funext λ x=>by simp only[Aop,zZ,hk]
  rw[hA]at hrel hv;have hS:∀x A,¬A->(A->¬(kf i<=x/\x<out.k)):=λ x A h1 h2=>absurd h2 h1;refine hK w' G' ρ' (a.put o.dst cv) ⟨?_,by rw[zV];exact hinv.size,by rw[tX];exact hinv.defers,λ t v A hv'=>?_⟩ ?_
  .have:HD A0 ops kf (Hf 0) outf (λ j=>if j=i then true else D j) ops.size=iR (HD A0 ops kf (Hf 0) outf D ops.size) (Aop A0 ops kf i) out.upd:=funext λ id=>by rw[aUY (hmod1 id) hDi ops.size hi,mQ];simp only[mW,hout];all_goals(cases uA out.upd id<;>rfl)
   rw[this];exact hrel
  .rw[aGS (hdn t) ops.size hi]at hv';rw[zW a o.dst cv t (λ x hx=>by rw[hinv.size];exact hdst x hx)];rw[hdsti]at hv';split at hv';.rename_i he;cases hv';rw[if_pos he];simp only[aHY,hout];exact hv
   rename_i hne;rw[if_neg hne];exact(hinv.frm t v A hv').step hinv.rel hst (λ x hx hn=>aYE T hc hi hDi ((hnew x).1 hn) ops.size (aF _) v A hv' hx) (λ _ h=>h)
  exact⟨hst.size,hst.keep,hst.shape,hst.g,hst.g',hst.own,λ x hx=>hst.ids x (λ hn=>by have h2:=rK T i 0 oO oO;simp only[kN]at hx;omega),hst.os,hst.tape,hst.output⟩
end
section
variable{P:Program}{Γ:List (Nat×List AVal)}{nt kb:Nat}{Q:AQ}{k:Nat}{fr:Fr}{H:aS}
variable{A0:bU}{ops:Array Oper}{kf:Nat->Nat}{frf:Nat->Fr}{Hf:Nat->aS}{outf:Nat->Option Out}
theorem ZF{p p':Nat->Bool}:∀(l:List Nat) (x:Nat),(∀y,p' y=true->p y=true)->x∈l->p x=true->p' x=false->l.countP p'<l.countP p
 |[],x,_,h,_,_=>by simp at h
 |y::r,x,hp,h,h1,h2=>by
  have hle:r.countP p'<=r.countP p:=List.countP_mono_left (λ z _ hz=>hp z hz);rw[List.countP_cons,List.countP_cons];rcases jK.1 h with rfl|h;.rw[h1,h2];simp;omega
  have ih:=ZF r x hp h h1 h2
  cases hy:p' y with
  |true=>rw[hp y hy];simp;exact ih
  |false=>simp;omega
def tO(ops:Array Oper)(listed:Array Bool):Nat:=(aM ops.size).countP λ j=> !listed.getD j false
theorem aSG(T:Text A0 P Γ ops kf frf Hf outf)(hd:mM nt ops=true){w0:World}{G0:Nat->Prop}{ρ0:cM}{Q':Exit->Act->World->Prop}
 (hQ:∀w G ρ a,DInv A0 Γ nt ops kf (frf 0) (Hf 0) outf (λ j=>decide (j<ops.size)) w G ρ a->Step (kN (kf 0)) w0 G0 ρ0 w G ρ->Q' .normal a w):
 ∀ (fuel:Nat) (listed:Array Bool) (w:World) (G:Nat->Prop) (ρ:cM) (a:Act),listed.size=ops.size->tO ops listed<=fuel→
   (∀i o e,listed.getD i false=true->ops[i]? =some o->e∈o.after->Region.binds .any e=true->listed.getD e.on false=true)→
   DInv A0 Γ nt ops kf (frf 0) (Hf 0) outf (λ j=>listed.getD j false) w G ρ a->Step (kN (kf 0)) w0 G0 ρ0 w G ρ->wpAny P .any ops Q' fuel listed a w:=by
 have hall:∀(listed:Array Bool),listed.size=ops.size->Region.ready .any ops listed=[]->∀j,j<ops.size->listed.getD j false=true:=by
  intro listed hsz hr j
  induction j using Nat.strongRecOn with
  |_ j ih=>
   intro hj
   cases hl:listed.getD j false with
   |true=>rfl
   |false=>
    have hmem:j∈Region.ready .any ops listed:=by
     unfold Region.ready;rw[jY];refine⟨dO.2 hj,?_⟩;have ho:ops[j]? =some ops[j]:=aP hj
     have h1:listed.getD j true=false:=by
      rw[aD,aP oO]at hl⊢
      simpa using hl
     rw[h1,ho];simp only[cB,Option.getD_some,Bool.not_false,kQ];rw[Array.all_eq_true'];intro e he;by_cases hb:Region.binds .any e=true;.have hlt:=T.low j _ e ho he hb;rw[ih e.on hlt oO];simp
     simp[hb]
    rw[hr]at hmem;simp at hmem
 have hend:∀(listed:Array Bool) w G ρ a,listed.size=ops.size->DInv A0 Γ nt ops kf (frf 0) (Hf 0) outf (λ j=>listed.getD j false) w G ρ a->Step (kN (kf 0)) w0 G0 ρ0 w G ρ→
  Region.ready .any ops listed=[]->Q' .normal a w:=by
  intro listed w G ρ a hsz hinv hst hr
  have hl:=hall listed hsz hr
  have he:(λ j=>listed.getD j false)=λ j=>decide (j<ops.size):=funext λ j=>by
   by_cases hj:j<ops.size;.rw[hl j hj];simp[hj]
   rw[aD,gH oO];simp;omega
  rw[he]at hinv
  exact hQ w G ρ a hinv hst
 intro fuel
 induction fuel with
 |zero=>
  intro listed w G ρ a hsz hcnt hed hinv hst
  have hr:Region.ready .any ops listed=[]:=by
   rw[List.eq_nil_iff_forall_not_mem];intro i hi;unfold Region.ready at hi;rw[jY]at hi;obtain⟨h1,h2⟩:=hi;simp only[aC,aT]at h2;have hlt:=dO.1 h1
   have h3:listed.getD i false=false:=by
    have h4:=h2.1;rw[aD,aP oO]at h4⊢
    simpa using h4
   have h5:0<tO ops listed:=by unfold tO;rw[List.countP_pos_iff];exact⟨i,h1,by rw[h3];rfl⟩
   omega
  exact⟨hr,hend listed w G ρ a hsz hinv hst hr⟩
 |succ fuel ih=>
  intro listed w G ρ a hsz hcnt hed hinv hst;refine⟨hend listed w G ρ a hsz hinv hst,λ i hi=>?_⟩;unfold Region.ready at hi;rw[jY]at hi;obtain⟨h1,h2⟩:=hi;have hlt:=dO.1 h1;have ho:ops[i]? =some ops[i]:=aP hlt;rw[ho]at h2;simp only[cB,Option.getD_some,aC,aT]at h2
  have h3:listed.getD i false=false:=by
   have h4:=h2.1;rw[aD,aP oO]at h4⊢
   simpa using h4
  have hrdy:∀e,e∈(ops[i]).after->Region.binds .any e=true->listed.getD e.on false=true:=λ e he hb=>by have:=Array.all_eq_true'.1 h2.2 e he;simpa [hb]using this
  have hset:(λ j=>(listed.setIfInBounds i true).getD j false)=λ j=>if j=i then true else listed.getD j false:=funext λ j=>by
   by_cases hj:j=i;.subst hj;rw[if_pos rfl,aD,qV oO];rfl
   rw[if_neg hj,aD,kR (λ e=>hj e.symm),<-aD]
  refine aLA T hd (D:=λ j=>listed.getD j false) (λ j hj=>?_) (IY hed) ho h3 hrdy hinv (λ w' G' ρ' a' hinv' hst'=>?_)
  .by_cases hjl:j<ops.size;.exact hjl
   rw[aD,gH oO]at hj;simp at hj
  refine ih (listed.setIfInBounds i true) w' G' ρ' a' (by simp[hsz]) ?_ ?_ (by rw[hset];exact hinv') (hst.trans hst' (λ _ h=>h))
  .have hlt':tO ops (listed.setIfInBounds i true)<tO ops listed:=by
    unfold tO;refine ZF (aM ops.size) i (λ y hy=>?_) h1 (by rw[h3];rfl) (by rw[congrFun hset i];simp);have:=congrFun hset y;rw[this]at hy;by_cases hyi:y=i;.rw[if_pos hyi]at hy;simp at hy
    rw[if_neg hyi]at hy;exact hy
   omega
  intro j oj e hj hoj he hb;have e1:=congrFun hset j;have e2:=congrFun hset e.on;rw[e2];rw[e1]at hj;by_cases hji:j=i
  .subst hji;rw[ho]at hoj;cases hoj;by_cases hei:e.on=j;.rw[if_pos hei]
   rw[if_neg hei];exact hrdy e he hb
  rw[if_neg hji]at hj;by_cases hei:e.on=i;.rw[if_pos hei]
  rw[if_neg hei];exact hed j oj e hj hoj he hb
theorem aES{id:Nat}(hm:P.follows .mixedOrders=true)(hd:mM nt ops=true)(h:Run P Γ ops ops.toList k fr H (λ tr k' fr' H'=>kS ops tr=true/\(kb<=k'->Q .normal k' fr' H'))):
 W P Γ nt kb (.region id ops true) Q k fr H:=λ C0 hC0 hk w G ρ a hi=>by
 obtain⟨A0,hA0e⟩:∃A0,A0=jA C0 kb k:=⟨_,rfl⟩
 have hlt0:=aEI (A0:=C0) hC0 hk
 obtain⟨kf,frf,Hf,outf,h1,h2,h3,h4,tr,h5,h6,h7,h8⟩:=aOO (P:=P) (Γ:=Γ) (ops:=ops) ops.toList k fr H _ h
 rw[vM]at h5 h8
 have hstep:∀j o,ops[j]? =some o->OA P Γ ops o (kf j) (frf j) (Hf j) (outf j) (kf (j+1)) (frf (j+1)) (Hf (j+1)):=λ j o hj=>h4 j o (by rw[bA];exact hj)
 have hfoot:∀j,j<ops.size->tr[j]? =some (rD (kf j) (kf (j+1)) (outf j)):=λ j hj=>h6 j (by simpa using hj)
 have hrow:∀i oi,ops[i]? =some oi->(oi.after.toList.all λ e=> !Region.binds .any e||decide (e.on<i))=true/\((rD (kf i) (kf (i+1)) (outf i)).mods.all λ x=>decide (x<kf (i+1)))=true∧
  ∀j oj,j<i->ops[j]? =some oj->nB ops oj (rD (kf j) (kf (j+1)) (outf j)) oi (rD (kf i) (kf (i+1)) (outf i))=true->aEB ops ops.size j i=true:=λ i oi hoi=>by
  have hlt:=(cZ.1 hoi).1
  have:=aW.1 h7 i (dO.2 hlt)
  rw[hoi,hfoot i hlt]at this
  simp only[aC]at this
  obtain⟨⟨t1,t2⟩,t3⟩:=this
  refine⟨t1,?_,λ j oj hj hoj hcl=>?_⟩
  · cases hout:outf i with
    |none=>simp[rD]
    |some out=>rw[hout]at t2;exact t2
  · have t4:=aW.1 t3 j (dO.2 hj)
    rw[hoj,hfoot j oO]at t4
    simp only[bH,aT]at t4
    rcases t4 with t4|t4
    · rw[hcl]at t4;cases t4
    · exact t4
 have T:Text A0 P Γ ops kf frf Hf outf:={
  init:=λ x hx=>by rw[hA0e]at hx;rw[h1];exact hlt0 x hx
  step:=hstep
  low:=λ i o e ho he hb=>by have:=aW.1 (hrow i o ho).1 e (by simpa using he);simpa [hb]using this
  mods:=λ i o out x ho hout hx=>by have:=aW.1 (hrow i o ho).2.1 x (by rw[aKS hout];exact hx);simpa using this
  apart:=λ i j oi oj hj hoi hoj hcl=>aLO _ _ _ ((hrow i oi hoi).2.2 j oj hj hoj hcl)}
 refine wp_region_any hm ?_
 have hrep:∀j,(vL ops.size false).getD j false=false:=λ j=>by rw[aD,Array.getElem?_replicate];split<;>rfl
 have hemptyF:∀m t,EO A0 ops kf (frf 0) outf (λ j=>(vL ops.size false).getD j false) m t=(look (frf 0) t).map λ v=>(v,A0):=λ m t=>by
  induction m with
  |zero=>rfl
  |succ m ih=>simp only[EO];rw[if_neg (by rw[hrep];simp)];exact ih
 have hemptyH:∀m id,HD A0 ops kf (Hf 0) outf (λ j=>(vL ops.size false).getD j false) m id=bK (Hf 0) A0 id:=λ m id=>by
  induction m with
  |zero=>rfl
  |succ m ih=>simp only[HD];rw[if_neg (by rw[hrep];simp)];exact ih
 refine aSG T hd (w0:=w) (G0:=G) (ρ0:=ρ) (Q':=Post Γ nt C0 kb w G ρ Q) (λ w' G' ρ' a' hinv hst=>?_) ops.size _ {w with drawn:=w.drawn+1} G ρ a (by simp) ?_ (λ i o e hl=>by rw[hrep]at hl;cases hl) ⟨?_,hi.size,hi.defers,λ t v A hv=>?_⟩ (PR _ rfl rfl rfl rfl)
 ·
  have hkn:kb<=kf ops.size:=DS (by rw[h1];exact hk) (rK T ops.size 0 oO (aF _))
  have hold:∀x,A0 x->jA C0 kb (kf ops.size) x:=λ x hx=>by
   have h0:=rK T ops.size 0 oO (aF _);rw[hA0e]at hx;rcases hx with hx|hx;.exact .inl hx
   exact .inr ⟨hx.1,oO⟩
  have hnw:∀j,j<ops.size->∀x,zZ kf j x->jA C0 kb (kf ops.size) x:=λ j hj x hn=>by have h0:=rK T j 0 oO oO;have:=rK T ops.size (j+1) oO (aF _);unfold zZ at hn;exact .inr ⟨oO,oO⟩
  have hle:∀j,j<ops.size->∀x,Aop A0 ops kf j x->jA C0 kb (kf ops.size) x:=λ j hj x hx=>by
   rcases hx with(hx|⟨l,hl,_,hn⟩)|hn;.exact hold x hx
   .exact hnw l hl x hn
   exact hnw j hj x hn
  have hF:∀t,EO A0 ops kf (frf 0) outf (λ j=>decide (j<ops.size)) ops.size t=EO A0 ops kf (frf 0) outf (λ _=>true) ops.size t:=λ t=>BO _ (λ j hj _=>by simp[hj])
  have hH:∀id,HD A0 ops kf (Hf 0) outf (λ j=>decide (j<ops.size)) ops.size id=HD A0 ops kf (Hf 0) outf (λ _=>true) ops.size id:=λ id=>FR _ (λ j hj _=>by simp[hj])
  have hFA:∀t m,m<=ops.size->∀v A,EO A0 ops kf (frf 0) outf (λ _=>true) m t=some (v,A)->∀x,A x->jA C0 kb (kf ops.size) x:=λ t m=>by
   induction m with
   |zero=>intro _ v A h x hx;simp only[EO,aB]at h;obtain⟨u,_,he⟩:=h;cases he;exact hold x hx
   |succ m ih=>
    intro hm v A h x hx;simp only[EO,true_and]at h;split at h;.cases h;exact hle m oO x hx
    exact ih oO v A h x hx
  have hHA:∀id m,m<=ops.size->∀B A,HD A0 ops kf (Hf 0) outf (λ _=>true) m id=some (B,A)->∀x,A x->jA C0 kb (kf ops.size) x:=λ id m=>by
   induction m with
   |zero=>intro _ v A h x hx;simp only[HD,bK,aB]at h;obtain⟨u,_,he⟩:=h;cases he;exact hold x hx
   |succ m ih=>
    intro hm B A h x hx;simp only[HD,if_true]at h
    cases hmod:mW outf m id with
    |none=>rw[hmod]at h;exact ih oO B A h x hx
    |some y=>rw[hmod]at h;simp only[aB]at h;obtain⟨B',_,he⟩:=h;cases he;exact hle m oO x hx
  have hst':Step (kN kb) w G ρ w' G' ρ':=⟨hst.size,hst.keep,hst.shape,hst.g,hst.g',hst.own,λ x hx=>hst.ids x (by simp only[kN]at hx⊢;omega),hst.os,hst.tape,hst.output⟩
  refine⟨G',ρ',kf ops.size,frf ops.size,Hf ops.size,h8 hkn,hkn,⟨?_,hinv.size,hinv.defers,λ t v hv=>?_⟩,hst'⟩
  · refine hinv.rel.allow _ (λ id hid=>?_) (λ id B A' hid=>?_)
    · simp only[bK,dG]at hid
      rw[<-VS T (id:=id) ops.size (aF _)]at hid
      rw[hH]
      simpa using hid
    · simp only[bK,aB]at hid
      obtain⟨B',hB',he⟩:=hid
      cases he
      rw[<-VS T (id:=id) ops.size (aF _)]at hB'
      simp only[aB]at hB'
      obtain⟨⟨B1,A1⟩,h9,h10⟩:=hB'
      simp only at h10;subst h10
      exact⟨A1,by rw[hH];exact h9,hHA id ops.size (aF _) _ A1 h9⟩
  · rw[<-YI T (t:=t) ops.size (aF _)]at hv
    simp only[aB]at hv
    obtain⟨⟨v1,A1⟩,h9,h10⟩:=hv
    simp only at h10;subst h10
    exact(hinv.frm t v1 A1 (by rw[hF];exact h9)).mono (λ _ h=>h) (λ _ _=>rfl) (λ _ _=>rfl) (hFA t ops.size (aF _) v1 A1 h9) (λ _ _=> .inr rfl)
 · unfold tO
   refine DS (List.countP_le_length) ?_
   simp
 · have:HD A0 ops kf (Hf 0) outf (λ j=>(vL ops.size false).getD j false) ops.size=bK (Hf 0) A0:=funext λ id=>hemptyH ops.size id
   rw[this,h3,hA0e]
   exact hi.rel.same rfl rfl rfl rfl
 · rw[hemptyF]at hv
   simp only[aB]at hv
   obtain⟨u,hu,he⟩:=hv
   cases he
   rw[h2]at hu
   rw[hA0e]
   exact(hi.frm t _ hu).mono (w:=w) (w':={w with drawn:=w.drawn+1}) (λ _ h=>h) (λ _ _=>rfl) (λ _ _=>rfl) (λ _ h=>h) (λ _ _=> .inr rfl)
end
def aL(P:Program)(g:FuncId):Bool:=
 match P.funcs[g]? with
 |some fn=>fn.body.isSome&&fn.name != "runtime.NumGoroutine"
 |none=>false
def iO(v:AVal)(k':Nat)(Hc Hout:aS):Out:=⟨v,k',(Hout.map λ x=>(x.1,some x.2))++(Hc.map λ x=>(x.1,none)),Hc.map (·.1)⟩
def rF(ev:Operand->Option AVal):List Operand->Option (List AVal)
 |[]=>some []
 | x::r=>match ev x,rF ev r with
   |some v,some vs=>some (v::vs)
   |_,_=>none
theorem AK{ev:Operand->Option AVal}:∀ {xs:List Operand} {vs:List AVal},rF ev xs=some vs->vs.length=xs.length/\∀(j:Nat) x v,xs[j]? =some x->vs[j]? =some v->ev x=some v
 |[],vs,h=>by cases h;exact⟨rfl,λ j x v hx=>by simp at hx⟩
 |x::r,vs,h=>by
  simp only[rF]at h;split at h
  .rename_i v vs' h1 h2;cases h;obtain⟨h3,h4⟩:=AK h2;refine⟨by simp[h3],λ j y u hy hu=>?_⟩
   cases j with
   |zero=>cases hy;cases hu;exact h1
   |succ j=>exact h4 j y u (by simpa using hy) (by simpa using hu)
  cases h
theorem EK{α:Type}:∀ {l:List (Nat×α)} {i:Nat} {x:α},look l i=some x->(i,x)∈l
 |[],i,x,h=>by simp[look]at h
 |(a,y)::r,i,x,h=>by
  simp only[look]at h;split at h;.rename_i he;subst he;cases h;simp
  exact fP _ (EK h)
theorem QO{α:Type}:∀ {l:List (Nat×α)} {i:Nat},look l i=none->∀x,(i,x)∉l
 |[],i,_,x,hx=>by simp at hx
 |(a,y)::r,i,h,x,hx=>by
  simp only[look]at h;split at h;.cases h
  rename_i hne;rcases jK.1 hx with he|he;.cases he;exact hne rfl
  exact QO h x he
theorem IB{α:Type}{l:List (Nat×α)}{i:Nat}{x:α}(h:(i,x)∈l):∃y,look l i=some y:=by
 cases hl:look l i with
 |none=>exact absurd h (QO hl x)
 |some y=>exact⟨y,rfl⟩
theorem CW(Hc Hout:aS)(id:Nat):uA ((Hout.map λ x=>(x.1,some x.2))++(Hc.map λ x=>(x.1,(none:Option Blk)))) id=
 match look Hout id with|some B=>some (some B)|none=>(match look Hc id with|some _=>some none|none=>none):=by
 unfold uA
 induction Hout with
 |nil=>
  simp only[aV,cN,look]
  induction Hc with
  |nil=>rfl
  |cons x r ih=>
   simp only[bG,look];by_cases h:x.1=id;.rw[if_pos h,if_pos h]
   rw[if_neg h,if_neg h];exact ih
 |cons x r ih=>
  simp only[bG,dQ,look];by_cases h:x.1=id;.rw[if_pos h,if_pos h]
  rw[if_neg h,if_neg h];exact ih
def dX(Hc:aS):Nat->Bool:=λ i=>(look Hc i).isSome
section
variable{P:Program}{Γ:List (Nat×List AVal)}{o:Oper}{ev:Operand->Option AVal}{get:Nat->Option Blk}{k:Nat}
theorem WQ{f:Operand}{args:Array Operand}{ty:Array TypeId}{g:FuncId}(ho:o.op= .call {callee:= .value f,args:=args,argTypes:=ty})(hg:aL P g=true)(a:Act)(cs:Array Value)
 (hf:a.eval f= .func (.func g) #[] cs) (w:World):(execOp a.eval o).run P w= .ok (.enter g (args.map a.eval++cs)) w:=by
 unfold aL at hg;split at hg
 .rename_i fn hfn;simp only[aC,bne_iff_ne,ne_eq]at hg;obtain⟨h1,h2⟩:=hg
  have h3:fn.body.isNone=false:=by cases hb:fn.body with
   |none=>rw[hb]at h1;simp at h1
   |some _=>rfl
  simp only[execOp,ho,resolve,hf,Deferred.ofValue,bO,dP,bI,invoke,callFunc,run_program,hfn];rw[if_neg (by simpa using h2)];simp[h3]
 cases hg
theorem RQ{g:FuncId}{vs:List AVal}{Hc Hout:aS}{r:AVal}{k':Nat}
 (hrun:∀w G ρ (A:bU) (a:Act),(∀x,x∈o.op.operands->∀v,ev x=some v->V w G ρ A v (a.eval x))->∃cargs,(execOp a.eval o).run P w= .ok (.enter g cargs) w/\Vs w G ρ A vs cargs)
 (hb:vs.all (bd (dX Hc))=true) (hbH:rG (dX Hc) Hc=true) (hin:∀id B,look Hc id=some B->get id=some B)
 (hT:Tr P Γ g k vs Hc (λ k1 r1 H1=>k1=k'/\r1=r/\H1=Hout)) (hk:k<=k'):Good P Γ o ev get k (iO r k' Hc Hout):=by
 refine⟨?_,λ id hid=>?_,hk⟩
 .intro w G ρ H A a hr hA hfr hrd hop next Q hn
  obtain⟨cargs,hrunc,hVs0⟩:=hrun w G ρ A a hop;have hHc:∀id B,look Hc id=some B->∃A',H id=some (B,A')/\∀i,A' i->A i:=λ id B hB=>by obtain⟨B',A',h1,h2,h3⟩:=hrd id (by simp only[iO,cL];exact⟨(id,B),EK hB,rfl⟩);rw[hin id B hB]at h1;cases h1;exact⟨A',h2,h3⟩
  let ρc:cM:=λ id=>if dX Hc id=true then ρ id else none
  let Ac:bU:=λ i=>A i/\dX Hc i=true;have hρc:∀id,dX Hc id=true->ρc id=ρ id:=λ id h=>by simp only[ρc,h,if_true]
  have hρc0:∀id,dX Hc id=false->ρc id=none:=λ id h=>by simp only[ρc,h];rfl
  have toC:∀v cv,V w G ρ (λ i=>A i/\dX Hc i=true) v cv->V w G ρc Ac v cv:=λ v cv h=>
   h.mono (λ _ h=>h) (λ _ _=>rfl) (λ _ _=>rfl) (λ _ h=>h) (λ i hi=> .inr (hρc i hi.2))
  have hsomec:∀id x,ρc id=some x->ρ id=some x/\dX Hc id=true:=λ id x h=>by
   cases hkb:dX Hc id with
   |false=>rw[hρc0 id hkb]at h;cases h
   |true=>rw[hρc id hkb]at h;exact⟨h,rfl⟩
  have hrelc:HRel Γ w G ρc (bK Hc Ac):=by
   refine⟨λ id hid=>?_,λ id B A1 hid=>?_,λ i j b s t hi hj=>hr.inj i j b s t (hsomec _ _ hi).1 (hsomec _ _ hj).1,hr.ro,hr.glob⟩;.simp only[bK,dG]at hid;exact hρc0 id (by simp[dX,hid])
   simp only[bK,aB]at hid;obtain⟨B',hB',he⟩:=hid;cases he;obtain⟨A',h1,h2⟩:=hHc id B hB';obtain⟨h3,b,h4,h5,⟨⟨C,ty',hC,hrows⟩,hlen⟩⟩:=hr.blk id B A' h1;have hkb:dX Hc id=true:=by simp[dX,hB']
   refine⟨⟨h2 _ h3,hkb⟩,b,by rw[hρc id hkb];exact h4,h5,⟨⟨C,ty',hC,λ r row c v h6 h7=>?_⟩,hlen⟩⟩;obtain⟨cv,h8,h9⟩:=hrows r row c v h6 h7;refine⟨cv,h8,?_⟩;by_cases hp:B.pure=true;.simp only[hp,if_true]at h9⊢;exact h9
   simp only[hp]at h9⊢
   have h10:=rQ hbH hB';simp only[aC,bH]at h10;have h11:=gP (gP (h10.2.resolve_left hp) h6) h7;have h12:V w G ρ A v cv:=h9.mono (λ _ h=>h) (λ _ _=>rfl) (λ _ _=>rfl) h2 (λ _ _=> .inr rfl);exact toC _ _ (SE h12 h11)
  have hVs:Vs w G ρc Ac vs cargs:=⟨hVs0.1,λ j v hj=>toC _ _ (aEV (hVs0.2 j v hj) (gP hb hj))⟩;have hcall:=hT Ac (λ i hi=>hA i hi.1) w G ρc cargs hrelc hVs;unfold Oper.wp;rw[hrunc];refine hcall.mono λ e w' hp=>?_;obtain⟨cv,G',ρ',k1,r1,H1,rfl,⟨rfl,rfl,rfl⟩,hkk,hrel',hV',hst'⟩:=hp
  have hHout:∀id B,look H1 id=some B->dX Hc id=true\/(k<=id/\id<k1):=λ id B hB=>by
   obtain⟨h1,b,h2,_⟩:=hrel'.blk id B (jA Ac k k1) (by simp[bK,hB]);rcases h1 with h1|h1;.exact .inl h1.2
   exact .inr h1
  let ρ'':cM:=λ id=>if dX Hc id=true\/dX H1 id=true then ρ' id else ρ id
  have hn1:∀id,dX Hc id=true->ρ'' id=ρ' id:=λ id h=>by simp only[ρ''];rw[if_pos (.inl h)]
  have hn2:∀id,dX H1 id=true->ρ'' id=ρ' id:=λ id h=>by simp only[ρ''];rw[if_pos (.inr h)]
  have hn3:∀id,dX Hc id=false->dX H1 id=false->ρ'' id=ρ id:=λ id h h'=>by simp only[ρ''];rw[if_neg (by rw[h,h'];simp)]
  have hnew:∀id,k<=id->id<k1->ρ'' id=ρ' id:=λ id h1 h2=>by
   cases hkc:dX Hc id with
   |true=>exact hn1 id hkc
   |false=>
    cases hk1:dX H1 id with
    |true=>exact hn2 id hk1
    |false=>rw[hn3 id hkc hk1,(hfr id h1 h2).1,hrel'.dom id (by simp only[bK];simp only[dX]at hk1;simp at hk1;rw[hk1];rfl)]
  have hkeyA:∀id,dX Hc id=true->A id:=λ id h=>by obtain⟨B,hB⟩:=fK.1 h;obtain⟨A',h1,h2⟩:=hHc id B hB;exact h2 _ (hr.blk id B A' h1).1
  have hback:∀id,¬(k<=id/\id<k1)->ρ'' id=none\/ρ'' id=ρ id:=λ id hid=>by
   cases hkc:dX Hc id with
   |true=>
    rw[hn1 id hkc];rcases hst'.ids id (hA id (hkeyA id hkc))with h|h;.exact .inl h
    exact .inr (h.trans (hρc id hkc))
   |false=>
    cases hk1:dX H1 id with
    |true=>
     obtain⟨B,hB⟩:=fK.1 hk1;rcases hHout id B hB with h|h;.rw[hkc]at h;cases h
     exact absurd h hid
    |false=>exact .inr (hn3 id hkc hk1)
  have hown:∀b,oI ρc b->oI ρ b:=λ b ⟨id,s,h⟩=>⟨id,s,(hsomec _ _ h).1⟩
  have hst:Step (λ i=>¬(k<=i/\i<k1)) w G ρ w' G' ρ'':=by
   refine⟨hst'.size,λ b hb ho'=>hst'.keep b hb (λ h=>ho' (hown b h)),hst'.shape,hst'.g,λ b hb=>?_,?_,hback,hst'.os,hst'.tape,hst'.output⟩
   .rcases hst'.g' b hb with h|h|h;.exact .inl h
    .exact .inr (.inl (hown b h))
    exact .inr (.inr h)
   rintro b ⟨id,s,h⟩;simp only[ρ'']at h;split at h
   .rcases hst'.own b ⟨id,s,h⟩with h|h;.exact .inl (hown b h)
    exact .inr h
   exact .inl ⟨id,s,h⟩
  have hVV:∀v cv,V w' G' ρ' (jA Ac k k1) v cv->V w' G' ρ'' (λ i=>A i\/(k<=i/\i<k1)) v cv:=λ v cv h=>
   h.mono (λ _ h=>h) (λ _ _=>rfl) (λ _ _=>rfl) (λ i hi=>hi.imp (λ h=>h.1) id) (λ i hi=>by
    rcases hi with hi|hi;.exact .inr (hn1 i hi.2)
    exact .inr (hnew i hi.1 hi.2))
  refine hn w' G' ρ'' cv ?_ (hVV _ _ hV') hst
  have TS:∀id,iR H (λ i=>A i\/(k<=i/\i<k1)) (iO r1 k1 Hc H1).upd id=match look H1 id with|some B=>some (B,λ i=>A i\/(k<=i/\i<k1))|none=>(match look Hc id with|some _=>none|none=>H id):=λ id=>by
   rw[mQ];show(match uA ((H1.map λ x=>(x.1,some x.2))++(Hc.map λ x=>(x.1,(none:Option Blk)))) id with|some x=>x.map λ B=>(B,λ i=>A i\/(k<=i/\i<k1))|none=>H id)=_;rw[CW]
   cases look H1 id with
   |some B=>rfl
   |none=>cases look Hc id<;>rfl
  refine hr.after hst _ (λ id hid=>?_) (λ id B A1 hid=>?_) (λ i j b s t hi hj=>?_) hrel'.ro
  .have hid':iR H (λ i=>A i\/(k<=i/\i<k1)) (iO r1 k1 Hc H1).upd id=none:=hid;rw[TS]at hid'
   cases h1:look H1 id with
   |some B=>rw[h1]at hid';cases hid'
   |none=>
    rw[h1]at hid'
    cases h2:look Hc id with
    |some B=>rw[hn1 id (by simp[dX,h2])];exact hrel'.dom id (by simp[bK,h1])
    |none=>rw[h2]at hid';rw[hn3 id (by simp[dX,h2]) (by simp[dX,h1])];exact hr.dom id hid'
  .have hid':iR H (λ i=>A i\/(k<=i/\i<k1)) (iO r1 k1 Hc H1).upd id=some (B,A1):=hid;rw[TS]at hid'
   cases h1:look H1 id with
   |some B'=>
    rw[h1]at hid';cases hid';obtain⟨h2,b,h3,h4,⟨⟨C,ty',hC,hrows⟩,hlen⟩⟩:=hrel'.blk id B (jA Ac k k1) (by simp[bK,h1]);refine⟨h2.imp (λ h=>h.1) (λ h=>h),.inr ⟨b,by rw[hn2 id (by simp[dX,h1])];exact h3,h4,⟨⟨C,ty',hC,λ r row c v h6 h7=>?_⟩,hlen⟩⟩⟩;obtain⟨cv',h8,h9⟩:=hrows r row c v h6 h7;refine⟨cv',h8,?_⟩;by_cases hp:B.pure=true;.simp only[hp,if_true]at h9⊢;exact h9
    simp only[hp]at h9⊢;exact hVV _ _ h9
   |none=>
    rw[h1]at hid'
    cases h2:look Hc id with
    |some B'=>rw[h2]at hid';cases hid'
    |none=>
     rw[h2]at hid';obtain⟨h3,b,h4,h5,_⟩:=hr.blk id B A1 hid';have hnc:¬oI ρc b:=λ⟨i',s',h⟩=>by obtain⟨h6,h7⟩:=hsomec _ _ h;have:=hr.inj i' id _ _ _ h6 h4;subst this;simp[dX,h2]at h7
     have hbl:=hr.owned_lt ⟨id,_,h4⟩;refine⟨h3,.inl ⟨A1,b,hid',λ _ h=>h,λ i hi hc=>(hfr i hc.1 hc.2).2 id B A1 hid' hi,by rw[hn3 id (by simp[dX,h2]) (by simp[dX,h1])],h4,hst'.keep b hbl hnc,λ hg'=>?_⟩⟩;rcases hst'.g' b hg' with h|h|h;.exact h5 h
     .exact hnc h
     omega
  have side:∀i s,ρ'' i=some (b,s)->(ρ' i=some (b,s)/\(dX Hc i=true\/dX H1 i=true))\/(ρ i=some (b,s)/\dX Hc i=false):=λ i s h=>by
   simp only[ρ'']at h;split at h;.rename_i hc;exact .inl ⟨h,hc⟩
   rename_i hc;exact .inr ⟨h,by cases hkc:dX Hc i with|true=>exact absurd (.inl hkc) hc|false=>rfl⟩
  have cross:∀i j s t,ρ' i=some (b,s)->ρ j=some (b,t)->dX Hc j=false->False:=λ i j s t h1 h2 h3=>by
   rcases hst'.own b ⟨i,s,h1⟩with⟨i',s',h⟩|h;.obtain⟨h4,h5⟩:=hsomec _ _ h;have:=hr.inj i' j _ _ _ h4 h2;subst this;rw[h3]at h5;cases h5
   have:=hr.owned_lt ⟨j,t,h2⟩;omega
  rcases side i s hi with⟨h1,_⟩|⟨h1,h1'⟩<;>rcases side j t hj with⟨h2,_⟩|⟨h2,h2'⟩;.exact hrel'.inj i j b s t h1 h2
  .exact(cross i j s t h1 h2 h2').elim
  .exact(cross j i t s h2 h1 h1').elim
  exact hr.inj i j b s t h1 h2
 simp only[iO,cL]at hid;obtain⟨x,hx,rfl⟩:=hid;obtain⟨y,hy⟩:=IB hx;rw[hin _ y hy];rfl
theorem VB{w:World}{G:Nat->Prop}{ρ:cM}{A:bU}{a:Act}{args:Array Operand}{vs:List AVal}(ha:rF ev args.toList=some vs)(hop:∀x,x∈args->∀v,ev x=some v->V w G ρ A v (a.eval x)):
 Vs w G ρ A vs (args.map a.eval):=by
 obtain⟨hal,haev⟩:=AK ha;refine⟨by simp[hal],λ j v hj=>?_⟩;have hlt:=(aG.1 hj).1;have hltA:j<args.size:=by rw[hal]at hlt;simpa using hlt
 have hx:args[j]? =some args[j]:=aP hltA;have h2:=hop args[j] (by simp) v (haev j args[j] v (by rw[bA];exact hx) hj);have e:(args.map a.eval).getD j undef=a.eval args[j]:=by rw[aD,Array.getElem?_map,hx];rfl
 rw[e];exact h2
theorem SD{w:World}{G:Nat->Prop}{ρ:cM}{A:bU}{us vs:List AVal}{cs ds:Array Value}(h:Vs w G ρ A us cs)(g:Vs w G ρ A vs ds):Vs w G ρ A (us++vs) (cs++ds):=by
 refine⟨by simp[h.1,g.1],λ j v hj=>?_⟩;rw[kY]at hj;split at hj
 .rename_i hlt;have e:(cs++ds).getD j undef=cs.getD j undef:=by rw[aD,aD,gR (by rw[<-h.1];exact hlt)]
  rw[e];exact h.2 j v hj
 rename_i hge;have hs:=h.1;have e:(cs++ds).getD j undef=ds.getD (j-us.length) undef:=by rw[aD,aD,Array.getElem?_append_right oO,hs]
 rw[e];exact g.2 _ v hj
theorem JV{f:Operand}{args:Array Operand}{ty:Array TypeId}{g:FuncId}{caps vs:List AVal}{Hc Hout:aS}{r:AVal}{k':Nat}
 (ho:o.op= .call {callee:= .value f,args:=args,argTypes:=ty}) (hg:aL P g=true) (hf:ev f=some (.fn g caps)) (ha:rF ev args.toList=some vs)
 (hb:(vs++caps).all (bd (dX Hc))=true) (hbH:rG (dX Hc) Hc=true) (hin:∀id B,look Hc id=some B->get id=some B)
 (hT:Tr P Γ g k (vs++caps) Hc (λ k1 r1 H1=>k1=k'/\r1=r/\H1=Hout)) (hk:k<=k'):Good P Γ o ev get k (iO r k' Hc Hout):=
 RQ (λ w G ρ A a hop=>by
  have hvf:=hop f (by simp[ho,Op.operands,Call.operands]) _ hf;generalize hev:a.eval f=cv at hvf
  cases hvf with
  |fn h1 h2=>exact⟨_,WQ ho hg a _ hev w,SD (VB ha λ x hx v hv=>hop x (by simp[ho,Op.operands,Call.operands,hx]) v hv) ⟨h1,h2⟩⟩) hb hbH hin hT hk
theorem ZJ{f:Operand}{args:Array Operand}{ty:Array TypeId}{g:FuncId}{i r0 c0:Nat}{vs:List AVal}{Hc Hout:aS}{r:AVal}{k':Nat}
 (ho:o.op= .call {callee:= .value f,args:=args,argTypes:=ty}) (hg:aL P g=true) (hf:ev f=some (.bfn g i r0 c0)) (ha:rF ev args.toList=some vs)
 (hb:(.ptr i r0 c0::vs).all (bd (dX Hc))=true) (hbH:rG (dX Hc) Hc=true) (hin:∀id B,look Hc id=some B->get id=some B)
 (hT:Tr P Γ g k (.ptr i r0 c0::vs) Hc (λ k1 r1 H1=>k1=k'/\r1=r/\H1=Hout)) (hk:k<=k'):Good P Γ o ev get k (iO r k' Hc Hout):=
 RQ (λ w G ρ A a hop=>by
  have hvf:=hop f (by simp[ho,Op.operands,Call.operands]) _ hf;generalize hev:a.eval f=cv at hvf
  cases hvf with
  |bfn h1=>
   rename_i c1;refine⟨#[c1]++args.map a.eval,?_,SD (us:=[.ptr i r0 c0]) (cs:= #[c1]) ⟨rfl,λ j v hj=>?_⟩ (VB ha λ x hx v hv=>hop x (by simp[ho,Op.operands,Call.operands,hx]) v hv)⟩
   .unfold aL at hg;split at hg
    .rename_i fn hfn;simp only[aC,bne_iff_ne,ne_eq]at hg;obtain⟨h3,h4⟩:=hg
     have h5:fn.body.isNone=false:=by cases hb:fn.body with
      |none=>rw[hb]at h3;simp at h3
      |some _=>rfl
     simp only[execOp,ho,resolve,hev,Deferred.ofValue,bO,dP,bI,invoke,callFunc,run_program,hfn];rw[if_neg (by simpa using h4)];simp[h5]
    cases hg
   cases j with
   |zero=>cases hj;exact h1
   |succ j=>simp at hj) hb hbH hin hT hk
def aWM(P:Program)(fr:Fr)(H:aS):ResultVar->Option AVal
 | .tmp t=>look fr t
 | .cell a t=>match look fr a,iS P t,oK P t with
   |some (.ptr id r c),some ag,some n=>(look H id).bind λ B=>if r=0/\c=0/\B.sz<n then gD ag n B.rows.flatten 0 else(B.rows[r]?).bind λ row=>gD ag n row c
   |_,_,_=>none
def PZ(P:Program)(fr:Fr)(H:aS):List ResultVar->Option (List AVal)
 |[]=>some []
 | x::r=>match aWM P fr H x,PZ P fr H r with
   |some v,some vs=>some (v::vs)
   |_,_=>none
def IU(P:Program)(fn:Func)(fr:Fr)(H:aS):Option AVal:=
 match PZ P fr H fn.results.toList with
 |some [v]=>some v
 |some vs=>some (.tup vs)
 |none=>none
def yD(P:Program)(fn:Func)(Q:Nat->AVal->aS->Prop):AQ
 | .normal,k,fr,H=>∃r,IU P fn fr H=some r/\Q k r H
 | .ret,k,fr,H=>∃r,IU P fn fr H=some r/\Q k r H
 |_,_,_,_=>False
def JN(tmps:Array Value):ResultVar->Sem Value
 | .tmp t=>pure (tmps.getD t undef)
 | .cell a t=>do loadVar t (←asAddr (tmps.getD a undef))
theorem aOT{A:bU}{nt:Nat}{fr:Fr}{H:aS}{w:World}{G:Nat->Prop}{ρ:cM}{a:Act}(hi:Inv Γ nt w G ρ A a fr H){x:ResultVar}{v:AVal}(h:aWM P fr H x=some v):
 ∃cv,(JN a.tmps x).run P w= .ok cv w/\V w G ρ A v cv:=by
 cases x with
 |tmp t=>exact⟨_,rfl,hi.frm t v h⟩
 |cell ad t=>
  simp only[aWM]at h;split at h
  .rename_i id r c ag n h1 h2 h3;obtain⟨B,hB,h4⟩:=bX.1 h;have hv:=hi.frm ad _ h1;obtain⟨_,b,hb,_,hBR⟩:=hi.rel.blk id B A (by simp[bK,hB]);generalize hev:a.tmps.getD ad undef=cv at hv;split at h4
   .rename_i hc0;obtain⟨rfl,rfl,_⟩:=hc0
    cases hv with
    |dang _ hn=>rw[hb]at hn;cases hn
    |ptr ha hρ hsh=>
     rw[hb]at hρ;cases hρ;obtain⟨⟨C,ty,hC,hrows⟩,hlen⟩:=hBR.old hsh;have hcell:∀(j:Nat) u,B.rows.flatten[j]? =some u->w.cell? ⟨b,0*B.sz+j,none⟩=some (C.getD (0*B.sz+j) undef):=λ j u hj=>by obtain⟨r,row,c,h3,h4,rfl⟩:=AI hlen j u hj;obtain⟨cv,h5,_⟩:=hrows r row c u h3 h4;rw[tM,dV,cell_of_row w b _ C ty (0,0) hC,h5,aD,h5];rfl
     have hval:∀(j:Nat) u,B.rows.flatten[j]? =some u->V w G ρ A u (C.getD (0*B.sz+j) undef):=λ j u hj=>by
      obtain⟨r,row,c,h3,h4,rfl⟩:=AI hlen j u hj;obtain⟨cv,h5,h6⟩:=hrows r row c u h3 h4;rw[tM,dV,aD,h5];by_cases hp:B.pure=true;.simp only[hp,if_true]at h6;exact h6.weaken
      simp only[hp]at h6;exact h6
     obtain⟨cv,hrun,hV⟩:=xC (P:=P) h2 h3 h4 (λ j=>C.getD (0*B.sz+j) undef) hcell hval;refine⟨cv,?_,hV⟩;simp only[Instr.loadAt,Instr.sureAddr,bO,dP,bI]at hrun;show Sem.run P (do loadVar t (←asAddr (a.tmps.getD ad undef))) w=_;rw[hev];simpa [asAddr]using hrun
   obtain⟨row,hrow,h5⟩:=bX.1 h4
   cases hv with
   |dang _ hn=>rw[hb]at hn;cases hn
   |ptr ha hρ hsh=>
    rw[hb]at hρ;cases hρ;obtain⟨⟨C,ty,hC,hrows⟩,hlen⟩:=hBR.old hsh;have hcell:∀j u,row[j]? =some u->w.cell? ⟨b,r*B.sz+j,none⟩=some (C.getD (r*B.sz+j) undef):=λ j u hj=>by obtain⟨cv,h3,_⟩:=hrows r row j u hrow hj;rw[cell_of_row w b _ C ty (0,0) hC,h3,aD,h3];rfl
    have hval:∀j u,row[j]? =some u->V w G ρ A u (C.getD (r*B.sz+j) undef):=λ j u hj=>by
     obtain⟨cv,h3,h4⟩:=hrows r row j u hrow hj;rw[aD,h3];by_cases hp:B.pure=true;.simp only[hp,if_true]at h4;exact h4.weaken
     simp only[hp]at h4;exact h4
    obtain⟨cv,hrun,hV⟩:=xC (P:=P) h2 h3 h5 (λ j=>C.getD (r*B.sz+j) undef) hcell hval;refine⟨cv,?_,hV⟩;simp only[Instr.loadAt,Instr.sureAddr,bO,dP,bI]at hrun;show Sem.run P (do loadVar t (←asAddr (a.tmps.getD ad undef))) w=_;rw[hev];simp[asAddr,hrun]
  cases h
theorem PY{A:bU}{nt:Nat}{fr:Fr}{H:aS}{w:World}{G:Nat->Prop}{ρ:cM}{a:Act}(hi:Inv Γ nt w G ρ A a fr H):∀ {xs:List ResultVar} {vs:List AVal},PZ P fr H xs=some vs→
 ∃ cs:List Value,(xs.mapM (JN a.tmps)).run P w= .ok cs w/\vs.length=cs.length∧
   ∀(j:Nat) v c,vs[j]? =some v->cs[j]? =some c->V w G ρ A v c
 |[],vs,h=>by cases h;exact⟨[],rfl,rfl,λ j v c hv=>by simp at hv⟩
 |x::r,vs,h=>by
  simp only[PZ]at h;split at h
  .rename_i v vs' h1 h2;cases h;obtain⟨cv,h3,h4⟩:=aOT hi h1;obtain⟨cs,h5,h6,h7⟩:=PY hi h2;refine⟨cv::cs,?_,by simp[h6],λ j u c hu hc=>?_⟩;.rw[List.mapM_cons,bO,h3,bI,bO,h5];rfl
   cases j with
   |zero=>cases hu;cases hc;exact h4
   |succ j=>exact h7 j u c (by simpa using hu) (by simpa using hc)
  cases h
theorem aOU{A:bU}{nt:Nat}{fn:Func}{fr:Fr}{H:aS}{w:World}{G:Nat->Prop}{ρ:cM}{a:Act}(hi:Inv Γ nt w G ρ A a fr H){r:AVal}(h:IU P fn fr H=some r):
 ∃cv,(results fn a.tmps).run P w= .ok cv w/\V w G ρ A r cv:=by
 unfold IU at h
 cases hvs:PZ P fr H fn.results.toList with
 |none=>rw[hvs]at h;cases h
 |some vs=>
  obtain⟨cs,h1,h2,h3⟩:=PY hi hvs;have hmap:(fn.results.mapM (JN a.tmps)).run P w= .ok cs.toArray w:=by rw[Array.mapM_eq_mapM_toList,Sem.run_map,h1];rfl
  have hres:(results fn a.tmps).run P w= .ok (if h:cs.toArray.size=1 then cs.toArray[0]else .tuple cs.toArray) w:=by show Sem.run P (do let vs ←fn.results.mapM (JN a.tmps);pure (if h:vs.size=1 then vs[0]else .tuple vs)) w=_;rw[bO,hmap];rfl
  refine⟨_,hres,?_⟩;rw[hvs]at h
  match vs,h,h2,h3 with
  | [v],h,h2,h3=>
    cases h
    match cs,h2,h3 with
    |[c],_,h3=>exact h3 0 _ c rfl rfl
  | [],h,h2,h3=>
    cases h
    match cs,h2 with
    |[],_=>exact .tup rfl (λ j v hj=>by simp at hj)
  | v1::v2::vr,h,h2,h3=>
    cases h
    match cs,h2,h3 with
    | c1::c2::cr,h2,h3=>
      rw[dif_neg (by simp)]
      refine .tup (by simpa using h2) λ j v hj=>?_
      have hlt:=(aG.1 hj).1
      have hlt':j<(c1::c2::cr).length:=oO
      have e:(c1::c2::cr).toArray.getD j undef=(c1::c2::cr)[j]:=by rw[aD,cH,aE hlt'];rfl
      rw[e]
      exact h3 j v _ hj (aE hlt')
theorem JZ{f:FuncId}{fn:Func}{c:Code}{args:List AVal}{H:aS}{Q:Nat->AVal->aS->Prop}(hf:P.funcs[f]? =some fn)(hb:fn.body=some c)(hn:args.length<=fn.ntmps)
 (h:W P Γ fn.ntmps k c (yD P fn Q) k (uX 0 args) H):Tr P Γ f k args H Q:=by
 intro A hA w G ρ cargs hrel hargs
 have hi:Inv Γ fn.ntmps w G ρ (jA A k k) {tmps:=cargs++vL (fn.ntmps-cargs.size) undef,defers:=[]} (uX 0 args) H:=by
  have hAk:A=jA A k k:=funext λ i=>by simp only[jA,eq_iff_iff];constructor;· exact .inl
                                      · rintro(h|h);· exact h
                                        · omega
  rw[<-hAk];refine⟨hrel,by simp[<-hargs.1];omega,rfl,λ t v hv=>?_⟩;obtain⟨_,h2⟩:=NT args 0 t v hv;simp only[bFW]at h2;have hlt:=(aG.1 h2).1;have:=hargs.2 t v h2;have e:(cargs++vL (fn.ntmps-cargs.size) undef).getD t undef=cargs.getD t undef:=by rw[aD,aD,gR (by rw[<-hargs.1];exact hlt)]
  rw[e];exact this
 refine calls_of_wp hf hb (wp_mono (h A hA (aF _) w G ρ _ hi) λ e a' w' hp=>?_);obtain⟨G',ρ',k',fr',H',hQ,hk',hi',hst⟩:=hp;have fin:(∃r,IU P fn fr' H'=some r/\Q k' r H')->a'.defers=[]/\∃v,(results fn a'.tmps).run P w'= .ok v w'/\∃cv G' ρ' k' r H',Ending.returned v= .returned cv/\Q k' r H'/\k<=k'/\HRel Γ w' G' ρ' (bK H' (jA A k k'))/\V w' G' ρ' (jA A k k') r cv/\Step (kN k) w G ρ w' G' ρ':=by rintro⟨r,hr,hq⟩;obtain⟨cv,h1,h2⟩:=aOU (P:=P) (fn:=fn) hi' hr;exact⟨hi'.defers,cv,h1,cv,G',ρ',k',r,H',rfl,hq,hk',hi'.rel,h2,hst⟩
 cases e with
 |normal=>exact fin hQ
 |ret=>exact fin hQ
 |exit id=>exact hQ.elim
 |goto l=>exact hQ.elim
 |panic ch=>exact hQ.elim
 |outgrown=>exact hQ.elim
end
end Go.AM
end
