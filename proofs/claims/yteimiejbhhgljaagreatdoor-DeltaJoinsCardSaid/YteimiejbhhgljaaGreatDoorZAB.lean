import Derived.Test.YteimiejbhhgljaaGreatDoorZAA
import Derived.Laws.StructEq
set_option linter.unusedVariables false
set_option linter.unusedSimpArgs false
set_option maxHeartbeats 0
set_option maxRecDepth 100000
open Array renaming getD_eq_getD_getElem?->aI,getElem?_append_left->fV,getElem?_append_right->SF,getElem?_eq_getElem->aQ,getElem?_eq_none->iD,getElem?_eq_some_iff->dA,getElem?_setIfInBounds_ne->lH,getElem?_setIfInBounds_self_of_lt->qZ,getElem?_toList->bF,length_toList->pU,mem_of_getElem?->SD,replicate->wG
open Bool renaming and_eq_true->aH,false->aE,false_eq_true->aS,not_eq_true->bNZ,not_eq_true'->bD,or_eq_false_iff->fO,or_eq_true->bL,true->aB,true_and->lG
open List renaming all_eq_true->aW,any_eq_true->aLX,cons_append->aV,eq_nil_iff_forall_not_mem->FO,getD->oH,getD_eq_getElem?_getD->aR,getElem?_append->dN,getElem?_cons_succ->fM,getElem?_drop->dW,getElem?_eq_getElem->aJ,getElem?_eq_some_iff->aK,getElem?_map->aP,getElem?_take->fE,getElem?_toArray->cJ,getElem_mem->JR,length_cons->gS,map->rS,map_append->aM,map_cons->bI,map_map->jM,map_nil->bQ,map_toArray->yH,mem_append->dC,mem_cons->eY,mem_cons_of_mem->dM,mem_filter->lW,mem_map->dB,mem_range->dK,nil_append->aU,range->aN
open Nat renaming add_assoc->gD,add_mul->cQ,add_sub_cancel->a4V,add_sub_cancel_left->lE,le_refl->aF,le_trans->qX,lt_irrefl->qR,lt_trichotomy->kA,mul_one->HW,sub_self->RX,sub_zero->iV,zero_add->fH,zero_le->aZ,zero_mul->qW
open Option renaming bind_eq_some_iff->cE,bind_some->bNV,getD_some->aLU,isSome_iff_exists->fS,map_eq_none_iff->dO,map_eq_some_iff->aG,map_none->oB,map_some->bU,none->aC,some->aA
open Go.Result renaming andThen_ok->bG
open Go.Sem renaming run_bind->bN,run_pure->dE
section
namespace Go.AM
def del{α:Type}(l:List (Nat×α))(k:Nat):List (Nat×α):=
 match l with
 |[]=>[]
 |(a,x)::r=>if a=k then del r k else(a,x)::del r k
theorem gU{α:Type}:∀(l:List (Nat×α)) (k j:Nat),look (del l k) j=if j=k then aC else look l j
 |[],k,j=>by simp[del,look]
 |(a,x)::r,k,j=>by
  simp only[del];by_cases h:a=k
  .rw[iP h,gU r k j];by_cases h2:j=k;.rw[iP h2,iP h2]
   rw[iN h2,iN h2];simp only[look];rw[iN oO]
  rw[iN h];simp only[look];by_cases h3:a=j;.rw[iP h3,iP h3,iN oO]
  rw[iN h3,iN h3];exact gU r k j
def jE(fr:Fr)(d:Option Nat)(v:AVal):Fr:=
 match d with
 |some t=>(t,v)::del fr t
 |none=>fr
def lK(H:aO):List (Nat×Option Blk)->aO
 |[]=>H
 |(id,aA B)::r=>(id,B)::del (lK H r) id
 |(id,aC)::r=>del (lK H r) id
def uS(upd:List (Nat×Option Blk))(id:Nat):Option (Option Blk):=look upd id
theorem uD(fr:Fr)(d:Option Nat)(v:AVal)(t:Nat):look (jE fr d v) t=if d=aA t then aA v else look fr t:=by
 cases d with
 |none=>simp[jE]
 |some x=>
  simp only[jE,look];by_cases h:x=t;.rw[iP h,iP (by rw[h])]
  rw[iN h,gU,iN (λ e=>h e.symm),iN (λ e=>h (by cases e;rfl))]
theorem mI(H:aO):∀(upd:List (Nat×Option Blk)) (id:Nat),look (lK H upd) id=match uS upd id with|some x=>x|none=>look H id
 |[],id=>rfl
 |(i,aA B)::r,id=>by
  simp only[lK,look,uS];by_cases h:i=id;.rw[iP h,iP h]
  rw[iN h,iN h,gU,iN (λ e=>h e.symm)];exact mI H r id
 |(i,aC)::r,id=>by
  simp only[lK,look,uS];by_cases h:i=id;.rw[iP h,gU,iP h.symm]
  rw[iN h,gU,iN (λ e=>h e.symm)];exact mI H r id
theorem mV(H:lU)(A:bZ):∀(upd:List (Nat×Option Blk)) (id:Nat),jD H A upd id=match uS upd id with|some x=>x.map λ B=>(B,A)|none=>H id
 |[],id=>rfl
 |(i,x)::r,id=>by
  simp only[jD,uS,look];by_cases h:id=i;.rw[iP h,iP h.symm]
  rw[iN h,iN (λ e=>h e.symm)];exact mV H A r id
def bCY(want:Bool):Value->Bool
 | .bool b=>b==want
 |_=>aE
def mO(all:Array Oper)(fr:Fr)(o:Oper):Option Bool:=
 match o.guard with
 |none=>aA aB
 | some (j,want)=>match((all[j]?).bind (·.dst)).bind (look fr)with
   |some (.lit v)=>aA (bCY want v)
   |_=>aC
structure Good (P:Program) (Γ:dL) (o:Oper) (ev:Operand->Option AVal) (get:Nat->Option Blk) (k:Nat) (out:Out):Prop where
 ok:OpOk P Γ o ev get k out
 rds:∀id,id∈out.rds->(get id).isSome=aB
 le:k<=out.k
structure Foot where
 rds:List Nat
 mods:List Nat
 k:Nat
 k':Nat
def Run(P:Program)(Γ:dL)(all:Array Oper):List Oper->Nat->Fr->aO->(List Foot->Nat->Fr->aO->Prop)->Prop
 |[],k,fr,H,K=>K [] k fr H
 | o::r,k,fr,H,K=>
   (mO all fr o=aA aE/\Run P Γ all r k (jE fr o.dst (.lit undef)) H (λ tr=>K (⟨[],[],k,k⟩::tr)))∨
   (mO all fr o=aA aB/\∃out,Good P Γ o (kV Γ fr) (look H) k out/\Run P Γ all r out.k (jE fr o.dst out.v) (lK H out.upd) (λ tr=>K (⟨out.rds,out.upd.map (·.1),k,out.k⟩::tr)))
def mQ(nt:Nat)(ops:Array Oper):Bool:=ops.toList.all λ o=>match o.dst with|some d=>decide (d<nt)|none=>aB
section
variable{P:Program}{Γ:dL}{nt kb:Nat}{Q:AQ}{k:Nat}{fr:Fr}{H:aO}
theorem aXW(A0:bZ)(kb k k':Nat)(h0:kb<=k)(h:k<=k'):(λ i=>kS A0 kb k i\/(k<=i/\i<k'))=kS A0 kb k':=funext λ i=>by
 simp only[kS,eq_iff_iff];constructor
 .rintro((h|h)|h);.exact .inl h
  .exact .inr ⟨h.1,oO⟩
  exact .inr ⟨oO,h.2⟩
 rintro(h|h);.exact .inl (.inl h)
 by_cases hi:i<k;.exact .inl (.inr ⟨h.1,hi⟩)
 exact .inr ⟨oO,h.2⟩
theorem aHO{A0:bZ}{kb k:Nat}(hA0:∀i,A0 i->i<kb)(h:kb<=k):∀i,kS A0 kb k i->i<k:=λ i hi=>by
 rcases hi with hi|hi;.have:=hA0 i hi;omega
 exact hi.2
theorem BL(a:Act)(d:Option Nat)(cv:Value)(t:Nat)(hd:∀x,d=aA x->x<a.tmps.size):(a.put d cv).tmps.getD t undef=if d=aA t then cv else a.tmps.getD t undef:=by
 cases d with
 |none=>simp[Act.put]
 |some x=>
  have hx:=hd x rfl;simp only[Act.put,aI];by_cases h:x=t;.subst h;rw[iP rfl,qZ hx];rfl
  rw[iN (λ e=>h (by cases e;rfl)),lH h]
theorem BK(a:Act)(d:Option Nat)(cv:Value):(a.put d cv).tmps.size=a.tmps.size:=by cases d<;>simp[Act.put]
theorem uQ(a:Act)(d:Option Nat)(cv:Value):(a.put d cv).defers=a.defers:=by cases d<;>rfl
theorem zJ{ops:Array Oper}(h:mQ nt ops=aB){i:Nat}{o:Oper}(hi:ops[i]? =aA o):∀x,o.dst=aA x->x<nt:=by intro x hx;have:=aW.1 h o (by simpa using SD hi);rw[hx]at this;simpa using this
theorem yU{ops:Array Oper}{o:Oper}{a:Act}{b:Bool}(hd:mQ nt ops=aB)(hsz:a.tmps.size=nt)
 (hslot:∀j want,o.guard=aA (j,want)->∀t,(ops[j]?).bind (·.dst)=aA t->∀c,look fr t=aA (.lit c)->a.tmps.getD t undef=c) (hg:mO ops fr o=aA b):
 Region.wanted o (yielded ops a.tmps)=b:=by
 unfold mO at hg;unfold Region.wanted
 cases hgd:o.guard with
 |none=>rw[hgd]at hg;cases hg;rfl
 |some jw=>
  obtain⟨j,want⟩:=jw;rw[hgd]at hg;simp only at hg⊢
  split at hg
  .rename_i c hc;cases hg;obtain⟨t,ht,hl⟩:=cE.1 hc;have h1:=hslot j want hgd t ht c hl;obtain⟨o',ho',hd'⟩:=cE.1 ht;have hlt:t<a.tmps.size:=by rw[hsz];exact zJ hd ho' t hd'
   unfold yielded;rw[ht];have h2:a.tmps[t]? =aA c:=by rw[aI,aQ hlt]at h1;rw[aQ hlt];simpa using h1
   simp only[bNV,h2];cases c<;>first|rfl|(rename_i c;cases c<;>cases want<;>rfl)
  cases hg
theorem SS{ops:Array Oper}(hd:mQ nt ops=aB){A0:bZ}(hA0:∀i,A0 i->i<kb){w0:World}{G0:Nat->Prop}{ρ0:cY}{Q':Exit->Act->World->Prop}:
 ∀ (l:List Oper) (i:Nat),(∀j,l[j]? =ops[i+j]?)->∀(k:Nat) (fr:Fr) (H:aO) (K:List Foot->Nat->Fr->aO->Prop),kb<=k->Run P Γ ops l k fr H K→
   ∀w G ρ a,Inv Γ nt w G ρ (kS A0 kb k) a fr H->Step (lC kb) w0 G0 ρ0 w G ρ→
   (∀tr k' fr' H' G' ρ' a' w',K tr k' fr' H'->kb<=k'->Inv Γ nt w' G' ρ' (kS A0 kb k') a' fr' H'->Step (lC kb) w0 G0 ρ0 w' G' ρ'->Q' .normal a' w')->wpOps P ops Q' (List.range' i l.length) a w:=by
 intro l
 induction l with
 |nil=>intro i hl k fr H K hk hrun w G ρ a hi hs hK;exact hK [] k fr H G ρ a w hrun hk hi hs
 |cons o r ih=>
  intro i hl k fr H K hk hrun w G ρ a hi hs hK;have ho:ops[i]? =aA o:=by have:=hl 0;simpa using this.symm
  have hdst:=zJ hd ho;have hl':∀j,r[j]? =ops[i+1+j]? :=λ j=>by have:=hl (j+1);rw[fM]at this;rw[this];congr 1;omega
  have hslot:∀j want,o.guard=aA (j,want)->∀t,(ops[j]?).bind (·.dst)=aA t->∀c,look fr t=aA (.lit c)->a.tmps.getD t undef=c:=
   λ j want _ t _ c hc=>gO (hi.frm t _ hc)
  have hlt:=aHO (A0:=A0) hA0 hk;rw[gS,List.range'_succ,wpOps_cons];unfold wpOp;rw[ho];rcases hrun with⟨hg,hrun⟩|⟨hg,out,⟨hop,hrds,hkk⟩,hrun⟩
  .simp only[yU hd hi.size hslot hg,aS,if_false];refine ih (i+1) hl' k _ H _ hk hrun w G ρ (a.put o.dst undef) ⟨hi.rel,by rw[BK];exact hi.size,by rw[uQ];exact hi.defers,λ t v hv=>?_⟩ hs (λ tr k' fr' H' G' ρ' a' w' h1=>hK _ k' fr' H' G' ρ' a' w' h1);rw[uD]at hv;rw[BL a o.dst undef t (λ x hx=>by rw[hi.size];exact hdst x hx)];split at hv;.rename_i he;cases hv;rw[iP he];exact .lit
   rename_i hne;rw[iN hne];exact hi.frm t v hv
  simp only[yU hd hi.size hslot hg,if_true];left;have hHof:∀id B A',bK H (kS A0 kb k) id=aA (B,A')->A'=kS A0 kb k:=λ id B A' hH=>by simp only[bK,aG]at hH;obtain⟨B',_,he⟩:=hH;cases he;rfl
  refine hop w G ρ (bK H (kS A0 kb k)) (kS A0 kb k) a hi.rel hlt (λ j h1 h2=>?_) (λ id hid=>?_) (λ x _ v hv=>XX hi hv) _ Q' (λ w' G' ρ' cv hrel hv hst=>?_)
  .refine⟨?_,λ id B A' hH hA=>?_⟩
   .cases hρ:ρ j with
    |none=>rfl
    |some x=>
     cases hH:bK H (kS A0 kb k) j with
     |none=>rw[hi.rel.dom j hH]at hρ;cases hρ
     |some y=>obtain⟨B,A⟩:=y;have hA:=(hi.rel.blk j B A hH).1;rw[hHof j B A hH]at hA;have:=hlt j hA;omega
   rw[hHof id B A' hH]at hA;have:=hlt j hA;omega
  .obtain⟨B,hB⟩:=fS.1 (hrds id hid);exact⟨B,kS A0 kb k,hB,by simp only[bK,hB,bU],λ _ h=>h⟩
  have hst':Step (lC kb) w G ρ w' G' ρ':=⟨hst.size,hst.keep,hst.shape,hst.g,hst.g',hst.own,λ j hj=>hst.ids j (λ hc=>by simp only[lC]at hj;omega),hst.os,hst.tape,hst.output⟩;rw[aXW A0 kb k out.k hk hkk]at hrel hv
  have hup:∀j,kS A0 kb k j->kS A0 kb out.k j:=λ j hj=>by
   rcases hj with hj|hj;.exact .inl hj
   exact .inr ⟨hj.1,oO⟩
  refine ih (i+1) hl' out.k _ _ _ oO hrun w' G' ρ' (a.put o.dst cv) ⟨?_,by rw[BK];exact hi.size,by rw[uQ];exact hi.defers,λ t v hv'=>?_⟩ (hs.trans hst' (λ _ h=>h)) (λ tr k' fr' H' G' ρ' a' w' h1=>hK _ k' fr' H' G' ρ' a' w' h1)
  .refine hrel.allow _ (λ id hid=>?_) (λ id B A' hid=>?_)
   .simp only[bK,dO]at hid;rw[mI]at hid;rw[mV];split at hid;.rename_i x hx;rw[hid];rfl
    rename_i hx;simp only[bK,hid,oB]
   simp only[bK,aG]at hid;obtain⟨B',hB',he⟩:=hid;cases he;rw[mI]at hB';rw[mV];split at hB';.rename_i x hx;rw[hB'];exact⟨kS A0 kb out.k,rfl,λ _ h=>h⟩
   rename_i hx;exact⟨kS A0 kb k,by simp only[bK,hB',bU],hup⟩
  rw[uD]at hv';rw[BL a o.dst cv t (λ x hx=>by rw[hi.size];exact hdst x hx)];split at hv';.rename_i he;cases hv';rw[iP he];exact hv
  rename_i hne;rw[iN hne];exact(hi.frm t v hv').step hi.rel hst (λ j hj hc=>by have:=hlt j hj;omega) hup
theorem QM{id:Nat}{ops:Array Oper}(hd:mQ nt ops=aB)(h:Run P Γ ops ops.toList k fr H (λ _ k' fr' H'=>kb<=k'->Q .normal k' fr' H')):W P Γ nt kb (.region id ops aE) Q k fr H:=λ A0 hA0 hk w G ρ a hi=>by
 refine wp_region ?_
 have:=SS (kb:=kb) (Q':=Post Γ nt A0 kb w G ρ Q) hd hA0 ops.toList 0 (λ j=>by rw[bF,fH]) k fr H _ hk h w G ρ a hi (kQ _ _ _ _)
  (λ tr k' fr' H' G' ρ' a' w' hK hk' hi' hs'=>⟨G',ρ',k',fr',H',hK hk',hk',hi',hs'⟩)
 rw[pU,<-List.range_eq_range']at this;exact this
end
inductive Bef (ops:Array Oper):Nat->Nat->Prop
 |edge {i o e}:ops[i]? =aA o->e∈o.after->Region.binds .any e=aB->Bef ops e.on i
 |trans {a b c}:Bef ops a b->Bef ops b c->Bef ops a c
def aHI(ops:Array Oper):Nat->Nat->Nat->Bool
 |0,_,_=>aE
 | f+1,j,i=>match ops[i]? with
   |some o=>o.after.toList.any λ e=>Region.binds .any e&&(e.on==j||aHI ops f j e.on)
   |none=>aE
theorem aPF{ops:Array Oper}:∀(f j i:Nat),aHI ops f j i=aB->Bef ops j i:=by
 intro f
 induction f with
 |zero=>intro j i h;cases h
 |succ f ih=>
  intro j i h;simp only[aHI]at h;split at h
  .rename_i o ho;obtain⟨e,he',hb⟩:=aLX.1 h;have he:e∈o.after:=by simpa using he'
   simp only[aH,bL,beq_iff_eq]at hb;obtain⟨h1,h2⟩:=hb;rcases h2 with rfl|h2;.exact .edge ho he h1
   exact .trans (ih j e.on h2) (.edge ho he h1)
  cases h
def pC(ops:Array Oper)(o:Oper):List Nat:=
 (o.op.operands.toList.filterMap λ | .tmp t=>aA t|_=>aC)++(match o.guard with|some (j,_)=>((ops[j]?).bind (·.dst)).toList|none=>[])
def kL(a b:List Nat):Bool:=a.any λ x=>b.contains x
def GZ(o:Oper):List Nat:=o.dst.toList
def mR(ops:Array Oper)(oj:Oper)(fj:Foot)(oi:Oper)(fi:Foot):Bool:=
 kL (GZ oj) (pC ops oi)||kL (GZ oj) (GZ oi)||kL (GZ oi) (pC ops oj)||kL fj.mods fi.rds||kL fj.mods fi.mods||kL fj.rds fi.mods
def kP(ops:Array Oper)(tr:List Foot):Bool:=
 (aN ops.size).all λ i=>match ops[i]?,tr[i]? with
   |some oi,aA fi=>(oi.after.toList.all λ e=> !Region.binds .any e||decide (e.on<i))&&(fi.mods.all λ x=>decide (x<fi.k'))&&
      (aN i).all λ j=>match ops[j]?,tr[j]? with
        |some oj,aA fj=> !mR ops oj fj oi fi||aHI ops ops.size j i
        |_,_=>aE
   |_,_=>aE
theorem xN{a b:List Nat}(h:kL a b=aE){x:Nat}(h1:x∈a)(h2:x∈b):False:=by unfold kL at h;have:=List.any_eq_false.1 h x h1;simp at this;exact this h2
section
variable{P:Program}{Γ:dL}{nt kb:Nat}{Q:AQ}{k:Nat}{fr:Fr}{H:aO}
def QO(P:Program)(Γ:dL)(ops:Array Oper)(o:Oper)(k:Nat)(fr:Fr)(H:aO)(out:Option Out)(k':Nat)(fr':Fr)(H':aO):Prop:=
 match out with
 |none=>mO ops fr o=aA aE/\k'=k/\fr'=jE fr o.dst (.lit undef)/\H'=H
 |some out=>mO ops fr o=aA aB/\Good P Γ o (kV Γ fr) (look H) k out/\k'=out.k/\fr'=jE fr o.dst out.v/\H'=lK H out.upd
def rH(k k':Nat):Option Out->Foot
 |none=>⟨[],[],k,k'⟩
 |some out=>⟨out.rds,out.upd.map (·.1),k,k'⟩
theorem aSA{ops:Array Oper}:∀(l:List Oper) (k:Nat) (fr:Fr) (H:aO) (K:List Foot->Nat->Fr->aO->Prop),Run P Γ ops l k fr H K→
 ∃ (kf:Nat->Nat) (frf:Nat->Fr) (Hf:Nat->aO) (outf:Nat->Option Out),kf 0=k/\frf 0=fr/\Hf 0=H∧
   (∀j o,l[j]? =aA o->QO P Γ ops o (kf j) (frf j) (Hf j) (outf j) (kf (j+1)) (frf (j+1)) (Hf (j+1)))∧
   ∃tr:List Foot,tr.length=l.length/\(∀j,j<l.length->tr[j]? =aA (rH (kf j) (kf (j+1)) (outf j)))/\K tr (kf l.length) (frf l.length) (Hf l.length):=by
 intro l
 induction l with
 |nil=>intro k fr H K h;exact⟨λ _=>k,λ _=>fr,λ _=>H,λ _=>aC,rfl,rfl,rfl,λ j o hj=>by simp at hj,[],rfl,λ j hj=>by simp at hj,h⟩
 |cons o r ih=>
  intro k fr H K h;rcases h with⟨hg,h⟩|⟨hg,out,hgood,h⟩
  .obtain⟨kf,frf,Hf,outf,h1,h2,h3,h4,tr,h5,h6,h7⟩:=ih _ _ _ _ h;refine⟨λ j=>match j with|0=>k|j+1=>kf j,λ j=>match j with|0=>fr|j+1=>frf j,λ j=>match j with|0=>H|j+1=>Hf j,λ j=>match j with|0=>aC|j+1=>outf j,rfl,rfl,rfl,λ j o' hj=>?_,⟨[],[],k,k⟩::tr,by simp[h5],λ j hj=>?_,h7⟩
   .cases j with
    |zero=>cases hj;exact⟨hg,h1,h2,h3⟩
    |succ j=>exact h4 j o' (by simpa using hj)
   cases j with
   |zero=>simp[rH,h1]
   |succ j=>exact h6 j (by simpa using hj)
  obtain⟨kf,frf,Hf,outf,h1,h2,h3,h4,tr,h5,h6,h7⟩:=ih _ _ _ _ h;refine⟨λ j=>match j with|0=>k|j+1=>kf j,λ j=>match j with|0=>fr|j+1=>frf j,λ j=>match j with|0=>H|j+1=>Hf j,λ j=>match j with|0=>aA out|j+1=>outf j,rfl,rfl,rfl,λ j o' hj=>?_,⟨out.rds,out.upd.map (·.1),k,out.k⟩::tr,by simp[h5],λ j hj=>?_,h7⟩
  .cases j with
   |zero=>cases hj;exact⟨hg,hgood,h1,h2,h3⟩
   |succ j=>exact h4 j o' (by simpa using hj)
  cases j with
  |zero=>simp[rH,h1]
  |succ j=>exact h6 j (by simpa using hj)
structure Text (A0:bZ) (P:Program) (Γ:dL) (ops:Array Oper) (kf:Nat->Nat) (frf:Nat->Fr) (Hf:Nat->aO) (outf:Nat->Option Out):Prop where
 init:∀x,A0 x->x<kf 0
 step:∀j o,ops[j]? =aA o->QO P Γ ops o (kf j) (frf j) (Hf j) (outf j) (kf (j+1)) (frf (j+1)) (Hf (j+1))
 low:∀i o e,ops[i]? =aA o->e∈o.after->Region.binds .any e=aB->e.on<i
 mods:∀i o out x,ops[i]? =aA o->outf i=aA out->x∈out.upd.map (·.1)->x<kf (i+1)
 apart:∀i j oi oj,j<i->ops[i]? =aA oi->ops[j]? =aA oj->mR ops oj (rH (kf j) (kf (j+1)) (outf j)) oi (rH (kf i) (kf (i+1)) (outf i))=aB->Bef ops j i
variable{A0:bZ}{ops:Array Oper}{kf:Nat->Nat}{frf:Nat->Fr}{Hf:Nat->aO}{outf:Nat->Option Out}
def aLY(outf:Nat->Option Out)(j:Nat):AVal:=match outf j with|some out=>out.v|none=> .lit undef
def BN(kf:Nat->Nat)(j x:Nat):Prop:=kf j<=x/\x<kf (j+1)
def aQB(A0:bZ)(ops:Array Oper)(kf:Nat->Nat)(i:Nat):bZ:=λ x=>A0 x\/∃j,j<ops.size/\Bef ops j i/\BN kf j x
def Aop(A0:bZ)(ops:Array Oper)(kf:Nat->Nat)(i:Nat):bZ:=λ x=>aQB A0 ops kf i x\/BN kf i x
def qI(ops:Array Oper)(j:Nat):Option Nat:=(ops[j]?).bind (·.dst)
def nC(outf:Nat->Option Out)(j id:Nat):Option (Option Blk):=match outf j with|some out=>uS out.upd id|none=>aC
def GN(A0:bZ)(ops:Array Oper)(kf:Nat->Nat)(fr0:Fr)(outf:Nat->Option Out)(D:Nat->Bool):Nat->Nat->Option (AVal×bZ)
 |0,t=>(look fr0 t).map λ v=>(v,A0)
 |m+1,t=>if D m=aB/\qI ops m=aA t then aA (aLY outf m,Aop A0 ops kf m)else GN A0 ops kf fr0 outf D m t
def HD(A0:bZ)(ops:Array Oper)(kf:Nat->Nat)(H0:aO)(outf:Nat->Option Out)(D:Nat->Bool):Nat->lU
 |0,id=>bK H0 A0 id
 |m+1,id=>if D m=aB then(match nC outf m id with|some x=>x.map λ B=>(B,Aop A0 ops kf m)|none=>HD A0 ops kf H0 outf D m id)else HD A0 ops kf H0 outf D m id
theorem DH{fr0:Fr}{D D':Nat->Bool}{t:Nat}:∀(m:Nat),(∀j,j<m->qI ops j=aA t->D j=D' j)->GN A0 ops kf fr0 outf D m t=GN A0 ops kf fr0 outf D' m t:=by
 intro m
 induction m with
 |zero=>intro _;rfl
 |succ m ih=>
  intro h;simp only[GN];rw[ih (λ j hj=>h j oO)];by_cases hd:qI ops m=aA t;.rw[h m oO hd]
  rw[iN (λ c=>hd c.2),iN (λ c=>hd c.2)]
theorem HZ{H0:aO}{D D':Nat->Bool}{id:Nat}:∀(m:Nat),(∀j,j<m->(nC outf j id).isSome=aB->D j=D' j)->HD A0 ops kf H0 outf D m id=HD A0 ops kf H0 outf D' m id:=by
 intro m
 induction m with
 |zero=>intro _;rfl
 |succ m ih=>
  intro h;simp only[HD];rw[ih (λ j hj=>h j oO)]
  cases hm:nC outf m id with
  |none=>simp
  |some x=>rw[h m oO (by rw[hm];rfl)]
theorem a2L{fr0:Fr}{t i:Nat}:∀(m:Nat),i<=m->GN A0 ops kf fr0 outf (λ j=>decide (j<i)) m t=GN A0 ops kf fr0 outf (λ _=>aB) i t:=by
 intro m
 induction m with
 |zero=>intro h;have:i=0:=oO;subst this;rfl
 |succ m ih=>
  intro h;by_cases he:i=m+1;.subst he;exact DH _ (λ j hj _=>by simp;omega)
  simp only[GN];rw[iN (by simp;omega)];exact ih oO
theorem bAU{H0:aO}{id i:Nat}:∀(m:Nat),i<=m->HD A0 ops kf H0 outf (λ j=>decide (j<i)) m id=HD A0 ops kf H0 outf (λ _=>aB) i id:=by
 intro m
 induction m with
 |zero=>intro h;have:i=0:=oO;subst this;rfl
 |succ m ih=>
  intro h;by_cases he:i=m+1;.subst he;exact HZ _ (λ j hj _=>by simp;omega)
  simp only[HD];rw[iN (by simp;omega)];exact ih oO
theorem aBJ(T:Text A0 P Γ ops kf frf Hf outf){t:Nat}:∀(i:Nat),i<=ops.size->(GN A0 ops kf (frf 0) outf (λ _=>aB) i t).map (·.1)=look (frf i) t:=by
 intro i
 induction i with
 |zero=>intro _;simp only[GN];cases look (frf 0) t<;>rfl
 |succ i ih=>
  intro hi;have ho:ops[i]? =aA ops[i]:=aQ oO;have hs:=T.step i _ ho;simp only[GN,true_and];have hd:qI ops i=(ops[i]).dst:=by simp[qI,ho]
  unfold QO at hs
  cases hout:outf i with
  |none=>
   rw[hout]at hs;rw[hs.2.2.1,uD,hd];split;.simp[aLY,hout]
   exact ih oO
  |some out=>
   rw[hout]at hs;rw[hs.2.2.2.1,uD,hd];split;.simp[aLY,hout]
   exact ih oO
theorem YI(T:Text A0 P Γ ops kf frf Hf outf){id:Nat}:∀(i:Nat),i<=ops.size->(HD A0 ops kf (Hf 0) outf (λ _=>aB) i id).map (·.1)=look (Hf i) id:=by
 intro i
 induction i with
 |zero=>intro _;simp only[HD,bK];cases look (Hf 0) id<;>rfl
 |succ i ih=>
  intro hi;have ho:ops[i]? =aA ops[i]:=aQ oO;have hs:=T.step i _ ho;simp only[HD,if_true];unfold QO at hs
  cases hout:outf i with
  |none=>rw[hout]at hs;rw[hs.2.2.2];simp only[nC,hout];exact ih oO
  |some out=>
   rw[hout]at hs;rw[hs.2.2.2.2,mI];simp only[nC,hout]
   cases hx:uS out.upd id with
   |none=>exact ih oO
   |some x=>cases x<;>rfl
theorem rO(T:Text A0 P Γ ops kf frf Hf outf):∀(j i:Nat),i<=j->j<=ops.size->kf i<=kf j:=by
 intro j
 induction j with
 |zero=>intro i h _;have:i=0:=oO;subst this;exact aF _
 |succ j ih=>
  intro i h hj;by_cases he:i=j+1;.subst he;exact aF _
  have h1:=ih i oO oO;have ho:ops[j]? =aA ops[j]:=aQ oO;have hs:=T.step j _ ho;unfold QO at hs
  cases hout:outf j with
  |none=>rw[hout]at hs;rw[hs.2.1];exact h1
  |some out=>rw[hout]at hs;rw[hs.2.2.1];exact qX h1 hs.2.1.le
theorem aJI(T:Text A0 P Γ ops kf frf Hf outf){i j x:Nat}(hi:i<ops.size)(hj:j<ops.size)(h1:BN kf i x)(h2:BN kf j x):i=j:=by
 rcases kA i j with h|h|h;.have:=rO T j (i+1) oO oO;unfold BN at*;omega
 .exact h
 have:=rO T i (j+1) oO oO;unfold BN at*;omega
theorem BM(T:Text A0 P Γ ops kf frf Hf outf){i x:Nat}(hi:i<ops.size)(h1:BN kf i x)(h2:A0 x):False:=by have h3:=T.init x h2;have:=rO T i 0 oO oO;unfold BN at*;omega
theorem bAX(T:Text A0 P Γ ops kf frf Hf outf){i j:Nat}(h:Bef ops j i):j<i:=by
 induction h with
 |edge ho he hb=>exact T.low _ _ _ ho he hb
 |trans _ _ h1 h2=>omega
theorem aOE{fr0:Fr}{t i:Nat}(hb:∀j,j<i->qI ops j=aA t->Bef ops j i):∀(m:Nat),m<=i->i<ops.size->∀v A,GN A0 ops kf fr0 outf (λ _=>aB) m t=aA (v,A)->∀x,A x->aQB A0 ops kf i x:=by
 intro m
 induction m with
 |zero=>intro _ _ v A h x hx;simp only[GN,aG]at h;obtain⟨u,_,he⟩:=h;cases he;exact .inl hx
 |succ m ih=>
  intro hm hi v A h x hx;simp only[GN,true_and]at h;split at h
  .rename_i hd;cases h;have hbm:=hb m oO hd;rcases hx with(hx|⟨j,hj,hbj,hn⟩)|hx;.exact .inl hx
   .exact .inr ⟨j,hj,.trans hbj hbm,hn⟩
   exact .inr ⟨m,oO,hbm,hx⟩
  exact ih oO hi v A h x hx
theorem aYU{H0:aO}{id i:Nat}(hb:∀j,j<i->(nC outf j id).isSome=aB->Bef ops j i):∀(m:Nat),m<=i->i<ops.size->∀B A,HD A0 ops kf H0 outf (λ _=>aB) m id=aA (B,A)->∀x,A x->aQB A0 ops kf i x:=by
 intro m
 induction m with
 |zero=>intro _ _ v A h x hx;simp only[HD,bK,aG]at h;obtain⟨u,_,he⟩:=h;cases he;exact .inl hx
 |succ m ih=>
  intro hm hi v A h x hx;simp only[HD,if_true]at h
  cases hmod:nC outf m id with
  |none=>rw[hmod]at h;exact ih oO hi v A h x hx
  |some y=>
   rw[hmod]at h;simp only[aG]at h;obtain⟨B',_,he⟩:=h;cases he;have hbm:=hb m oO (by rw[hmod];rfl);rcases hx with(hx|⟨j,hj,hbj,hn⟩)|hx;.exact .inl hx
   .exact .inr ⟨j,hj,.trans hbj hbm,hn⟩
   exact .inr ⟨m,oO,hbm,hx⟩
theorem UV(T:Text A0 P Γ ops kf frf Hf outf){D:Nat->Bool}(hD:∀j,D j=aB->∀l,Bef ops l j->D l=aB){i:Nat}(hi:i<ops.size)(hDi:D i=aE){x:Nat}(hx:BN kf i x){j:Nat}(hj:j<ops.size)(hDj:D j=aB):¬Aop A0 ops kf j x:=by
 rintro((h|⟨l,hl,hb,hn⟩)|h);.exact BM T hi hx h
 .have:=aJI T hi hl hx hn;subst this;rw[hD j hDj _ hb]at hDi;cases hDi
 have:=aJI T hi hj hx h;subst this;rw[hDj]at hDi;cases hDi
theorem a2K(T:Text A0 P Γ ops kf frf Hf outf){fr0:Fr}{D:Nat->Bool}(hD:∀j,D j=aB->∀l,Bef ops l j->D l=aB){i:Nat}(hi:i<ops.size)(hDi:D i=aE){x:Nat}(hx:BN kf i x){t:Nat}:
 ∀(m:Nat),m<=ops.size->∀v A,GN A0 ops kf fr0 outf D m t=aA (v,A)->¬A x:=by
 intro m
 induction m with
 |zero=>intro _ v A h hA;simp only[GN,aG]at h;obtain⟨u,_,he⟩:=h;cases he;exact BM T hi hx hA
 |succ m ih=>
  intro hm v A h;simp only[GN]at h;split at h;.rename_i hd;cases h;exact UV T hD hi hDi hx oO hd.1
  exact ih oO v A h
theorem bAT(T:Text A0 P Γ ops kf frf Hf outf){H0:aO}{D:Nat->Bool}(hD:∀j,D j=aB->∀l,Bef ops l j->D l=aB){i:Nat}(hi:i<ops.size)(hDi:D i=aE){x:Nat}(hx:BN kf i x){id:Nat}:
 ∀(m:Nat),m<=ops.size->∀B A,HD A0 ops kf H0 outf D m id=aA (B,A)->¬A x:=by
 intro m
 induction m with
 |zero=>intro _ v A h hA;simp only[HD,bK,aG]at h;obtain⟨u,_,he⟩:=h;cases he;exact BM T hi hx hA
 |succ m ih=>
  intro hm v A h;simp only[HD]at h;split at h
  .rename_i hd
   cases hmod:nC outf m id with
   |none=>rw[hmod]at h;exact ih oO v A h
   |some y=>rw[hmod]at h;simp only[aG]at h;obtain⟨B',_,he⟩:=h;cases he;exact UV T hD hi hDi hx oO hd
  exact ih oO v A h
theorem aKO{fr0:Fr}{D:Nat->Bool}{i t:Nat}(hn:qI ops i=aA t->∀j,i<j->D j=aB->qI ops j≠aA t):∀(m:Nat),i<m→
 GN A0 ops kf fr0 outf (λ j=>if j=i then aB else D j) m t=if qI ops i=aA t then aA (aLY outf i,Aop A0 ops kf i)else GN A0 ops kf fr0 outf D m t:=by
 intro m
 induction m with
 |zero=>intro h;omega
 |succ m ih=>
  intro h;by_cases he:m=i
  .subst he;simp only[GN,if_true,true_and];by_cases hd:qI ops m=aA t;.rw[iP hd,iP hd]
   rw[iN hd,iN hd,iN (λ c=>hd c.2)];exact DH _ (λ j hj _=>by rw[iN oO])
  simp only[GN,iN he];rw[ih oO];by_cases hd:qI ops i=aA t
  .rw[iP hd,iP hd];split;.rename_i hc;exact absurd hc.2 (hn hd m oO hc.1)
   rfl
  rw[iN hd,iN hd]
theorem aYT{H0:aO}{D:Nat->Bool}{i id:Nat}(hn:(nC outf i id).isSome=aB->∀j,i<j->D j=aB->nC outf j id=aC)(hDi:D i=aE):∀(m:Nat),i<m→
 HD A0 ops kf H0 outf (λ j=>if j=i then aB else D j) m id=match nC outf i id with|some x=>x.map λ B=>(B,Aop A0 ops kf i)|none=>HD A0 ops kf H0 outf D m id:=by
 intro m
 induction m with
 |zero=>intro h;omega
 |succ m ih=>
  intro h;by_cases he:m=i;.subst he;simp only[HD,if_true];have hc:HD A0 ops kf H0 outf (λ j=>if j=m then aB else D j) m id=HD A0 ops kf H0 outf D m id:=HZ _ (λ j hj _=>by rw[iN oO]);rw[hc,iN (by rw[hDi];simp)]
  simp only[HD,iN he];rw[ih oO]
  cases hm:nC outf i id with
  |none=>rfl
  |some x=>
   simp only;split;.rename_i hDm;rw[hn (by rw[hm];rfl) m oO hDm]
   rfl
def aHB(ops:Array Oper)(D:Nat->Bool):Prop:=∀j,D j=aB->∀l,Bef ops l j->D l=aB
theorem LI{D:Nat->Bool}(h:∀i o e,D i=aB->ops[i]? =aA o->e∈o.after->Region.binds .any e=aB->D e.on=aB):aHB ops D:=by
 intro j hj l hb
 induction hb with
 |edge ho he hb=>exact h _ _ _ hj ho he hb
 |trans h1 h2 ih1 ih2=>exact ih1 (ih2 hj)
theorem aNE{D:Nat->Bool}(hc:aHB ops D){i:Nat}{o:Oper}(ho:ops[i]? =aA o)(hr:∀e,e∈o.after->Region.binds .any e=aB->D e.on=aB):∀ {l},Bef ops l i->D l=aB:=by
 intro l hb
 have key:∀ {a b},Bef ops a b->b=i->D a=aB:=by
  intro a b hb
  induction hb with
  |edge ho' he hb'=>intro h;subst h;rw[ho]at ho';cases ho';exact hr _ he hb'
  |trans h1 h2 ih1 ih2=>intro h;exact hc _ (ih2 h) _ h1
 exact key hb rfl
structure DInv (A0:bZ) (Γ:dL) (nt:Nat) (ops:Array Oper) (kf:Nat->Nat) (fr0:Fr) (H0:aO) (outf:Nat->Option Out) (D:Nat->Bool) (w:World) (G:Nat->Prop) (ρ:cY) (a:Act):Prop where
 rel:HRel Γ w G ρ (HD A0 ops kf H0 outf D ops.size)
 size:a.tmps.size=nt
 defers:a.defers=[]
 frm:∀t v A,GN A0 ops kf fr0 outf D ops.size t=aA (v,A)->V w G ρ A v (a.tmps.getD t undef)
theorem aBK{i:Nat}{out:Out}(h:outf i=aA out):(rH (kf i) (kf (i+1)) (outf i)).rds=out.rds:=by rw[h];rfl
theorem aOH{i:Nat}{out:Out}(h:outf i=aA out):(rH (kf i) (kf (i+1)) (outf i)).mods=out.upd.map (·.1):=by rw[h];rfl
theorem aJN:∀ {upd:List (Nat×Option Blk)} {id:Nat},(uS upd id).isSome=aB->id∈upd.map (·.1)
 |[],id,h=>by simp[uS,look]at h
 |(i,x)::r,id,h=>by
  simp only[uS,look]at h;split at h;.rename_i he;simp[he]
  simp only[bI,eY];exact .inr (aJN h)
theorem yP{j id:Nat}(h:(nC outf j id).isSome=aB):id∈(rH (kf j) (kf (j+1)) (outf j)).mods:=by
 unfold nC at h
 cases hout:outf j with
 |none=>rw[hout]at h;simp at h
 |some out=>rw[hout]at h;exact aJN h
theorem GY{o:Oper}{t:Nat}(h:o.dst=aA t):t∈GZ o:=by simp[GZ,h]
theorem RK{oj oi:Oper}{fj fi:Foot}{t:Nat}(h1:oj.dst=aA t)(h2:t∈pC ops oi):mR ops oj fj oi fi=aB:=by
 cases hc:mR ops oj fj oi fi with
 |true=>rfl
 |false=>simp only[mR,fO]at hc;exact(xN hc.1.1.1.1.1 (GY h1) h2).elim
theorem PU{oj oi:Oper}{fj fi:Foot}{t:Nat}(h1:t∈pC ops oj)(h2:oi.dst=aA t):mR ops oj fj oi fi=aB:=by
 cases hc:mR ops oj fj oi fi with
 |true=>rfl
 |false=>simp only[mR,fO]at hc;exact(xN hc.1.1.1.2 (GY h2) h1).elim
theorem XN{oj oi:Oper}{fj fi:Foot}{t:Nat}(h1:oj.dst=aA t)(h2:oi.dst=aA t):mR ops oj fj oi fi=aB:=by
 cases hc:mR ops oj fj oi fi with
 |true=>rfl
 |false=>simp only[mR,fO]at hc;exact(xN hc.1.1.1.1.2 (GY h1) (GY h2)).elim
theorem HI{oj oi:Oper}{fj fi:Foot}{x:Nat}(h1:x∈fj.mods)(h2:x∈fi.rds\/x∈fi.mods):mR ops oj fj oi fi=aB:=by
 cases hc:mR ops oj fj oi fi with
 |true=>rfl
 |false=>
  simp only[mR,fO]at hc;rcases h2 with h2|h2;.exact(xN hc.1.1.2 h1 h2).elim
  exact(xN hc.1.2 h1 h2).elim
theorem RL{oj oi:Oper}{fj fi:Foot}{x:Nat}(h1:x∈fj.rds)(h2:x∈fi.mods):mR ops oj fj oi fi=aB:=by
 cases hc:mR ops oj fj oi fi with
 |true=>rfl
 |false=>simp only[mR,fO]at hc;exact(xN hc.2 h1 h2).elim
theorem aOQ(T:Text A0 P Γ ops kf frf Hf outf)(hd:mQ nt ops=aB){D:Nat->Bool}(hDs:∀j,D j=aB->j<ops.size)(hc:aHB ops D){i:Nat}{o:Oper}(ho:ops[i]? =aA o)(hDi:D i=aE)
 (hr:∀e,e∈o.after->Region.binds .any e=aB->D e.on=aB) {w:World} {G:Nat->Prop} {ρ:cY} {a:Act} (hinv:DInv A0 Γ nt ops kf (frf 0) (Hf 0) outf D w G ρ a)
 {K:Act->World->Prop} {Q':Exit->Act->World->Prop} (hK:∀w' G' ρ' a',DInv A0 Γ nt ops kf (frf 0) (Hf 0) outf (λ j=>if j=i then aB else D j) w' G' ρ' a'->Step (lC (kf 0)) w G ρ w' G' ρ'->K a' w'):wpOp P ops Q' i K a w:=by
 have hi:i<ops.size:=by have:=(dA.1 ho).1;exact this
 have hpre:∀ {l},Bef ops l i->D l=aB:=aNE hc ho hr;have hdsti:qI ops i=o.dst:=by simp[qI,ho]
 have opAt:∀j t,qI ops j=aA t->∃oj,ops[j]? =aA oj/\oj.dst=aA t:=λ j t h=>by obtain⟨oj,h1,h2⟩:=cE.1 h;exact⟨oj,h1,h2⟩
 have hslotD:∀t,t∈pC ops o->(∀j,j<i->qI ops j=aA t->Bef ops j i)/\(∀j,qI ops j=aA t->D j=decide (j<i)):=λ t ht=>by
  have h1:∀j,j<i->qI ops j=aA t->Bef ops j i:=λ j hj hdj=>by obtain⟨oj,h2,h3⟩:=opAt j t hdj;exact T.apart i j o oj hj ho h2 (RK h3 ht)
  refine⟨h1,λ j hdj=>?_⟩;obtain⟨oj,h2,h3⟩:=opAt j t hdj;rcases kA j i with h|h|h;.rw[hpre (h1 j h hdj)];simp[h]
  .rw[h,hDi];simp
  have hb:=T.apart j i oj o h h2 ho (PU ht h3)
  cases hDj:D j with
  |false=>simp;omega
  |true=>rw[hc j hDj _ hb]at hDi;cases hDi
 have hslot:∀t,t∈pC ops o->∀v,look (frf i) t=aA v->V w G ρ (aQB A0 ops kf i) v (a.tmps.getD t undef):=λ t ht v hv=>by
  obtain⟨h1,h2⟩:=hslotD t ht;have h3:=aBJ T (t:=t) i oO;rw[hv]at h3;simp only[aG]at h3;obtain⟨⟨v',A⟩,h4,h5⟩:=h3;simp only at h5;subst h5;have h6:GN A0 ops kf (frf 0) outf D ops.size t=aA (v',A):=by rw[DH (D':=λ j=>decide (j<i)) ops.size (λ j _ hdj=>h2 j hdj),a2L ops.size oO];exact h4
  exact(hinv.frm t v' A h6).mono (λ _ h=>h) (λ _ _=>rfl) (λ _ _=>rfl) (aOE h1 i (aF _) hi v' A h4) (λ _ _=> .inr rfl)
 have hguard:∀b,mO ops (frf i) o=aA b->Region.wanted o (yielded ops a.tmps)=b:=λ b hb=>
  yU hd hinv.size (λ j want hg t ht c hcl=>by have:=hslot t (by unfold pC;rw[hg];simp[ht]) _ hcl;exact gO this) hb
 have hs:=T.step i o ho;unfold QO at hs;have hdst:=zJ hd ho;have hdn:∀t,qI ops i=aA t->∀j,i<j->D j=aB->qI ops j≠aA t:=λ t ht j hj hDj hdj=>by obtain⟨oj,h2,h3⟩:=opAt j t hdj;rw[hdsti]at ht;have hb:=T.apart j i oj o hj h2 ho (XN ht h3);rw[hc j hDj _ hb]at hDi;cases hDi
 unfold wpOp;rw[ho]
 cases hout:outf i with
 |none=>
  rw[hout]at hs;obtain⟨hg,hk,hfr,hH⟩:=hs;simp only[hguard _ hg,aS,if_false];refine hK w G ρ (a.put o.dst undef) ⟨?_,by rw[BK];exact hinv.size,by rw[uQ];exact hinv.defers,λ t v A hv=>?_⟩ (kQ _ _ _ _)
  .have:HD A0 ops kf (Hf 0) outf (λ j=>if j=i then aB else D j) ops.size=HD A0 ops kf (Hf 0) outf D ops.size:=funext λ id=>by rw[aYT (λ h=>by simp[nC,hout]at h) hDi ops.size hi];simp[nC,hout]
   rw[this];exact hinv.rel
  rw[aKO (hdn t) ops.size hi]at hv;rw[BL a o.dst undef t (λ x hx=>by rw[hinv.size];exact hdst x hx)];rw[hdsti]at hv;split at hv;.rename_i he;cases hv;rw[iP he];simp only[aLY,hout];exact .lit
  rename_i hne;rw[iN hne];exact hinv.frm t v A hv
 |some out=>
  rw[hout]at hs;obtain⟨hg,hgood,hk,hfr,hH⟩:=hs;simp only[hguard _ hg,if_true];left;have hnew:∀x,(kf i<=x/\x<out.k)↔BN kf i x:=λ x=>by unfold BN;rw[hk]
  have hmod1:∀id,(nC outf i id).isSome=aB->∀j,i<j->D j=aB->nC outf j id=aC:=λ id h j hj hDj=>by
   cases hm:nC outf j id with
   |none=>rfl
   |some x=>have hj':=hDs j hDj;have hb:=T.apart j i _ o hj (aQ hj') ho (HI (yP h) (.inr (yP (by rw[hm];rfl))));rw[hc j hDj _ hb]at hDi;cases hDi
  refine hgood.ok w G ρ (HD A0 ops kf (Hf 0) outf D ops.size) (aQB A0 ops kf i) a hinv.rel (λ x hx=>?_) (λ x h1 h2=>?_) (λ id hid=>?_) (λ x hx v hv=>?_) K Q' (λ w' G' ρ' cv hrel hv hst=>?_)
  .rcases hx with hx|⟨j,hj,hb,hnj⟩;.have h1:=T.init x hx;have h2:=rO T i 0 oO oO;omega
   have h1:=bAX T hb;have h2:=rO T i (j+1) oO oO;unfold BN at hnj;omega
  .have hn:=(hnew x).1 ⟨h1,h2⟩;have hold:∀id B A,HD A0 ops kf (Hf 0) outf D ops.size id=aA (B,A)->¬A x:=λ id B A h=>bAT T hc hi hDi hn ops.size (aF _) B A h;refine⟨?_,hold⟩
   cases hH:HD A0 ops kf (Hf 0) outf D ops.size x with
   |none=>exact hinv.rel.dom x hH
   |some y=>obtain⟨B,A⟩:=y;exact absurd (hinv.rel.blk x B A hH).1 (hold x B A hH)
  .obtain⟨B,hB⟩:=fS.1 (hgood.rds id hid)
   have h1:∀j,j<i->(nC outf j id).isSome=aB->Bef ops j i:=λ j hj hm=>
    T.apart i j o _ hj ho (aQ oO) (HI (yP hm) (.inl (by rw[aBK hout];exact hid)))
   have h2:∀j,j<ops.size->(nC outf j id).isSome=aB->D j=decide (j<i):=λ j hj hm=>by
    rcases kA j i with h|h|h;.rw[hpre (h1 j h hm)];simp[h]
    .rw[h,hDi];simp
    have hb:=T.apart j i _ o h (aQ hj) ho (RL (by rw[aBK hout];exact hid) (yP hm))
    cases hDj:D j with
    |false=>simp;omega
    |true=>rw[hc j hDj _ hb]at hDi;cases hDi
   have h3:=YI T (id:=id) i oO;rw[hB]at h3;simp only[aG]at h3;obtain⟨⟨B',A⟩,h4,h5⟩:=h3;simp only at h5;subst h5;refine⟨B',A,hB,?_,aYU h1 i (aF _) hi B' A h4⟩;rw[HZ (D':=λ j=>decide (j<i)) ops.size (λ j hj hm=>h2 j hj hm),bAU ops.size oO];exact h4
  .cases x with
   |tmp t=>exact hslot t (by unfold pC;simp only[dC,List.mem_filterMap];exact .inl ⟨.tmp t,by simpa using hx,rfl⟩) v hv
   |const c=>cases hv;exact .lit
   |global g=>simp only[kV,aG]at hv;obtain⟨cells,hl,rfl⟩:=hv;exact(hinv.rel.glob g cells hl).1.weaken
   |func f=>cases hv;exact .fn rfl (λ j v hj=>by simp at hj)
  have hA:(λ x=>aQB A0 ops kf i x\/(kf i<=x/\x<out.k))=Aop A0 ops kf i:=funext λ x=>by simp only[Aop,BN,hk]
  rw[hA]at hrel hv;have hS:∀x A,¬A->(A->¬(kf i<=x/\x<out.k)):=λ x A h1 h2=>absurd h2 h1;refine hK w' G' ρ' (a.put o.dst cv) ⟨?_,by rw[BK];exact hinv.size,by rw[uQ];exact hinv.defers,λ t v A hv'=>?_⟩ ?_
  .have:HD A0 ops kf (Hf 0) outf (λ j=>if j=i then aB else D j) ops.size=jD (HD A0 ops kf (Hf 0) outf D ops.size) (Aop A0 ops kf i) out.upd:=funext λ id=>by rw[aYT (hmod1 id) hDi ops.size hi,mV];simp only[nC,hout];all_goals(cases uS out.upd id<;>rfl)
   rw[this];exact hrel
  .rw[aKO (hdn t) ops.size hi]at hv';rw[BL a o.dst cv t (λ x hx=>by rw[hinv.size];exact hdst x hx)];rw[hdsti]at hv';split at hv';.rename_i he;cases hv';rw[iP he];simp only[aLY,hout];exact hv
   rename_i hne;rw[iN hne];exact(hinv.frm t v A hv').step hinv.rel hst (λ x hx hn=>a2K T hc hi hDi ((hnew x).1 hn) ops.size (aF _) v A hv' hx) (λ _ h=>h)
  exact⟨hst.size,hst.keep,hst.shape,hst.g,hst.g',hst.own,λ x hx=>hst.ids x (λ hn=>by have h2:=rO T i 0 oO oO;simp only[lC]at hx;omega),hst.os,hst.tape,hst.output⟩
end
section
variable{P:Program}{Γ:dL}{nt kb:Nat}{Q:AQ}{k:Nat}{fr:Fr}{H:aO}
variable{A0:bZ}{ops:Array Oper}{kf:Nat->Nat}{frf:Nat->Fr}{Hf:Nat->aO}{outf:Nat->Option Out}
theorem aCE{p p':Nat->Bool}:∀(l:List Nat) (x:Nat),(∀y,p' y=aB->p y=aB)->x∈l->p x=aB->p' x=aE->l.countP p'<l.countP p
 |[],x,_,h,_,_=>by simp at h
 |y::r,x,hp,h,h1,h2=>by
  have hle:r.countP p'<=r.countP p:=List.countP_mono_left (λ z _ hz=>hp z hz);rw[List.countP_cons,List.countP_cons];rcases eY.1 h with rfl|h;.rw[h1,h2];simp;omega
  have ih:=aCE r x hp h h1 h2
  cases hy:p' y with
  |true=>rw[hp y hy];simp;exact ih
  |false=>simp;omega
def uJ(ops:Array Oper)(listed:Array Bool):Nat:=(aN ops.size).countP λ j=> !listed.getD j aE
theorem aVS(T:Text A0 P Γ ops kf frf Hf outf)(hd:mQ nt ops=aB){w0:World}{G0:Nat->Prop}{ρ0:cY}{Q':Exit->Act->World->Prop}
 (hQ:∀w G ρ a,DInv A0 Γ nt ops kf (frf 0) (Hf 0) outf (λ j=>decide (j<ops.size)) w G ρ a->Step (lC (kf 0)) w0 G0 ρ0 w G ρ->Q' .normal a w):
 ∀ (fuel:Nat) (listed:Array Bool) (w:World) (G:Nat->Prop) (ρ:cY) (a:Act),listed.size=ops.size->uJ ops listed<=fuel→
   (∀i o e,listed.getD i aE=aB->ops[i]? =aA o->e∈o.after->Region.binds .any e=aB->listed.getD e.on aE=aB)→
   DInv A0 Γ nt ops kf (frf 0) (Hf 0) outf (λ j=>listed.getD j aE) w G ρ a->Step (lC (kf 0)) w0 G0 ρ0 w G ρ->wpAny P .any ops Q' fuel listed a w:=by
 have hall:∀(listed:Array Bool),listed.size=ops.size->Region.ready .any ops listed=[]->∀j,j<ops.size->listed.getD j aE=aB:=by
  intro listed hsz hr j
  induction j using Nat.strongRecOn with
  |_ j ih=>
   intro hj
   cases hl:listed.getD j aE with
   |true=>rfl
   |false=>
    have hmem:j∈Region.ready .any ops listed:=by
     unfold Region.ready;rw[lW];refine⟨dK.2 hj,?_⟩;have ho:ops[j]? =aA ops[j]:=aQ hj
     have h1:listed.getD j aB=aE:=by
      rw[aI,aQ oO]at hl⊢
      simpa using hl
     rw[h1,ho];simp only[bU,aLU,Bool.not_false,lG];rw[Array.all_eq_true'];intro e he;by_cases hb:Region.binds .any e=aB;.have hlt:=T.low j _ e ho he hb;rw[ih e.on hlt oO];simp
     simp[hb]
    rw[hr]at hmem;simp at hmem
 have hend:∀(listed:Array Bool) w G ρ a,listed.size=ops.size->DInv A0 Γ nt ops kf (frf 0) (Hf 0) outf (λ j=>listed.getD j aE) w G ρ a->Step (lC (kf 0)) w0 G0 ρ0 w G ρ→
  Region.ready .any ops listed=[]->Q' .normal a w:=by
  intro listed w G ρ a hsz hinv hst hr
  have hl:=hall listed hsz hr
  have he:(λ j=>listed.getD j aE)=λ j=>decide (j<ops.size):=funext λ j=>by
   by_cases hj:j<ops.size;.rw[hl j hj];simp[hj]
   rw[aI,iD oO];simp;omega
  rw[he]at hinv
  exact hQ w G ρ a hinv hst
 intro fuel
 induction fuel with
 |zero=>
  intro listed w G ρ a hsz hcnt hed hinv hst
  have hr:Region.ready .any ops listed=[]:=by
   rw[FO];intro i hi;unfold Region.ready at hi;rw[lW]at hi;obtain⟨h1,h2⟩:=hi;simp only[aH,bD]at h2;have hlt:=dK.1 h1
   have h3:listed.getD i aE=aE:=by
    have h4:=h2.1;rw[aI,aQ oO]at h4⊢
    simpa using h4
   have h5:0<uJ ops listed:=by unfold uJ;rw[List.countP_pos_iff];exact⟨i,h1,by rw[h3];rfl⟩
   omega
  exact⟨hr,hend listed w G ρ a hsz hinv hst hr⟩
 |succ fuel ih=>
  intro listed w G ρ a hsz hcnt hed hinv hst;refine⟨hend listed w G ρ a hsz hinv hst,λ i hi=>?_⟩;unfold Region.ready at hi;rw[lW]at hi;obtain⟨h1,h2⟩:=hi;have hlt:=dK.1 h1;have ho:ops[i]? =aA ops[i]:=aQ hlt;rw[ho]at h2;simp only[bU,aLU,aH,bD]at h2
  have h3:listed.getD i aE=aE:=by
   have h4:=h2.1;rw[aI,aQ oO]at h4⊢
   simpa using h4
  have hrdy:∀e,e∈(ops[i]).after->Region.binds .any e=aB->listed.getD e.on aE=aB:=λ e he hb=>by have:=Array.all_eq_true'.1 h2.2 e he;simpa [hb]using this
  have hset:(λ j=>(listed.setIfInBounds i aB).getD j aE)=λ j=>if j=i then aB else listed.getD j aE:=funext λ j=>by
   by_cases hj:j=i;.subst hj;rw[iP rfl,aI,qZ oO];rfl
   rw[iN hj,aI,lH (λ e=>hj e.symm),<-aI]
  refine aOQ T hd (D:=λ j=>listed.getD j aE) (λ j hj=>?_) (LI hed) ho h3 hrdy hinv (λ w' G' ρ' a' hinv' hst'=>?_)
  .by_cases hjl:j<ops.size;.exact hjl
   rw[aI,iD oO]at hj;simp at hj
  refine ih (listed.setIfInBounds i aB) w' G' ρ' a' (by simp[hsz]) ?_ ?_ (by rw[hset];exact hinv') (hst.trans hst' (λ _ h=>h))
  .have hlt':uJ ops (listed.setIfInBounds i aB)<uJ ops listed:=by
    unfold uJ;refine aCE (aN ops.size) i (λ y hy=>?_) h1 (by rw[h3];rfl) (by rw[congrFun hset i];simp);have:=congrFun hset y;rw[this]at hy;by_cases hyi:y=i;.rw[iP hyi]at hy;simp at hy
    rw[iN hyi]at hy;exact hy
   omega
  intro j oj e hj hoj he hb;have e1:=congrFun hset j;have e2:=congrFun hset e.on;rw[e2];rw[e1]at hj;by_cases hji:j=i
  .subst hji;rw[ho]at hoj;cases hoj;by_cases hei:e.on=j;.rw[iP hei]
   rw[iN hei];exact hrdy e he hb
  rw[iN hji]at hj;by_cases hei:e.on=i;.rw[iP hei]
  rw[iN hei];exact hed j oj e hj hoj he hb
theorem aHV{id:Nat}(hm:P.follows .mixedOrders=aB)(hd:mQ nt ops=aB)(h:Run P Γ ops ops.toList k fr H (λ tr k' fr' H'=>kP ops tr=aB/\(kb<=k'->Q .normal k' fr' H'))):
 W P Γ nt kb (.region id ops aB) Q k fr H:=λ C0 hC0 hk w G ρ a hi=>by
 obtain⟨A0,hA0e⟩:∃A0,A0=kS C0 kb k:=⟨_,rfl⟩
 have hlt0:=aHO (A0:=C0) hC0 hk
 obtain⟨kf,frf,Hf,outf,h1,h2,h3,h4,tr,h5,h6,h7,h8⟩:=aSA (P:=P) (Γ:=Γ) (ops:=ops) ops.toList k fr H _ h
 rw[pU]at h5 h8
 have hstep:∀j o,ops[j]? =aA o->QO P Γ ops o (kf j) (frf j) (Hf j) (outf j) (kf (j+1)) (frf (j+1)) (Hf (j+1)):=λ j o hj=>h4 j o (by rw[bF];exact hj)
 have hfoot:∀j,j<ops.size->tr[j]? =aA (rH (kf j) (kf (j+1)) (outf j)):=λ j hj=>h6 j (by simpa using hj)
 have hrow:∀i oi,ops[i]? =aA oi->(oi.after.toList.all λ e=> !Region.binds .any e||decide (e.on<i))=aB/\((rH (kf i) (kf (i+1)) (outf i)).mods.all λ x=>decide (x<kf (i+1)))=aB∧
  ∀j oj,j<i->ops[j]? =aA oj->mR ops oj (rH (kf j) (kf (j+1)) (outf j)) oi (rH (kf i) (kf (i+1)) (outf i))=aB->aHI ops ops.size j i=aB:=λ i oi hoi=>by
  have hlt:=(dA.1 hoi).1
  have:=aW.1 h7 i (dK.2 hlt)
  rw[hoi,hfoot i hlt]at this
  simp only[aH]at this
  obtain⟨⟨t1,t2⟩,t3⟩:=this
  refine⟨t1,?_,λ j oj hj hoj hcl=>?_⟩
  · cases hout:outf i with
    |none=>simp[rH]
    |some out=>rw[hout]at t2;exact t2
  · have t4:=aW.1 t3 j (dK.2 hj)
    rw[hoj,hfoot j oO]at t4
    simp only[bL,bD]at t4
    rcases t4 with t4|t4
    · rw[hcl]at t4;cases t4
    · exact t4
 have T:Text A0 P Γ ops kf frf Hf outf:={
  init:=λ x hx=>by rw[hA0e]at hx;rw[h1];exact hlt0 x hx
  step:=hstep
  low:=λ i o e ho he hb=>by have:=aW.1 (hrow i o ho).1 e (by simpa using he);simpa [hb]using this
  mods:=λ i o out x ho hout hx=>by have:=aW.1 (hrow i o ho).2.1 x (by rw[aOH hout];exact hx);simpa using this
  apart:=λ i j oi oj hj hoi hoj hcl=>aPF _ _ _ ((hrow i oi hoi).2.2 j oj hj hoj hcl)}
 refine wp_region_any hm ?_
 have hrep:∀j,(wG ops.size aE).getD j aE=aE:=λ j=>by rw[aI,Array.getElem?_replicate];split<;>rfl
 have hemptyF:∀m t,GN A0 ops kf (frf 0) outf (λ j=>(wG ops.size aE).getD j aE) m t=(look (frf 0) t).map λ v=>(v,A0):=λ m t=>by
  induction m with
  |zero=>rfl
  |succ m ih=>simp only[GN];rw[iN (by rw[hrep];simp)];exact ih
 have hemptyH:∀m id,HD A0 ops kf (Hf 0) outf (λ j=>(wG ops.size aE).getD j aE) m id=bK (Hf 0) A0 id:=λ m id=>by
  induction m with
  |zero=>rfl
  |succ m ih=>simp only[HD];rw[iN (by rw[hrep];simp)];exact ih
 refine aVS T hd (w0:=w) (G0:=G) (ρ0:=ρ) (Q':=Post Γ nt C0 kb w G ρ Q) (λ w' G' ρ' a' hinv hst=>?_) ops.size _ {w with drawn:=w.drawn+1} G ρ a (by simp) ?_ (λ i o e hl=>by rw[hrep]at hl;cases hl) ⟨?_,hi.size,hi.defers,λ t v A hv=>?_⟩ (SL _ rfl rfl rfl rfl)
 ·
  have hkn:kb<=kf ops.size:=qX (by rw[h1];exact hk) (rO T ops.size 0 oO (aF _))
  have hold:∀x,A0 x->kS C0 kb (kf ops.size) x:=λ x hx=>by
   have h0:=rO T ops.size 0 oO (aF _);rw[hA0e]at hx;rcases hx with hx|hx;.exact .inl hx
   exact .inr ⟨hx.1,oO⟩
  have hnw:∀j,j<ops.size->∀x,BN kf j x->kS C0 kb (kf ops.size) x:=λ j hj x hn=>by have h0:=rO T j 0 oO oO;have:=rO T ops.size (j+1) oO (aF _);unfold BN at hn;exact .inr ⟨oO,oO⟩
  have hle:∀j,j<ops.size->∀x,Aop A0 ops kf j x->kS C0 kb (kf ops.size) x:=λ j hj x hx=>by
   rcases hx with(hx|⟨l,hl,_,hn⟩)|hn;.exact hold x hx
   .exact hnw l hl x hn
   exact hnw j hj x hn
  have hF:∀t,GN A0 ops kf (frf 0) outf (λ j=>decide (j<ops.size)) ops.size t=GN A0 ops kf (frf 0) outf (λ _=>aB) ops.size t:=λ t=>DH _ (λ j hj _=>by simp[hj])
  have hH:∀id,HD A0 ops kf (Hf 0) outf (λ j=>decide (j<ops.size)) ops.size id=HD A0 ops kf (Hf 0) outf (λ _=>aB) ops.size id:=λ id=>HZ _ (λ j hj _=>by simp[hj])
  have hFA:∀t m,m<=ops.size->∀v A,GN A0 ops kf (frf 0) outf (λ _=>aB) m t=aA (v,A)->∀x,A x->kS C0 kb (kf ops.size) x:=λ t m=>by
   induction m with
   |zero=>intro _ v A h x hx;simp only[GN,aG]at h;obtain⟨u,_,he⟩:=h;cases he;exact hold x hx
   |succ m ih=>
    intro hm v A h x hx;simp only[GN,true_and]at h;split at h;.cases h;exact hle m oO x hx
    exact ih oO v A h x hx
  have hHA:∀id m,m<=ops.size->∀B A,HD A0 ops kf (Hf 0) outf (λ _=>aB) m id=aA (B,A)->∀x,A x->kS C0 kb (kf ops.size) x:=λ id m=>by
   induction m with
   |zero=>intro _ v A h x hx;simp only[HD,bK,aG]at h;obtain⟨u,_,he⟩:=h;cases he;exact hold x hx
   |succ m ih=>
    intro hm B A h x hx;simp only[HD,if_true]at h
    cases hmod:nC outf m id with
    |none=>rw[hmod]at h;exact ih oO B A h x hx
    |some y=>rw[hmod]at h;simp only[aG]at h;obtain⟨B',_,he⟩:=h;cases he;exact hle m oO x hx
  have hst':Step (lC kb) w G ρ w' G' ρ':=⟨hst.size,hst.keep,hst.shape,hst.g,hst.g',hst.own,λ x hx=>hst.ids x (by simp only[lC]at hx⊢;omega),hst.os,hst.tape,hst.output⟩
  refine⟨G',ρ',kf ops.size,frf ops.size,Hf ops.size,h8 hkn,hkn,⟨?_,hinv.size,hinv.defers,λ t v hv=>?_⟩,hst'⟩
  · refine hinv.rel.allow _ (λ id hid=>?_) (λ id B A' hid=>?_)
    · simp only[bK,dO]at hid
      rw[<-YI T (id:=id) ops.size (aF _)]at hid
      rw[hH]
      simpa using hid
    · simp only[bK,aG]at hid
      obtain⟨B',hB',he⟩:=hid
      cases he
      rw[<-YI T (id:=id) ops.size (aF _)]at hB'
      simp only[aG]at hB'
      obtain⟨⟨B1,A1⟩,h9,h10⟩:=hB'
      simp only at h10;subst h10
      exact⟨A1,by rw[hH];exact h9,hHA id ops.size (aF _) _ A1 h9⟩
  · rw[<-aBJ T (t:=t) ops.size (aF _)]at hv
    simp only[aG]at hv
    obtain⟨⟨v1,A1⟩,h9,h10⟩:=hv
    simp only at h10;subst h10
    exact(hinv.frm t v1 A1 (by rw[hF];exact h9)).mono (λ _ h=>h) (λ _ _=>rfl) (λ _ _=>rfl) (hFA t ops.size (aF _) v1 A1 h9) (λ _ _=> .inr rfl)
 · unfold uJ
   refine qX (List.countP_le_length) ?_
   simp
 · have:HD A0 ops kf (Hf 0) outf (λ j=>(wG ops.size aE).getD j aE) ops.size=bK (Hf 0) A0:=funext λ id=>hemptyH ops.size id
   rw[this,h3,hA0e]
   exact hi.rel.same rfl rfl rfl rfl
 · rw[hemptyF]at hv
   simp only[aG]at hv
   obtain⟨u,hu,he⟩:=hv
   cases he
   rw[h2]at hu
   rw[hA0e]
   exact(hi.frm t _ hu).mono (w:=w) (w':={w with drawn:=w.drawn+1}) (λ _ h=>h) (λ _ _=>rfl) (λ _ _=>rfl) (λ _ h=>h) (λ _ _=> .inr rfl)
end
def aT(P:Program)(g:FuncId):Bool:=
 match P.funcs[g]? with
 |some fn=>fn.body.isSome&&fn.name != "runtime.NumGoroutine"
 |none=>aE
def jH(v:AVal)(k':Nat)(Hc Hout:aO):Out:=⟨v,k',(Hout.map λ x=>(x.1,aA x.2))++(Hc.map λ x=>(x.1,aC)),Hc.map (·.1)⟩
def pJ(ev:Operand->Option AVal):List Operand->Option (List AVal)
 |[]=>aA []
 | x::r=>match ev x,pJ ev r with
   |some v,aA vs=>aA (v::vs)
   |_,_=>aC
theorem CB{ev:Operand->Option AVal}:∀ {xs:List Operand} {vs:List AVal},pJ ev xs=aA vs->vs.length=xs.length/\∀(j:Nat) x v,xs[j]? =aA x->vs[j]? =aA v->ev x=aA v
 |[],vs,h=>by cases h;exact⟨rfl,λ j x v hx=>by simp at hx⟩
 |x::r,vs,h=>by
  simp only[pJ]at h;split at h
  .rename_i v vs' h1 h2;cases h;obtain⟨h3,h4⟩:=CB h2;refine⟨by simp[h3],λ j y u hy hu=>?_⟩
   cases j with
   |zero=>cases hy;cases hu;exact h1
   |succ j=>exact h4 j y u (by simpa using hy) (by simpa using hu)
  cases h
theorem GI{α:Type}:∀ {l:List (Nat×α)} {i:Nat} {x:α},look l i=aA x->(i,x)∈l
 |[],i,x,h=>by simp[look]at h
 |(a,y)::r,i,x,h=>by
  simp only[look]at h;split at h;.rename_i he;subst he;cases h;simp
  exact dM _ (GI h)
theorem TJ{α:Type}:∀ {l:List (Nat×α)} {i:Nat},look l i=aC->∀x,(i,x)∉l
 |[],i,_,x,hx=>by simp at hx
 |(a,y)::r,i,h,x,hx=>by
  simp only[look]at h;split at h;.cases h
  rename_i hne;rcases eY.1 hx with he|he;.cases he;exact hne rfl
  exact TJ h x he
theorem BR{α:Type}{l:List (Nat×α)}{i:Nat}{x:α}(h:(i,x)∈l):∃y,look l i=aA y:=by
 cases hl:look l i with
 |none=>exact absurd h (TJ hl x)
 |some y=>exact⟨y,rfl⟩
theorem ES(Hc Hout:aO)(id:Nat):uS ((Hout.map λ x=>(x.1,aA x.2))++(Hc.map λ x=>(x.1,(aC:Option Blk)))) id=
 match look Hout id with|some B=>aA (aA B)|none=>(match look Hc id with|some _=>aA aC|none=>aC):=by
 unfold uS
 induction Hout with
 |nil=>
  simp only[bQ,aU,look]
  induction Hc with
  |nil=>rfl
  |cons x r ih=>
   simp only[bI,look];by_cases h:x.1=id;.rw[iP h,iP h]
   rw[iN h,iN h];exact ih
 |cons x r ih=>
  simp only[bI,aV,look];by_cases h:x.1=id;.rw[iP h,iP h]
  rw[iN h,iN h];exact ih
def eQ(Hc:aO):Nat->Bool:=λ i=>(look Hc i).isSome
section
variable{P:Program}{Γ:dL}{o:Oper}{ev:Operand->Option AVal}{get:Nat->Option Blk}{k:Nat}
theorem ZL{f:Operand}{args:Array Operand}{ty:Array TypeId}{g:FuncId}(ho:o.op= .call {callee:= .value f,args:=args,argTypes:=ty})(hg:aT P g=aB)(a:Act)(cs:Array Value)
 (hf:a.eval f= .func (.func g) #[] cs) (w:World):(execOp a.eval o).run P w= .ok (.enter g (args.map a.eval++cs)) w:=by
 unfold aT at hg;split at hg
 .rename_i fn hfn;simp only[aH,bne_iff_ne,ne_eq]at hg;obtain⟨h1,h2⟩:=hg
  have h3:fn.body.isNone=aE:=by cases hb:fn.body with
   |none=>rw[hb]at h1;simp at h1
   |some _=>rfl
  simp only[execOp,ho,resolve,hf,Deferred.ofValue,bN,dE,bG,invoke,callFunc,run_program,hfn];rw[iN (by simpa using h2)];simp[h3]
 cases hg
theorem UO{g:FuncId}{vs:List AVal}{Hc Hout:aO}{r:AVal}{k':Nat}
 (hrun:∀w G ρ (A:bZ) (a:Act),(∀x,x∈o.op.operands->∀v,ev x=aA v->V w G ρ A v (a.eval x))->∃cargs,(execOp a.eval o).run P w= .ok (.enter g cargs) w/\Vs w G ρ A vs cargs)
 (hb:vs.all (bd (eQ Hc))=aB) (hbH:oM (eQ Hc) Hc=aB) (hin:∀id B,look Hc id=aA B->get id=aA B)
 (hT:Tr P Γ g k vs Hc (λ k1 r1 H1=>k1=k'/\r1=r/\H1=Hout)) (hk:k<=k'):Good P Γ o ev get k (jH r k' Hc Hout):=by
 refine⟨?_,λ id hid=>?_,hk⟩
 .intro w G ρ H A a hr hA hfr hrd hop next Q hn
  obtain⟨cargs,hrunc,hVs0⟩:=hrun w G ρ A a hop;have hHc:∀id B,look Hc id=aA B->∃A',H id=aA (B,A')/\∀i,A' i->A i:=λ id B hB=>by obtain⟨B',A',h1,h2,h3⟩:=hrd id (by simp only[jH,dB];exact⟨(id,B),GI hB,rfl⟩);rw[hin id B hB]at h1;cases h1;exact⟨A',h2,h3⟩
  let ρc:cY:=λ id=>if eQ Hc id=aB then ρ id else aC
  let Ac:bZ:=λ i=>A i/\eQ Hc i=aB;have hρc:∀id,eQ Hc id=aB->ρc id=ρ id:=λ id h=>by simp only[ρc,h,if_true]
  have hρc0:∀id,eQ Hc id=aE->ρc id=aC:=λ id h=>by simp only[ρc,h];rfl
  have toC:∀v cv,V w G ρ (λ i=>A i/\eQ Hc i=aB) v cv->V w G ρc Ac v cv:=λ v cv h=>
   h.mono (λ _ h=>h) (λ _ _=>rfl) (λ _ _=>rfl) (λ _ h=>h) (λ i hi=> .inr (hρc i hi.2))
  have hsomec:∀id x,ρc id=aA x->ρ id=aA x/\eQ Hc id=aB:=λ id x h=>by
   cases hkb:eQ Hc id with
   |false=>rw[hρc0 id hkb]at h;cases h
   |true=>rw[hρc id hkb]at h;exact⟨h,rfl⟩
  have hrelc:HRel Γ w G ρc (bK Hc Ac):=by
   refine⟨λ id hid=>?_,λ id B A1 hid=>?_,λ i j b s t hi hj=>hr.inj i j b s t (hsomec _ _ hi).1 (hsomec _ _ hj).1,hr.ro,hr.glob⟩;.simp only[bK,dO]at hid;exact hρc0 id (by simp[eQ,hid])
   simp only[bK,aG]at hid;obtain⟨B',hB',he⟩:=hid;cases he;obtain⟨A',h1,h2⟩:=hHc id B hB';obtain⟨h3,b,h4,h5,⟨⟨C,ty',hC,hrows⟩,hlen⟩⟩:=hr.blk id B A' h1;have hkb:eQ Hc id=aB:=by simp[eQ,hB']
   refine⟨⟨h2 _ h3,hkb⟩,b,by rw[hρc id hkb];exact h4,h5,⟨⟨C,ty',hC,λ r row c v h6 h7=>?_⟩,hlen⟩⟩;obtain⟨cv,h8,h9⟩:=hrows r row c v h6 h7;refine⟨cv,h8,?_⟩;by_cases hp:B.pure=aB;.simp only[hp,if_true]at h9⊢;exact h9
   simp only[hp]at h9⊢
   have h10:=BT hbH hB';simp only[aH,bL]at h10;have h11:=iT (iT (h10.2.resolve_left hp) h6) h7;have h12:V w G ρ A v cv:=h9.mono (λ _ h=>h) (λ _ _=>rfl) (λ _ _=>rfl) h2 (λ _ _=> .inr rfl);exact toC _ _ (aDE h12 h11)
  have hVs:Vs w G ρc Ac vs cargs:=⟨hVs0.1,λ j v hj=>toC _ _ (aDF (hVs0.2 j v hj) (iT hb hj))⟩;have hcall:=hT Ac (λ i hi=>hA i hi.1) w G ρc cargs hrelc hVs;unfold Oper.wp;rw[hrunc];refine hcall.mono λ e w' hp=>?_;obtain⟨cv,G',ρ',k1,r1,H1,rfl,⟨rfl,rfl,rfl⟩,hkk,hrel',hV',hst'⟩:=hp
  have hHout:∀id B,look H1 id=aA B->eQ Hc id=aB\/(k<=id/\id<k1):=λ id B hB=>by
   obtain⟨h1,b,h2,_⟩:=hrel'.blk id B (kS Ac k k1) (by simp[bK,hB]);rcases h1 with h1|h1;.exact .inl h1.2
   exact .inr h1
  let ρ'':cY:=λ id=>if eQ Hc id=aB\/eQ H1 id=aB then ρ' id else ρ id
  have hn1:∀id,eQ Hc id=aB->ρ'' id=ρ' id:=λ id h=>by simp only[ρ''];rw[iP (.inl h)]
  have hn2:∀id,eQ H1 id=aB->ρ'' id=ρ' id:=λ id h=>by simp only[ρ''];rw[iP (.inr h)]
  have hn3:∀id,eQ Hc id=aE->eQ H1 id=aE->ρ'' id=ρ id:=λ id h h'=>by simp only[ρ''];rw[iN (by rw[h,h'];simp)]
  have hnew:∀id,k<=id->id<k1->ρ'' id=ρ' id:=λ id h1 h2=>by
   cases hkc:eQ Hc id with
   |true=>exact hn1 id hkc
   |false=>
    cases hk1:eQ H1 id with
    |true=>exact hn2 id hk1
    |false=>rw[hn3 id hkc hk1,(hfr id h1 h2).1,hrel'.dom id (by simp only[bK];simp only[eQ]at hk1;simp at hk1;rw[hk1];rfl)]
  have hkeyA:∀id,eQ Hc id=aB->A id:=λ id h=>by obtain⟨B,hB⟩:=fS.1 h;obtain⟨A',h1,h2⟩:=hHc id B hB;exact h2 _ (hr.blk id B A' h1).1
  have hback:∀id,¬(k<=id/\id<k1)->ρ'' id=aC\/ρ'' id=ρ id:=λ id hid=>by
   cases hkc:eQ Hc id with
   |true=>
    rw[hn1 id hkc];rcases hst'.ids id (hA id (hkeyA id hkc))with h|h;.exact .inl h
    exact .inr (h.trans (hρc id hkc))
   |false=>
    cases hk1:eQ H1 id with
    |true=>
     obtain⟨B,hB⟩:=fS.1 hk1;rcases hHout id B hB with h|h;.rw[hkc]at h;cases h
     exact absurd h hid
    |false=>exact .inr (hn3 id hkc hk1)
  have hown:∀b,mZ ρc b->mZ ρ b:=λ b ⟨id,s,h⟩=>⟨id,s,(hsomec _ _ h).1⟩
  have hst:Step (λ i=>¬(k<=i/\i<k1)) w G ρ w' G' ρ'':=by
   refine⟨hst'.size,λ b hb ho'=>hst'.keep b hb (λ h=>ho' (hown b h)),hst'.shape,hst'.g,λ b hb=>?_,?_,hback,hst'.os,hst'.tape,hst'.output⟩
   .rcases hst'.g' b hb with h|h|h;.exact .inl h
    .exact .inr (.inl (hown b h))
    exact .inr (.inr h)
   rintro b ⟨id,s,h⟩;simp only[ρ'']at h;split at h
   .rcases hst'.own b ⟨id,s,h⟩with h|h;.exact .inl (hown b h)
    exact .inr h
   exact .inl ⟨id,s,h⟩
  have hVV:∀v cv,V w' G' ρ' (kS Ac k k1) v cv->V w' G' ρ'' (λ i=>A i\/(k<=i/\i<k1)) v cv:=λ v cv h=>
   h.mono (λ _ h=>h) (λ _ _=>rfl) (λ _ _=>rfl) (λ i hi=>hi.imp (λ h=>h.1) id) (λ i hi=>by
    rcases hi with hi|hi;.exact .inr (hn1 i hi.2)
    exact .inr (hnew i hi.1 hi.2))
  refine hn w' G' ρ'' cv ?_ (hVV _ _ hV') hst
  have WS:∀id,jD H (λ i=>A i\/(k<=i/\i<k1)) (jH r1 k1 Hc H1).upd id=match look H1 id with|some B=>aA (B,λ i=>A i\/(k<=i/\i<k1))|none=>(match look Hc id with|some _=>aC|none=>H id):=λ id=>by
   rw[mV];show(match uS ((H1.map λ x=>(x.1,aA x.2))++(Hc.map λ x=>(x.1,(aC:Option Blk)))) id with|some x=>x.map λ B=>(B,λ i=>A i\/(k<=i/\i<k1))|none=>H id)=_;rw[ES]
   cases look H1 id with
   |some B=>rfl
   |none=>cases look Hc id<;>rfl
  refine hr.after hst _ (λ id hid=>?_) (λ id B A1 hid=>?_) (λ i j b s t hi hj=>?_) hrel'.ro
  .have hid':jD H (λ i=>A i\/(k<=i/\i<k1)) (jH r1 k1 Hc H1).upd id=aC:=hid;rw[WS]at hid'
   cases h1:look H1 id with
   |some B=>rw[h1]at hid';cases hid'
   |none=>
    rw[h1]at hid'
    cases h2:look Hc id with
    |some B=>rw[hn1 id (by simp[eQ,h2])];exact hrel'.dom id (by simp[bK,h1])
    |none=>rw[h2]at hid';rw[hn3 id (by simp[eQ,h2]) (by simp[eQ,h1])];exact hr.dom id hid'
  .have hid':jD H (λ i=>A i\/(k<=i/\i<k1)) (jH r1 k1 Hc H1).upd id=aA (B,A1):=hid;rw[WS]at hid'
   cases h1:look H1 id with
   |some B'=>
    rw[h1]at hid';cases hid';obtain⟨h2,b,h3,h4,⟨⟨C,ty',hC,hrows⟩,hlen⟩⟩:=hrel'.blk id B (kS Ac k k1) (by simp[bK,h1]);refine⟨h2.imp (λ h=>h.1) (λ h=>h),.inr ⟨b,by rw[hn2 id (by simp[eQ,h1])];exact h3,h4,⟨⟨C,ty',hC,λ r row c v h6 h7=>?_⟩,hlen⟩⟩⟩;obtain⟨cv',h8,h9⟩:=hrows r row c v h6 h7;refine⟨cv',h8,?_⟩;by_cases hp:B.pure=aB;.simp only[hp,if_true]at h9⊢;exact h9
    simp only[hp]at h9⊢;exact hVV _ _ h9
   |none=>
    rw[h1]at hid'
    cases h2:look Hc id with
    |some B'=>rw[h2]at hid';cases hid'
    |none=>
     rw[h2]at hid';obtain⟨h3,b,h4,h5,_⟩:=hr.blk id B A1 hid';have hnc:¬mZ ρc b:=λ⟨i',s',h⟩=>by obtain⟨h6,h7⟩:=hsomec _ _ h;have:=hr.inj i' id _ _ _ h6 h4;subst this;simp[eQ,h2]at h7
     have hbl:=hr.owned_lt ⟨id,_,h4⟩;refine⟨h3,.inl ⟨A1,b,hid',λ _ h=>h,λ i hi hc=>(hfr i hc.1 hc.2).2 id B A1 hid' hi,by rw[hn3 id (by simp[eQ,h2]) (by simp[eQ,h1])],h4,hst'.keep b hbl hnc,λ hg'=>?_⟩⟩;rcases hst'.g' b hg' with h|h|h;.exact h5 h
     .exact hnc h
     omega
  have side:∀i s,ρ'' i=aA (b,s)->(ρ' i=aA (b,s)/\(eQ Hc i=aB\/eQ H1 i=aB))\/(ρ i=aA (b,s)/\eQ Hc i=aE):=λ i s h=>by
   simp only[ρ'']at h;split at h;.rename_i hc;exact .inl ⟨h,hc⟩
   rename_i hc;exact .inr ⟨h,by cases hkc:eQ Hc i with|true=>exact absurd (.inl hkc) hc|false=>rfl⟩
  have cross:∀i j s t,ρ' i=aA (b,s)->ρ j=aA (b,t)->eQ Hc j=aE->False:=λ i j s t h1 h2 h3=>by
   rcases hst'.own b ⟨i,s,h1⟩with⟨i',s',h⟩|h;.obtain⟨h4,h5⟩:=hsomec _ _ h;have:=hr.inj i' j _ _ _ h4 h2;subst this;rw[h3]at h5;cases h5
   have:=hr.owned_lt ⟨j,t,h2⟩;omega
  rcases side i s hi with⟨h1,_⟩|⟨h1,h1'⟩<;>rcases side j t hj with⟨h2,_⟩|⟨h2,h2'⟩;.exact hrel'.inj i j b s t h1 h2
  .exact(cross i j s t h1 h2 h2').elim
  .exact(cross j i t s h2 h1 h1').elim
  exact hr.inj i j b s t h1 h2
 simp only[jH,dB]at hid;obtain⟨x,hx,rfl⟩:=hid;obtain⟨y,hy⟩:=BR hx;rw[hin _ y hy];rfl
theorem XV{w:World}{G:Nat->Prop}{ρ:cY}{A:bZ}{a:Act}{args:Array Operand}{vs:List AVal}(ha:pJ ev args.toList=aA vs)(hop:∀x,x∈args->∀v,ev x=aA v->V w G ρ A v (a.eval x)):
 Vs w G ρ A vs (args.map a.eval):=by
 obtain⟨hal,haev⟩:=CB ha;refine⟨by simp[hal],λ j v hj=>?_⟩;have hlt:=(aK.1 hj).1;have hltA:j<args.size:=by rw[hal]at hlt;simpa using hlt
 have hx:args[j]? =aA args[j]:=aQ hltA;have h2:=hop args[j] (by simp) v (haev j args[j] v (by rw[bF];exact hx) hj);have e:(args.map a.eval).getD j undef=a.eval args[j]:=by rw[aI,Array.getElem?_map,hx];rfl
 rw[e];exact h2
theorem UY{w:World}{G:Nat->Prop}{ρ:cY}{A:bZ}{us vs:List AVal}{cs ds:Array Value}(h:Vs w G ρ A us cs)(g:Vs w G ρ A vs ds):Vs w G ρ A (us++vs) (cs++ds):=by
 refine⟨by simp[h.1,g.1],λ j v hj=>?_⟩;rw[dN]at hj;split at hj
 .rename_i hlt;have e:(cs++ds).getD j undef=cs.getD j undef:=by rw[aI,aI,fV (by rw[<-h.1];exact hlt)]
  rw[e];exact h.2 j v hj
 rename_i hge;have hs:=h.1;have e:(cs++ds).getD j undef=ds.getD (j-us.length) undef:=by rw[aI,aI,SF oO,hs]
 rw[e];exact g.2 _ v hj
theorem MO{f:Operand}{args:Array Operand}{ty:Array TypeId}{g:FuncId}{caps vs:List AVal}{Hc Hout:aO}{r:AVal}{k':Nat}
 (ho:o.op= .call {callee:= .value f,args:=args,argTypes:=ty}) (hg:aT P g=aB) (hf:ev f=aA (.fn g caps)) (ha:pJ ev args.toList=aA vs)
 (hb:(vs++caps).all (bd (eQ Hc))=aB) (hbH:oM (eQ Hc) Hc=aB) (hin:∀id B,look Hc id=aA B->get id=aA B)
 (hT:Tr P Γ g k (vs++caps) Hc (λ k1 r1 H1=>k1=k'/\r1=r/\H1=Hout)) (hk:k<=k'):Good P Γ o ev get k (jH r k' Hc Hout):=
 UO (λ w G ρ A a hop=>by
  have hvf:=hop f (by simp[ho,Op.operands,Call.operands]) _ hf;generalize hev:a.eval f=cv at hvf
  cases hvf with
  |fn h1 h2=>exact⟨_,ZL ho hg a _ hev w,UY (XV ha λ x hx v hv=>hop x (by simp[ho,Op.operands,Call.operands,hx]) v hv) ⟨h1,h2⟩⟩) hb hbH hin hT hk
theorem aCK{f:Operand}{args:Array Operand}{ty:Array TypeId}{g:FuncId}{i r0 c0:Nat}{vs:List AVal}{Hc Hout:aO}{r:AVal}{k':Nat}
 (ho:o.op= .call {callee:= .value f,args:=args,argTypes:=ty}) (hg:aT P g=aB) (hf:ev f=aA (.bfn g i r0 c0)) (ha:pJ ev args.toList=aA vs)
 (hb:(.ptr i r0 c0::vs).all (bd (eQ Hc))=aB) (hbH:oM (eQ Hc) Hc=aB) (hin:∀id B,look Hc id=aA B->get id=aA B)
 (hT:Tr P Γ g k (.ptr i r0 c0::vs) Hc (λ k1 r1 H1=>k1=k'/\r1=r/\H1=Hout)) (hk:k<=k'):Good P Γ o ev get k (jH r k' Hc Hout):=
 UO (λ w G ρ A a hop=>by
  have hvf:=hop f (by simp[ho,Op.operands,Call.operands]) _ hf;generalize hev:a.eval f=cv at hvf
  cases hvf with
  |bfn h1=>
   rename_i c1;refine⟨#[c1]++args.map a.eval,?_,UY (us:=[.ptr i r0 c0]) (cs:= #[c1]) ⟨rfl,λ j v hj=>?_⟩ (XV ha λ x hx v hv=>hop x (by simp[ho,Op.operands,Call.operands,hx]) v hv)⟩
   .unfold aT at hg;split at hg
    .rename_i fn hfn;simp only[aH,bne_iff_ne,ne_eq]at hg;obtain⟨h3,h4⟩:=hg
     have h5:fn.body.isNone=aE:=by cases hb:fn.body with
      |none=>rw[hb]at h3;simp at h3
      |some _=>rfl
     simp only[execOp,ho,resolve,hev,Deferred.ofValue,bN,dE,bG,invoke,callFunc,run_program,hfn];rw[iN (by simpa using h4)];simp[h5]
    cases hg
   cases j with
   |zero=>cases hj;exact h1
   |succ j=>simp at hj) hb hbH hin hT hk
def a0L(P:Program)(fr:Fr)(H:aO):ResultVar->Option AVal
 | .tmp t=>look fr t
 | .cell a t=>match look fr a,jO P t,oP P t with
   |some (.ptr id r c),aA ag,aA n=>(look H id).bind λ B=>if r=0/\c=0/\B.sz<n then iJ ag n B.rows.flatten 0 else(B.rows[r]?).bind λ row=>iJ ag n row c
   |_,_,_=>aC
def SV(P:Program)(fr:Fr)(H:aO):List ResultVar->Option (List AVal)
 |[]=>aA []
 | x::r=>match a0L P fr H x,SV P fr H r with
   |some v,aA vs=>aA (v::vs)
   |_,_=>aC
def KZ(P:Program)(fn:Func)(fr:Fr)(H:aO):Option AVal:=
 match SV P fr H fn.results.toList with
 |some [v]=>aA v
 |some vs=>aA (.tup vs)
 |none=>aC
def EQ(P:Program)(fn:Func)(Q:Nat->AVal->aO->Prop):AQ
 | .normal,k,fr,H=>∃r,KZ P fn fr H=aA r/\Q k r H
 | .ret,k,fr,H=>∃r,KZ P fn fr H=aA r/\Q k r H
 |_,_,_,_=>False
def LZ(tmps:Array Value):ResultVar->Sem Value
 | .tmp t=>pure (tmps.getD t undef)
 | .cell a t=>do loadVar t (←asAddr (tmps.getD a undef))
theorem aSF{A:bZ}{nt:Nat}{fr:Fr}{H:aO}{w:World}{G:Nat->Prop}{ρ:cY}{a:Act}(hi:Inv Γ nt w G ρ A a fr H){x:ResultVar}{v:AVal}(h:a0L P fr H x=aA v):
 ∃cv,(LZ a.tmps x).run P w= .ok cv w/\V w G ρ A v cv:=by
 cases x with
 |tmp t=>exact⟨_,rfl,hi.frm t v h⟩
 |cell ad t=>
  simp only[a0L]at h;split at h
  .rename_i id r c ag n h1 h2 h3;obtain⟨B,hB,h4⟩:=cE.1 h;have hv:=hi.frm ad _ h1;obtain⟨_,b,hb,_,hBR⟩:=hi.rel.blk id B A (by simp[bK,hB]);generalize hev:a.tmps.getD ad undef=cv at hv;split at h4
   .rename_i hc0;obtain⟨rfl,rfl,_⟩:=hc0
    cases hv with
    |dang _ hn=>rw[hb]at hn;cases hn
    |ptr ha hρ hsh=>
     rw[hb]at hρ;cases hρ;obtain⟨⟨C,ty,hC,hrows⟩,hlen⟩:=hBR.old hsh;have hcell:∀(j:Nat) u,B.rows.flatten[j]? =aA u->w.cell? ⟨b,0*B.sz+j,aC⟩=aA (C.getD (0*B.sz+j) undef):=λ j u hj=>by obtain⟨r,row,c,h3,h4,rfl⟩:=BY hlen j u hj;obtain⟨cv,h5,_⟩:=hrows r row c u h3 h4;rw[qW,fH,cell_of_row w b _ C ty (0,0) hC,h5,aI,h5];rfl
     have hval:∀(j:Nat) u,B.rows.flatten[j]? =aA u->V w G ρ A u (C.getD (0*B.sz+j) undef):=λ j u hj=>by
      obtain⟨r,row,c,h3,h4,rfl⟩:=BY hlen j u hj;obtain⟨cv,h5,h6⟩:=hrows r row c u h3 h4;rw[qW,fH,aI,h5];by_cases hp:B.pure=aB;.simp only[hp,if_true]at h6;exact h6.weaken
      simp only[hp]at h6;exact h6
     obtain⟨cv,hrun,hV⟩:=xQ (P:=P) h2 h3 h4 (λ j=>C.getD (0*B.sz+j) undef) hcell hval;refine⟨cv,?_,hV⟩;simp only[Instr.loadAt,Instr.sureAddr,bN,dE,bG]at hrun;show Sem.run P (do loadVar t (←asAddr (a.tmps.getD ad undef))) w=_;rw[hev];simpa [asAddr]using hrun
   obtain⟨row,hrow,h5⟩:=cE.1 h4
   cases hv with
   |dang _ hn=>rw[hb]at hn;cases hn
   |ptr ha hρ hsh=>
    rw[hb]at hρ;cases hρ;obtain⟨⟨C,ty,hC,hrows⟩,hlen⟩:=hBR.old hsh;have hcell:∀j u,row[j]? =aA u->w.cell? ⟨b,r*B.sz+j,aC⟩=aA (C.getD (r*B.sz+j) undef):=λ j u hj=>by obtain⟨cv,h3,_⟩:=hrows r row j u hrow hj;rw[cell_of_row w b _ C ty (0,0) hC,h3,aI,h3];rfl
    have hval:∀j u,row[j]? =aA u->V w G ρ A u (C.getD (r*B.sz+j) undef):=λ j u hj=>by
     obtain⟨cv,h3,h4⟩:=hrows r row j u hrow hj;rw[aI,h3];by_cases hp:B.pure=aB;.simp only[hp,if_true]at h4;exact h4.weaken
     simp only[hp]at h4;exact h4
    obtain⟨cv,hrun,hV⟩:=xQ (P:=P) h2 h3 h5 (λ j=>C.getD (r*B.sz+j) undef) hcell hval;refine⟨cv,?_,hV⟩;simp only[Instr.loadAt,Instr.sureAddr,bN,dE,bG]at hrun;show Sem.run P (do loadVar t (←asAddr (a.tmps.getD ad undef))) w=_;rw[hev];simp[asAddr,hrun]
  cases h
theorem SU{A:bZ}{nt:Nat}{fr:Fr}{H:aO}{w:World}{G:Nat->Prop}{ρ:cY}{a:Act}(hi:Inv Γ nt w G ρ A a fr H):∀ {xs:List ResultVar} {vs:List AVal},SV P fr H xs=aA vs→
 ∃ cs:List Value,(xs.mapM (LZ a.tmps)).run P w= .ok cs w/\vs.length=cs.length∧
   ∀(j:Nat) v c,vs[j]? =aA v->cs[j]? =aA c->V w G ρ A v c
 |[],vs,h=>by cases h;exact⟨[],rfl,rfl,λ j v c hv=>by simp at hv⟩
 |x::r,vs,h=>by
  simp only[SV]at h;split at h
  .rename_i v vs' h1 h2;cases h;obtain⟨cv,h3,h4⟩:=aSF hi h1;obtain⟨cs,h5,h6,h7⟩:=SU hi h2;refine⟨cv::cs,?_,by simp[h6],λ j u c hu hc=>?_⟩;.rw[List.mapM_cons,bN,h3,bG,bN,h5];rfl
   cases j with
   |zero=>cases hu;cases hc;exact h4
   |succ j=>exact h7 j u c (by simpa using hu) (by simpa using hc)
  cases h
theorem aSG{A:bZ}{nt:Nat}{fn:Func}{fr:Fr}{H:aO}{w:World}{G:Nat->Prop}{ρ:cY}{a:Act}(hi:Inv Γ nt w G ρ A a fr H){r:AVal}(h:KZ P fn fr H=aA r):
 ∃cv,(results fn a.tmps).run P w= .ok cv w/\V w G ρ A r cv:=by
 unfold KZ at h
 cases hvs:SV P fr H fn.results.toList with
 |none=>rw[hvs]at h;cases h
 |some vs=>
  obtain⟨cs,h1,h2,h3⟩:=SU hi hvs;have hmap:(fn.results.mapM (LZ a.tmps)).run P w= .ok cs.toArray w:=by rw[Array.mapM_eq_mapM_toList,Sem.run_map,h1];rfl
  have hres:(results fn a.tmps).run P w= .ok (if h:cs.toArray.size=1 then cs.toArray[0]else .tuple cs.toArray) w:=by show Sem.run P (do let vs ←fn.results.mapM (LZ a.tmps);pure (if h:vs.size=1 then vs[0]else .tuple vs)) w=_;rw[bN,hmap];rfl
  refine⟨_,hres,?_⟩;rw[hvs]at h
  match vs,h,h2,h3 with
  | [v],h,h2,h3=>
    cases h
    match cs,h2,h3 with
    |[c],_,h3=>exact h3 0 _ c rfl rfl
  | [],h,h2,h3=>
    cases h
    match cs,h2 with
    |[],_=>exact .tup rfl (λ j v hj=>by simp at hj)
  | v1::v2::vr,h,h2,h3=>
    cases h
    match cs,h2,h3 with
    | c1::c2::cr,h2,h3=>
      rw[dif_neg (by simp)]
      refine .tup (by simpa using h2) λ j v hj=>?_
      have hlt:=(aK.1 hj).1
      have hlt':j<(c1::c2::cr).length:=oO
      have e:(c1::c2::cr).toArray.getD j undef=(c1::c2::cr)[j]:=by rw[aI,cJ,aJ hlt'];rfl
      rw[e]
      exact h3 j v _ hj (aJ hlt')
theorem MR{f:FuncId}{fn:Func}{c:Code}{args:List AVal}{H:aO}{Q:Nat->AVal->aO->Prop}(hf:P.funcs[f]? =aA fn)(hb:fn.body=aA c)(hn:args.length<=fn.ntmps)
 (h:W P Γ fn.ntmps k c (EQ P fn Q) k (vS 0 args) H):Tr P Γ f k args H Q:=by
 intro A hA w G ρ cargs hrel hargs
 have hi:Inv Γ fn.ntmps w G ρ (kS A k k) {tmps:=cargs++wG (fn.ntmps-cargs.size) undef,defers:=[]} (vS 0 args) H:=by
  have hAk:A=kS A k k:=funext λ i=>by simp only[kS,eq_iff_iff];constructor;· exact .inl
                                      · rintro(h|h);· exact h
                                        · omega
  rw[<-hAk];refine⟨hrel,by simp[<-hargs.1];omega,rfl,λ t v hv=>?_⟩;obtain⟨_,h2⟩:=QF args 0 t v hv;simp only[iV]at h2;have hlt:=(aK.1 h2).1;have:=hargs.2 t v h2;have e:(cargs++wG (fn.ntmps-cargs.size) undef).getD t undef=cargs.getD t undef:=by rw[aI,aI,fV (by rw[<-hargs.1];exact hlt)]
  rw[e];exact this
 refine calls_of_wp hf hb (wp_mono (h A hA (aF _) w G ρ _ hi) λ e a' w' hp=>?_);obtain⟨G',ρ',k',fr',H',hQ,hk',hi',hst⟩:=hp;have fin:(∃r,KZ P fn fr' H'=aA r/\Q k' r H')->a'.defers=[]/\∃v,(results fn a'.tmps).run P w'= .ok v w'/\∃cv G' ρ' k' r H',Ending.returned v= .returned cv/\Q k' r H'/\k<=k'/\HRel Γ w' G' ρ' (bK H' (kS A k k'))/\V w' G' ρ' (kS A k k') r cv/\Step (lC k) w G ρ w' G' ρ':=by rintro⟨r,hr,hq⟩;obtain⟨cv,h1,h2⟩:=aSG (P:=P) (fn:=fn) hi' hr;exact⟨hi'.defers,cv,h1,cv,G',ρ',k',r,H',rfl,hq,hk',hi'.rel,h2,hst⟩
 cases e with
 |normal=>exact fin hQ
 |ret=>exact fin hQ
 |exit id=>exact hQ.elim
 |goto l=>exact hQ.elim
 |panic ch=>exact hQ.elim
 |outgrown=>exact hQ.elim
end
section
variable{P:Program}{Γ:dL}{o:Oper}{ev:Operand->Option AVal}{get:Nat->Option Blk}{k:Nat}
def bound(ev:Operand->Option AVal)(x:Option Operand)(d:Int):Option Int:=
 match x with
 |none=>aA d
 | some y=>match ev y with
   |some (.lit (.int _ i))=>aA i
   |_=>aC
theorem pX{t s:Nat}(ht:CC P t=aA s)(lo hi:Option Value)(base:Option Addr)(len cap:Nat)(l h:Int)(hl:lo=aC/\l=0\/∃kk,lo=aA (.int kk l))(hh:hi=aC/\h=len\/∃kk,hi=aA (.int kk h))
 (h0:0<=l) (h1:l<=h) (h2:h<=len) (h3:len<=cap) (w:World):
 (Instr.sliceAt t (.slice base len cap) lo hi aC).run P w= .ok (.slice (if cap=l.toNat then base else base.map (·.add (l.toNat*s))) (h.toNat-l.toNat) (cap-l.toNat)) w:=by
 obtain⟨e,i,hu,hi',rfl⟩:=GW ht
 have hb:(Instr.sliceBounds aB len cap lo hi aC).run P w= .ok (l.toNat,h.toNat,cap) w:=by
  have q1:(0:Int)<=h/\h<=(cap:Int):=⟨oO,oO⟩;have q3:(0:Int)<=l/\l<=(h.toNat:Int):=⟨h0,oO⟩;rcases hl with⟨rfl,rfl⟩|⟨kl,rfl⟩<;>rcases hh with⟨rfl,rfl⟩|⟨kh,rfl⟩;.simp[Instr.sliceBounds]
  .simp[Instr.sliceBounds,Instr.sliceBound,asIntOf,q1]
  .have q2:(0:Int)<=l/\l<=(len:Int):=⟨h0,h1⟩;simp[Instr.sliceBounds,Instr.sliceBound,asIntOf,q2]
  simp only[Instr.sliceBounds,Instr.sliceBound,asIntOf,bN,dE,bG,q1,and_self,if_true,q3]
 simp only[Instr.sliceAt,underlying,bN,run_program,bG,hu,dE,Instr.slice,hb,sizeOf,typeInfo,hi']
theorem nH{x:Option Operand}{d i:Int}(h:bound ev x d=aA i){a:Act}{w:World}{G:Nat->Prop}{ρ:cY}{A:bZ}(hv:∀y,x=aA y->∀v,ev y=aA v->V w G ρ A v (a.eval y)):
 x.map a.eval=aC/\i=d\/∃kk,x.map a.eval=aA (.int kk i):=by
 cases x with
 |none=>cases h;exact .inl ⟨rfl,rfl⟩
 |some y=>
  simp only[bound]at h;split at h;.rename_i kk j hy;cases h;have:=gO (hv y rfl _ hy);exact .inr ⟨kk,by simp[this]⟩
  cases h
theorem ZF{t s n:Nat}{x:Operand}{lo hi:Option Operand}{f:Nat->List AVal}{l h:Int}(ho:o.op= .slice t x lo hi aC)(ht:CC P t=aA s)(hx:ev x=aA (.rd s n f))(hl:bound ev lo 0=aA l)(hh:bound ev hi n=aA h)
 (h0:0<=l) (h1:l<=h) (h2:h<=n):OpOk P Γ o ev get k ⟨.rd s (h.toNat-l.toNat) (λ i=>f (l.toNat+i)),k,[],[]⟩:=by
 refine cF λ w G ρ H A a hr _ hop=>?_;have hvx:=hop x (by simp[ho,Op.operands]) _ hx;have el:=nH (w:=w) (G:=G) (ρ:=ρ) (A:=A) (a:=a) hl (λ y hy v hv=>hop y (by simp[ho,Op.operands,hy]) v hv);have eh:=nH (w:=w) (G:=G) (ρ:=ρ) (A:=A) (a:=a) hh (λ y hy v hv=>hop y (by simp[ho,Op.operands,hy]) v hv);generalize hev:a.eval x=cv at hvx
 cases hvx with
 |rd0=>rename_i base cap;have hrun:=pX ht (lo.map a.eval) (hi.map a.eval) base 0 cap l h el eh h0 h1 oO oO w;have e0:h.toNat-l.toNat=0:=oO;refine⟨_,by simp only[execOp,ho,hev,oB,bN,hrun,bG,dE];rfl,?_⟩;rw[e0];exact .rd0
 |rd g hb hcap hn hlen hc hv=>
  rename_i b off cap;have hrun:=pX ht (lo.map a.eval) (hi.map a.eval) (aA ⟨b,off,aC⟩) n cap l h el eh h0 h1 h2 hcap w;refine⟨_,by simp only[execOp,ho,hev,oB,bN,hrun,bG,dE];rfl,?_⟩;by_cases hcl:cap=l.toNat;.have e0:h.toNat-l.toNat=0:=oO;rw[e0];exact .rd0
  rw[iN hcl,bU,Addr.add_mid];refine .rd (λ i j=>g (l.toNat+i) j) hb oO oO (λ i hi'=>hlen _ oO) (λ i j v hi' hj=>?_) (λ i j v hi' hj=>hv _ j v oO hj);have:=hc (l.toNat+i) j v oO hj;rw[<-this];congr 2;rw[cQ];omega
theorem ZE{t s n id r:Nat}{x:Operand}{lo hi:Option Operand}{B:Blk}{l h:Int}(ho:o.op= .slice t x lo hi aC)(ht:CC P t=aA s)(hx:ev x=aA (.sl id r n))(hB:get id=aA B)(hs:B.sz=s)
 (hl:bound ev lo 0=aA l) (hh:bound ev hi n=aA h) (h0:0<=l) (h1:l<=h) (h2:h<=n):OpOk P Γ o ev get k ⟨.sl id (r+l.toNat) (h.toNat-l.toNat),k,[],[id]⟩:=by
 refine cF λ w G ρ H A a hr hrd hop=>?_;have hvx:=hop x (by simp[ho,Op.operands]) _ hx;have el:=nH (w:=w) (G:=G) (ρ:=ρ) (A:=A) (a:=a) hl (λ y hy v hv=>hop y (by simp[ho,Op.operands,hy]) v hv);have eh:=nH (w:=w) (G:=G) (ρ:=ρ) (A:=A) (a:=a) hh (λ y hy v hv=>hop y (by simp[ho,Op.operands,hy]) v hv);obtain⟨B',A',h3,hH,_⟩:=hrd id (by simp);rw[hB]at h3;cases h3;obtain⟨_,b,hb,_⟩:=hr.blk id B A' hH;generalize hev:a.eval x=cv at hvx
 cases hvx with
 |dangs _ hn=>rw[hb]at hn;cases hn
 |sl0 ha hρ=>have hrun:=pX ht (lo.map a.eval) (hi.map a.eval) aC 0 0 l h el eh h0 h1 h2 (aF _) w;have e1:l.toNat=0:=oO;have e2:h.toNat=0:=oO;refine⟨_,by simp only[execOp,ho,hev,oB,bN,hrun,bG,dE];rfl,?_⟩;rw[e1,e2];exact .sl0 ha hρ
 |sl ha hρ hsh hm hn hc hoff=>
  rw[hb]at hρ;cases hρ;rename_i ty m cap off;have hrun:=pX ht (lo.map a.eval) (hi.map a.eval) (aA ⟨b,off,aC⟩) n cap l h el eh h0 h1 h2 hn w;refine⟨_,by simp only[execOp,ho,hev,oB,bN,hrun,bG,dE];rfl,?_⟩;have hm':(r+l.toNat+(cap-l.toNat))*B.sz<=m:=by have:r+l.toNat+(cap-l.toNat)=r+cap:=oO;rw[this];exact hm
  by_cases hcl:cap=l.toNat;.rw[iP hcl];exact .sl ha hb hsh hm' oO oO (.inl oO)
  rw[iN hcl,bU,Addr.add_mid];refine .sl ha hb hsh hm' oO oO (.inr ?_);rcases hoff with h4|h4;.omega
  rw[h4,<-hs,cQ]
def dY(get:Nat->Option Blk):AVal->Bool
 | .ptr id _ _=>(get id).isSome
 | .rp _=>aB
 | .sl id _ n=>(get id).isSome&&decide (0<n)
 | .rd _ n _=>decide (0<n)
 | .fn _ _=>aB
 | .nn=>aB
 |_=>aE
def pD:AVal->Bool
 | .lit (.pointer aC)=>aB
 | .lit (.slice aC _ _)=>aB
 | .lit .nilFunc=>aB
 | .lit .nilIface=>aB
 |_=>aE
def xK(P:Program)(t:TypeId):Option Nat:=
 match P.underlying t with
 |some (.pointer _)=>aA 0
 |some (.slice _)=>aA 1
 |some (.func ..)=>aA 2
 |some (.interface _)=>aA 4
 |_=>aC
def fB:AVal->Nat
 | .ptr .. =>0
 | .rp _=>0
 | .lit (.pointer _)=>0
 | .sl .. =>1
 | .rd .. =>1
 | .lit (.slice ..)=>1
 | .fn .. =>2
 | .lit .nilFunc=>2
 | .nn=>4
 | .lit .nilIface=>4
 |_=>3
def EG:AVal->List Nat
 | .ptr id _ _=>[id]
 | .sl id _ _=>[id]
 |_=>[]
theorem aBS{t e:Nat}(he:P.underlying t=aA (.pointer e))(d:Nat)(p:Addr)(w:World):(Op.equalIn (d+1) t (.pointer (aA p)) (.pointer aC)).run P w= .ok aE w/\(Op.equalIn (d+1) t (.pointer aC) (.pointer (aA p))).run P w= .ok aE w:=by constructor<;>simp[Op.equalIn,run_underlying he]
theorem XD{t e:Nat}(he:P.underlying t=aA (.pointer e))(d:Nat)(w:World):(Op.equalIn (d+1) t (.pointer aC) (.pointer aC)).run P w= .ok aB w:=by simp[Op.equalIn,run_underlying he]
theorem aBR{t e:Nat}(he:P.underlying t=aA (.slice e))(d:Nat)(m c m' c':Nat)(w:World):(Op.equalIn (d+1) t (.slice aC m c) (.slice aC m' c')).run P w= .ok aB w:=by simp[Op.equalIn,run_underlying he]
theorem aGK{t e:Nat}(he:P.underlying t=aA (.slice e))(d:Nat)(p:Addr)(m c m' c':Nat)(w:World):(Op.equalIn (d+1) t (.slice (aA p) m c) (.slice aC m' c')).run P w= .ok aE w/\(Op.equalIn (d+1) t (.slice aC m' c') (.slice (aA p) m c)).run P w= .ok aE w:=by constructor<;>simp[Op.equalIn,run_underlying he]
theorem aGM{t:Nat}{ps rs:Array TypeId}{vr:Bool}(he:P.underlying t=aA (.func ps rs vr))(d:Nat)(fn:Fn)(fi cc:Array Value)(w:World):(Op.equalIn (d+1) t (.func fn fi cc) .nilFunc).run P w= .ok aE w/\(Op.equalIn (d+1) t .nilFunc (.func fn fi cc)).run P w= .ok aE w:=by constructor<;>simp[Op.equalIn,run_underlying he]
theorem aGL{t:Nat}{ms:Array (String×TypeId)}(he:P.underlying t=aA (.interface ms))(d:Nat)(tt:TypeId)(v:Value)(w:World):(Op.equalIn (d+1) t (.iface tt v) .nilIface).run P w= .ok aE w/\(Op.equalIn (d+1) t .nilIface (.iface tt v)).run P w= .ok aE w:=by constructor<;>simp[Op.equalIn,run_underlying he]
theorem iB{t:Nat}{x y:Value}(h1:¬(x= .nilIface/\y= .nilIface))(h2:∀a b,¬(x= .agg a/\y= .agg b))(op:BinOp)(p q:Operand)(w:World):(eqGuard op t p q x y).run P w= .ok () w:=by unfold eqGuard;cases op<;>first|rfl|(cases x<;>cases y<;>first|rfl|exact absurd ⟨rfl,rfl⟩ h1|exact absurd ⟨rfl,rfl⟩ (h2 _ _))
def aDI(P:Program)(w:World)(t:TypeId)(cv cz:Value):Prop:=
 (∀op x y,(eqGuard op t x y cv cz).run P w= .ok () w)/\(∀op x y,(eqGuard op t x y cz cv).run P w= .ok () w)∧
   (binOp .eql t cv cz).run P w= .ok (.bool aE) w/\(binOp .neq t cv cz).run P w= .ok (.bool aB) w/\(binOp .eql t cz cv).run P w= .ok (.bool aE) w/\(binOp .neq t cz cv).run P w= .ok (.bool aB) w
theorem zE{t:Nat}{x y:Value}{w:World}{b:Bool}(hp:(∀k n,x≠ .int k n)/\(∀k n,y≠ .int k n)/\(∀s,x≠ .string s)/\(∀k n,x≠ .float k n)/\(∀k n m,x≠ .complex k n m))(h:(Op.equal t x y).run P w= .ok b w):
 (binOp .eql t x y).run P w= .ok (.bool b) w/\(binOp .neq t x y).run P w= .ok (.bool (!b)) w:=by
 obtain⟨h1,h2,h3,h4,h5⟩:=hp;constructor;.cases x<;>first|exact absurd rfl (h1 _ _)|exact absurd rfl (h3 _)|exact absurd rfl (h4 _ _)|exact absurd rfl (h5 _ _ _)|simp[binOp,h]
 cases x<;>first|exact absurd rfl (h1 _ _)|exact absurd rfl (h3 _)|exact absurd rfl (h4 _ _)|exact absurd rfl (h5 _ _ _)|simp[binOp,h]
theorem TD{t e:Nat}(he:P.underlying t=aA (.pointer e))(p:Addr)(w:World):aDI P w t (.pointer (aA p)) (.pointer aC):=by have h:=aBS he 9999 p w;have e1:=zE (P:=P) (x:= .pointer (aA p)) (y:= .pointer aC) (w:=w) (t:=t) (by simp) h.1;have e2:=zE (P:=P) (x:= .pointer aC) (y:= .pointer (aA p)) (w:=w) (t:=t) (by simp) h.2;exact⟨λ op x y=>iB (by simp) (by simp) op x y w,λ op x y=>iB (by simp) (by simp) op x y w,e1.1,e1.2,e2.1,e2.2⟩
theorem GE{t e:Nat}(he:P.underlying t=aA (.slice e))(p:Addr)(m c m' c':Nat)(w:World):aDI P w t (.slice (aA p) m c) (.slice aC m' c'):=by have h:=aGK he 9999 p m c m' c' w;have e1:=zE (P:=P) (x:= .slice (aA p) m c) (y:= .slice aC m' c') (w:=w) (t:=t) (by simp) h.1;have e2:=zE (P:=P) (x:= .slice aC m' c') (y:= .slice (aA p) m c) (w:=w) (t:=t) (by simp) h.2;exact⟨λ op x y=>iB (by simp) (by simp) op x y w,λ op x y=>iB (by simp) (by simp) op x y w,e1.1,e1.2,e2.1,e2.2⟩
theorem aSZ{t:Nat}{ps rs:Array TypeId}{vr:Bool}(he:P.underlying t=aA (.func ps rs vr))(fn:Fn)(fi cc:Array Value)(w:World):aDI P w t (.func fn fi cc) .nilFunc:=by have h:=aGM he 9999 fn fi cc w;have e1:=zE (P:=P) (x:= .func fn fi cc) (y:= .nilFunc) (w:=w) (t:=t) (by simp) h.1;have e2:=zE (P:=P) (x:= .nilFunc) (y:= .func fn fi cc) (w:=w) (t:=t) (by simp) h.2;exact⟨λ op x y=>iB (by simp) (by simp) op x y w,λ op x y=>iB (by simp) (by simp) op x y w,e1.1,e1.2,e2.1,e2.2⟩
theorem aSY{t:Nat}{ms:Array (String×TypeId)}(he:P.underlying t=aA (.interface ms))(tt:TypeId)(v:Value)(w:World):aDI P w t (.iface tt v) .nilIface:=by have h:=aGL he 9999 tt v w;have e1:=zE (P:=P) (x:= .iface tt v) (y:= .nilIface) (w:=w) (t:=t) (by simp) h.1;have e2:=zE (P:=P) (x:= .nilIface) (y:= .iface tt v) (w:=w) (t:=t) (by simp) h.2;exact⟨λ op x y=>iB (by simp) (by simp) op x y w,λ op x y=>iB (by simp) (by simp) op x y w,e1.1,e1.2,e2.1,e2.2⟩
theorem UI{t kd:Nat}(ht:xK P t=aA kd){v z:AVal}{w:World}{G:Nat->Prop}{ρ:cY}{A:bZ}{H:lU}(hr:HRel Γ w G ρ H)(hrd:∀id,id∈EG v->∃B A',get id=aA B/\H id=aA (B,A')/\∀i,A' i->A i)
 {cv cz:Value} (hv:V w G ρ A v cv) (hz:V w G ρ A z cz) (hn:dY get v=aB) (hzz:pD z=aB) (hk1:fB v=kd) (hk2:fB z=kd):aDI P w t cv cz:=by
 have hlit:z= .lit cz:=by
  cases z with
  |lit u=>cases hz;rfl
  |_=>simp[pD]at hzz
 subst hlit;clear hz;have hown:∀id,id∈EG v->ρ id≠aC:=λ id hid hn'=>by obtain⟨B,A',_,hH,_⟩:=hrd id hid;obtain⟨_,b,hb,_⟩:=hr.blk _ B A' hH;rw[hb]at hn';cases hn'
 unfold xK at ht;split at ht
 .rename_i e he;cases ht
  have hcz:cz= .pointer aC:=by
   cases cz with
   |pointer a=>cases a with
    |none=>rfl
    |some=>simp[pD]at hzz
   |slice a m c=>simp[fB]at hk2
   |nilFunc=>simp[fB]at hk2
   |nilIface=>simp[fB]at hk2
   |_=>simp[pD]at hzz
  subst hcz
  cases hv with
  |dang _ hn'=>exact absurd hn' (hown _ (by simp[EG]))
  |ptr=>exact TD he _ w
  |rp=>exact TD he _ w
  |junk=>simp[dY]at hn
  |lit=>simp[dY]at hn
  |agg=>simp[dY]at hn
  |tup=>simp[dY]at hn
  |dangs=>simp[fB]at hk1
  |sl=>simp[fB]at hk1
  |sl0=>simp[fB]at hk1
  |rd0=>simp[fB]at hk1
  |rd=>simp[fB]at hk1
  |fn=>simp[fB]at hk1
  |nn=>simp[fB]at hk1
  |dangc=>simp[dY]at hn
  |slc=>simp[dY]at hn
  |bfn=>simp[dY]at hn
  |dangm=>simp[dY]at hn
  |mp=>simp[dY]at hn
  |dangi=>simp[dY]at hn
  |it=>simp[dY]at hn
 .rename_i e he;cases ht
  obtain⟨m,c,hcz⟩:∃m c,cz= .slice aC m c:=by
   cases cz with
   |slice a m c=>cases a with
    |none=>exact⟨m,c,rfl⟩
    |some=>simp[pD]at hzz
   |pointer a=>simp[fB]at hk2
   |nilFunc=>simp[fB]at hk2
   |nilIface=>simp[fB]at hk2
   |_=>simp[pD]at hzz
  subst hcz
  cases hv with
  |dangs _ hn'=>exact absurd hn' (hown _ (by simp[EG]))
  |sl=>exact GE he _ _ _ _ _ w
  |sl0=>simp[dY]at hn
  |rd=>exact GE he _ _ _ _ _ w
  |rd0=>simp[dY]at hn
  |junk=>simp[dY]at hn
  |lit=>simp[dY]at hn
  |agg=>simp[dY]at hn
  |tup=>simp[dY]at hn
  |dang=>simp[fB]at hk1
  |ptr=>simp[fB]at hk1
  |rp=>simp[fB]at hk1
  |fn=>simp[fB]at hk1
  |nn=>simp[fB]at hk1
  |dangc=>simp[dY]at hn
  |slc=>simp[dY]at hn
  |bfn=>simp[dY]at hn
  |dangm=>simp[dY]at hn
  |mp=>simp[dY]at hn
  |dangi=>simp[dY]at hn
  |it=>simp[dY]at hn
 .rename_i ps rs vr he;cases ht
  have hcz:cz= .nilFunc:=by
   cases cz with
   |nilFunc=>rfl
   |pointer a=>simp[fB]at hk2
   |slice a m c=>simp[fB]at hk2
   |nilIface=>simp[fB]at hk2
   |_=>simp[pD]at hzz
  subst hcz
  cases hv with
  |fn=>exact aSZ he _ _ _ w
  |nn=>simp[fB]at hk1
  |dangc=>simp[dY]at hn
  |slc=>simp[dY]at hn
  |bfn=>simp[dY]at hn
  |dangm=>simp[dY]at hn
  |mp=>simp[dY]at hn
  |dangi=>simp[dY]at hn
  |it=>simp[dY]at hn
  |junk=>simp[dY]at hn
  |lit=>simp[dY]at hn
  |agg=>simp[dY]at hn
  |tup=>simp[dY]at hn
  |dang=>simp[fB]at hk1
  |dangs=>simp[fB]at hk1
  |ptr=>simp[fB]at hk1
  |sl=>simp[fB]at hk1
  |sl0=>simp[fB]at hk1
  |rp=>simp[fB]at hk1
  |rd0=>simp[fB]at hk1
  |rd=>simp[fB]at hk1
 .rename_i ms he;cases ht
  have hcz:cz= .nilIface:=by
   cases cz with
   |nilIface=>rfl
   |nilFunc=>simp[fB]at hk2
   |pointer a=>simp[fB]at hk2
   |slice a m c=>simp[fB]at hk2
   |_=>simp[pD]at hzz
  subst hcz
  cases hv with
  |nn=>exact aSY he _ _ w
  |dangc=>simp[dY]at hn
  |slc=>simp[dY]at hn
  |bfn=>simp[dY]at hn
  |dangm=>simp[dY]at hn
  |mp=>simp[dY]at hn
  |dangi=>simp[dY]at hn
  |it=>simp[dY]at hn
  |fn=>simp[fB]at hk1
  |junk=>simp[dY]at hn
  |lit=>simp[dY]at hn
  |agg=>simp[dY]at hn
  |tup=>simp[dY]at hn
  |dang=>simp[fB]at hk1
  |dangs=>simp[fB]at hk1
  |ptr=>simp[fB]at hk1
  |sl=>simp[fB]at hk1
  |sl0=>simp[fB]at hk1
  |rp=>simp[fB]at hk1
  |rd0=>simp[fB]at hk1
  |rd=>simp[fB]at hk1
 cases ht
theorem aBT{t ty kd:Nat}{x y:Operand}{v z:AVal}{neg:Bool}(ho:o.op= .binOp (if neg then .neq else .eql) t x y ty)(ht:xK P t=aA kd)(hxy:(ev x=aA v/\ev y=aA z)\/(ev x=aA z/\ev y=aA v))
 (hn:dY get v=aB) (hzz:pD z=aB) (hk1:fB v=kd) (hk2:fB z=kd):OpOk P Γ o ev get k ⟨.lit (.bool neg),k,[],EG v⟩:=by
 refine cF λ w G ρ H A a hr hrd hop=>⟨.bool neg,?_,.lit⟩;have hmx:x∈o.op.operands:=by cases neg<;>simp[ho,Op.operands]
 have hmy:y∈o.op.operands:=by cases neg<;>simp[ho,Op.operands]
 rcases hxy with⟨hx,hy⟩|⟨hx,hy⟩;.obtain⟨h3,_,h5,h6,_,_⟩:=UI (P:=P) ht hr hrd (hop x hmx v hx) (hop y hmy z hy) hn hzz hk1 hk2;cases neg<;>simp[execOp,ho,h3,h5,h6]
 obtain⟨_,h4,_,_,h7,h8⟩:=UI (P:=P) ht hr hrd (hop y hmy v hy) (hop x hmx z hx) hn hzz hk1 hk2;cases neg<;>simp[execOp,ho,h4,h7,h8]
def EE(P:Program)(t:TypeId):Option Nat:=
 match P.underlying t with
 |some (.int _)=>aA 0
 |some .bool=>aA 1
 |some .string=>aA 2
 |_=>aC
def tD(P:Program)(t:TypeId):Option (List (Nat×Nat)):=
 match P.underlying t with
 |some (.struct fs)=>if P.stoodInHeld t||P.eqGuardType P.depth t||fs.any (·.name== "_")then aC else fs.toList.mapM λ f=>(EE P f.type).map λ g=>(f.offset,g)
 |_=>aC
def KJ:Nat->Value->Value->Option Bool
 |0,.int k a,.int k' b=>if k=k' then aA (a==b)else aC
 |1,.bool a,.bool b=>aA (a==b)
 |2,.string a,.string b=>aA (a==b)
 |_,_,_=>aC
def tQ(xs ys:List Value):List (Nat×Nat)->Option Bool
 |[]=>aA aB
 | (off,g)::r=>match xs[off]?,ys[off]? with
   | some a,aA b=>match KJ g a b,tQ xs ys r with
     |some p,aA q=>aA (p&&q)
     |_,_=>aC
   |_,_=>aC
theorem JH{t g d:Nat}(ht:EE P t=aA g){a b:Value}{p:Bool}(h:KJ g a b=aA p)(w:World):(Op.equalIn (d+1) t a b).run P w= .ok p w:=by
 unfold EE at ht;split at ht;.rename_i kk hu;cases ht;cases a<;>cases b<;>simp[KJ]at h;obtain⟨rfl,rfl⟩:=h;simp[Op.equalIn,run_underlying hu]
 .rename_i hu;cases ht;cases a<;>cases b<;>simp[KJ]at h;subst h;simp[Op.equalIn,run_underlying hu]
 .rename_i hu;cases ht;cases a<;>cases b<;>simp[KJ]at h;subst h;simp[Op.equalIn,run_underlying hu]
 cases ht
theorem FQ{t g:Nat}(ht:EE P t=aA g){cs:Array Value}{off:Nat}{u:Value}(h:cs[off]? =aA u)(w:World):(part t cs off).run P w= .ok u w:=by
 have:∃d,P.underlying t=aA d/\d.isRow=aE:=by
  unfold EE at ht;split at ht;.exact⟨_,‹_›,rfl⟩
  .exact⟨_,‹_›,rfl⟩
  .exact⟨_,‹_›,rfl⟩
  cases ht
 obtain⟨d,hd,hdr⟩:=this;have hagg:(isAgg t).run P w= .ok aE w:=by unfold isAgg;rw[bN,run_underlying hd w];cases d<;>simp_all
 simp[part,hagg,h]
theorem GX{d:Nat}(xs ys:List Value):∀(fs:List Field) (offs:List (Nat×Nat)) (p:Bool),(∀f∈fs,f.name≠ "_")->(fs.mapM λ f=>(EE P f.type).map λ g=>(f.offset,g))=aA offs->tQ xs ys offs=aA p→
 ∀w,(Op.eqFields (d+1) xs.toArray ys.toArray fs).run P w= .ok p w:=by
 intro fs
 induction fs with
 |nil=>intro offs p _ hm he w;simp at hm;subst hm;simp[tQ]at he;subst he;simp[Op.eqFields]
 |cons f fs ih=>
  intro offs p hn hm he w;rw[List.mapM_cons]at hm;simp only[Option.bind_eq_bind,cE,aG]at hm;obtain⟨x,⟨g,hg,rfl⟩,offs',hm',hp⟩:=hm;cases hp;simp only[tQ]at he;split at he
  .rename_i a b ha hb;split at he;.rename_i p1 q1 h1 h2;cases he;have r1:=FQ hg (cs:=xs.toArray) (by rw[cJ];exact ha) w;have r2:=FQ hg (cs:=ys.toArray) (by rw[cJ];exact hb) w;have r3:=JH (d:=d) hg h1 w;have r4:=ih offs' q1 (λ f hf=>hn f (dM _ hf)) hm' h2 w;simp only[Op.eqFields,iP (hn f (by simp)),bN,r1,r2,r3,bG];cases p1<;>simp[r4]
   cases he
  cases he
theorem aVL{t ty:Nat}{x y:Operand}{xc yc:List AVal}{xs ys:List Value}{offs:List (Nat×Nat)}{p neg:Bool}(ho:o.op= .binOp (if neg then .neq else .eql) t x y ty)(ht:tD P t=aA offs)
 (hx:ev x=aA (.agg xc)) (hy:ev y=aA (.agg yc)) (hxs:nE xc=aA xs) (hys:nE yc=aA ys) (he:tQ xs ys offs=aA p):OpOk P Γ o ev get k ⟨.lit (.bool (if neg then !p else p)),k,[],[]⟩:=by
 refine cF λ w G ρ H A a hr hrd hop=>⟨.bool (if neg then !p else p),?_,.lit⟩;have hmx:x∈o.op.operands:=by cases neg<;>simp[ho,Op.operands]
 have hmy:y∈o.op.operands:=by cases neg<;>simp[ho,Op.operands]
 have ex:a.eval x= .agg xs.toArray:=LO (hop x hmx _ hx) (by simp[SK,hxs]);have ey:a.eval y= .agg ys.toArray:=LO (hop y hmy _ hy) (by simp[SK,hys]);unfold tD at ht;split at ht
 .rename_i fs hu;split at ht;.cases ht
  rename_i hc;simp only[bL,not_or,bNZ]at hc;obtain⟨⟨h1,h2⟩,h3⟩:=hc;have hfs:P.fieldsOf t=fs:=by simp[Program.fieldsOf,hu]
  have hnm:∀f∈fs.toList,f.name≠ "_":=λ f hf he=>by have:=Array.any_eq_false'.1 h3 f (by simpa using hf);simp[he]at this
  have hrun:=GX (P:=P) (d:=9998) xs ys fs.toList offs p hnm ht he w;have hstr:=run_equalIn_struct (P:=P) w 9999 t xs.toArray ys.toArray (by rw[hfs];exact hu) h1;rw[hfs,hrun]at hstr;have hg:=λ op=>run_eqGuard_agg (P:=P) w op t x y xs.toArray ys.toArray h2;cases neg;.simp only[execOp,ho,ex,ey,aS,if_false,bN,hg,bG,run_eql_struct,hstr,dE]
  simp only[execOp,ho,ex,ey,if_true,bN,hg,bG,run_neq_struct,hstr,dE]
 cases ht
theorem wO{rows:List (List AVal)}(h:(rows.all λ row=>row.all one)=aB):LS rows:=λ _ _ _ _ h1 h2=>iT (iT h h1) h2
inductive SrcA (get:Nat->Option Blk):AVal->Nat->Nat->List (List AVal)->Bool->List Nat->Prop
 |rd {s m f}:SrcA get (.rd s m f) s m ((aN m).map f) aB []
 |sl {id r m B}:get id=aA B->r+m<=B.rows.length->SrcA get (.sl id r m) B.sz m ((B.rows.drop r).take m) B.pure [id]
 |nil:SrcA get (.lit (.slice aC 0 0)) 0 0 [] aB []
theorem SrcA.src {v:AVal}{s m:Nat}{rows:List (List AVal)}{p:Bool}{ids:List Nat}(h:SrcA get v s m rows p ids){w:World}{G:Nat->Prop}{ρ:cY}{H:lU}{A:bZ}{cv:Value}(hr:HRel Γ w G ρ H)
 (hrd:∀id,id∈ids->∃B A',get id=aA B/\H id=aA (B,A')/\∀i,A' i->A i) (hv:V w G ρ A v cv):Src w G ρ A s m rows p cv:=by
 cases h with
 |nil=>exact⟨rfl,λ r row h=>by simp at h,λ h=>oO⟩
 |rd=>
  rename_i f
  cases hv with
  |rd0=>exact⟨by simp,λ r row h=>by simp at h,λ h=>oO⟩
  |rd g hb hcap hn hl hc hvv=>
   have hget:∀(r:Nat) row,((aN m).map f)[r]? =aA row->r<m/\row=f r:=λ r row h=>by rw[aP]at h;simp only[aG]at h;obtain⟨i,hi,rfl⟩:=h;obtain⟨hlt,he⟩:=aK.1 hi;simp at he hlt;subst he;exact⟨hlt,rfl⟩
   refine⟨by simp,λ r row h=>?_,λ _=>⟨_,_,_,rfl,g,λ r row c v h1 h2=>?_⟩⟩;.obtain⟨h1,rfl⟩:=hget r row h;exact hl r h1
   obtain⟨h3,rfl⟩:=hget r row h1;exact⟨hc r c v h3 h2,by simp only[if_true];exact hvv r c v h3 h2⟩
 |sl hB hle=>
  rename_i id r B;obtain⟨B',A',h1,hH,hAA⟩:=hrd id (by simp);rw[hB]at h1;cases h1;obtain⟨_,b,hb,_,hBR⟩:=hr.blk id B A' hH;have hlen:=hBR.len
  have hget:∀(q:Nat) row,((B.rows.drop r).take m)[q]? =aA row->B.rows[r+q]? =aA row:=λ q row h=>by
   rw[fE]at h;split at h;.rw[dW]at h;exact h
   cases h
  cases hv with
  |dangs _ hn=>rw[hb]at hn;cases hn
  |sl0=>exact⟨by simp,λ q row h=>hlen _ row (hget q row h),λ hm0=>absurd hm0 (qR _)⟩
  |sl ha hρ hsh hm hn hc hoff=>
   rw[hb]at hρ;cases hρ;obtain⟨⟨C,ty,hC,hrows⟩,_⟩:=hBR.old hsh;refine⟨by simp;omega,λ q row h=>hlen _ row (hget q row h),λ hm0=>⟨_,_,_,rfl,λ q c=>C.getD ((r+q)*B.sz+c) undef,λ q row c v h1 h2=>?_⟩⟩;have hoff':=hoff.resolve_left oO;subst hoff';obtain⟨cu,h3,h4⟩:=hrows _ row c v (hget q row h1) h2;have e:C.getD ((r+q)*B.sz+c) undef=cu:=by rw[aI,h3];rfl
   show w.cell? ⟨b,r*B.sz+q*B.sz+c,aC⟩=aA (C.getD ((r+q)*B.sz+c) undef)/\V w G (if B.pure then bS else ρ) (if B.pure then cI else A) v (C.getD ((r+q)*B.sz+c) undef);rw[e];refine⟨?_,?_⟩;.rw[cell_of_row w b _ C ty (0,0) hC,<-h3];congr 1;rw[cQ]
   by_cases hp:B.pure=aB;.simp only[hp,if_true]at h4⊢;exact h4
   simp only[hp]at h4⊢;exact h4.mono (λ _ h=>h) (λ _ _=>rfl) (λ _ _=>rfl) hAA (λ _ _=> .inr rfl)
theorem JY(w:World)(t ty e:TypeId)(i:TypeInfo)(ht:P.underlying t=aA (.slice e))(hi:P.info? e=aA i)(base q:Option Addr)(n cap c:Nat)(h:n<=cap):
 (Builtin.append_ #[t,t] ty #[.slice base n cap,.slice q 0 c]).run P w= .ok (.slice base n cap) w:=by cases base<;>cases q<;>simp[Builtin.append_,run_underlying ht,sizeOf,typeInfo,hi,Builtin.lenOf,h,Builtin.firstCells,loadCells,loadCellsFrom,storeCells]
theorem FF{t s s' by':Nat}{x y:Operand}{u v:AVal}{zrow:List AVal}{rows:List (List AVal)}{p:Bool}{ids idx:List Nat}(ho:o.op= .call {callee:= .builtin .append,args:= #[x,y],argTypes:= #[t,t]})(hz:gV P t=aA (s,by',zrow))
 (hx:ev x=aA u) (hy:ev y=aA v) (hu:(u= .lit (.slice aC 0 0)/\idx=[])\/(∃s1 n f,u= .rd s1 n f/\idx=[])\/(∃id r n,u= .sl id r n/\idx=[id]/\(get id).isSome=aB)) (hs:SrcA get v s' 0 rows p ids):
 OpOk P Γ o ev get k ⟨u,k,[],idx++ids⟩:=by
 refine cF λ w G ρ H A a hr hrd hop=>?_;have hvx:=hop x (by simp[ho,Op.operands,Call.operands]) _ hx;have hvy:=hop y (by simp[ho,Op.operands,Call.operands]) _ hy
 have hxs:∃base n cap,a.eval x= .slice base n cap/\n<=cap:=by
  generalize a.eval x=cv at hvx;rcases hu with⟨rfl,_⟩|⟨s1,n,f,rfl,_⟩|⟨id,r,n,rfl,he,hg⟩;.cases hvx;exact⟨_,_,_,rfl,aF _⟩
  .cases hvx with
   |rd0=>exact⟨_,_,_,rfl,aZ _⟩
   |rd _ _ hcap=>exact⟨_,_,_,rfl,hcap⟩
  obtain⟨B',A',h2,hH,_⟩:=hrd id (by simp[he]);obtain⟨_,b,hb,_⟩:=hr.blk id B' A' hH
  cases hvx with
  |dangs _ hn=>rw[hb]at hn;cases hn
  |sl _ _ _ _ h5=>exact⟨_,_,_,rfl,h5⟩
  |sl0=>exact⟨_,_,_,rfl,aF _⟩
 have hys:∃q c,a.eval y= .slice q 0 c:=by
  generalize a.eval y=cv at hvy
  cases hs with
  |nil=>cases hvy;exact⟨_,_,rfl⟩
  |rd=>cases hvy with
   |rd0=>exact⟨_,_,rfl⟩
   |rd=>exact⟨_,_,rfl⟩
  |sl hB hle=>
   rename_i id r B;obtain⟨B',A',h2,hH,_⟩:=hrd id (by simp);obtain⟨_,b,hb,_⟩:=hr.blk id B' A' hH
   cases hvy with
   |dangs _ hn=>rw[hb]at hn;cases hn
   |sl=>exact⟨_,_,rfl⟩
   |sl0=>exact⟨_,_,rfl⟩
 obtain⟨base,n,cap,ex,hcap⟩:=hxs;obtain⟨q,c,ey⟩:=hys;unfold gV at hz;split at hz
 .rename_i e he;split at hz;.rename_i i hi;rw[ex]at hvx;refine⟨.slice base n cap,?_,hvx⟩;have:=JY (P:=P) w t o.type e i he hi base q n cap c hcap;simp only[execOp,ho,resolve,invoke,builtin,yH,bI,bQ,ex,ey,bN,dE,bG,this]
  cases hz
 cases hz
theorem RO{t s by' m:Nat}{x y:Operand}{v:AVal}{zrow:List AVal}{rows:List (List AVal)}{p:Bool}{ids:List Nat}(ho:o.op= .call {callee:= .builtin .append,args:= #[x,y],argTypes:= #[t,t]})(hz:gV P t=aA (s,by',zrow))
 (hx:ev x=aA (.lit (.slice aC 0 0))) (hy:ev y=aA v) (hs:SrcA get v s m rows p ids) (hm:0<m) (hlen:m<=9223372036854775807) (hby:m*by'<=140737488355328) (hone:(rows.all λ row=>row.all one)=aB):
 OpOk P Γ o ev get k ⟨.sl k 0 m,k+1,[(k,aA ⟨s,p,rows⟩)],ids⟩:=by
 have:=KQ (P:=P) (Γ:=Γ) (o:=o) (ev:=ev) (get:=get) (k:=k) (n:=0) (olds:=[]) (pd:=aB) (idd:=aC) (rds:=ids) ho hz hm oO (by rw[fH];exact hby) (wO hone) (λ id h=>by cases h)
  (λ w G ρ H A a hr hrd hop=> .inl ⟨rfl,rfl,rfl,gO (hop x (by simp[ho,Op.operands,Call.operands]) _ hx)⟩) (λ w G ρ H A a hr hrd hop=>hs.src hr hrd (hop y (by simp[ho,Op.operands,Call.operands]) _ hy))
 simpa using this
theorem XW{t s by' m n id:Nat}{x y:Operand}{v:AVal}{B:Blk}{zrow:List AVal}{rows:List (List AVal)}{p:Bool}{ids:List Nat}(ho:o.op= .call {callee:= .builtin .append,args:= #[x,y],argTypes:= #[t,t]})(hz:gV P t=aA (s,by',zrow))
 (hx:ev x=aA (.sl id 0 n)) (hB:get id=aA B) (hBs:B.sz=s) (hBn:B.rows.length=n) (hk:id<k) (hy:ev y=aA v) (hs:SrcA get v s m rows p ids) (hm:0<m) (hlen:n+m<=9223372036854775807) (hby:(n+m)*by'<=140737488355328) (hone:(rows.all λ row=>row.all one)=aB):
 OpOk P Γ o ev get k ⟨.sl k 0 (n+m),k+1,[(k,aA ⟨s,B.pure&&p,B.rows++rows⟩),(id,aC)],id::ids⟩:=by
 have:=KQ (P:=P) (Γ:=Γ) (o:=o) (ev:=ev) (get:=get) (k:=k) (n:=n) (olds:=B.rows) (pd:=B.pure) (idd:=aA id) (rds:=id::ids) ho hz hm hlen hby (wO hone) (λ id' h=>by cases h;exact hk)
  (λ w G ρ H A a hr hrd hop=>by obtain⟨B',A',h1,h2,h3⟩:=hrd id (by simp);rw[hB]at h1;cases h1;exact .inr ⟨id,B,A',rfl,h2,h3,hBs,rfl,rfl,hBn,hop x (by simp[ho,Op.operands,Call.operands]) _ hx⟩)
  (λ w G ρ H A a hr hrd hop=>hs.src hr (λ i hi=>hrd i (dM _ hi)) (hop y (by simp[ho,Op.operands,Call.operands]) _ hy))
 simpa using this
end
def VLe(v v':AVal):Prop:=∀w G ρ A cv,V w G ρ A v cv->V w G ρ A v' cv
theorem bJ (v:AVal):VLe v v:=λ _ _ _ _ _ h=>h
theorem VLe.rd {sz n:Nat}{f g:Nat->List AVal}(h:∀i,i<n->f i=g i):VLe (.rd sz n f) (.rd sz n g):=λ w G ρ A cv hv=>by
 cases hv with
 |rd0=>exact .rd0
 |rd gg hb hcap hn hl hc hvv=>exact .rd gg hb hcap hn (λ i hi=>by rw[<-h i hi];exact hl i hi) (λ i j v hi hj=>hc i j v hi (by rw[h i hi];exact hj)) (λ i j v hi hj=>hvv i j v hi (by rw[h i hi];exact hj))
theorem VLe.agg {cs ds:List AVal}(hl:cs.length=ds.length)(h:∀(j:Nat) u v,cs[j]? =aA u->ds[j]? =aA v->VLe u v):VLe (.agg cs) (.agg ds):=λ w G ρ A cv hv=>by
 cases hv with
 |agg h1 h2=>refine .agg oO λ j v hj=>?_;have hlt:=(aK.1 hj).1;have hu:cs[j]? =aA cs[j]:=aJ oO;exact h j _ v hu hj _ _ _ _ _ (h2 j _ hu)
structure BLe (B B':Blk):Prop where
 sz:B'.sz=B.sz
 rows:∀(r:Nat) row',B'.rows[r]? =aA row'->∃row,B.rows[r]? =aA row/\row.length=row'.length/\∀(c:Nat) u v,row[c]? =aA u->row'[c]? =aA v->VLe u v
 pure:B'.pure=aB->B.pure=aB\/(B'.rows.all λ row=>row.all clean)=aB
theorem pG (B:Blk):BLe B B:=⟨rfl,λ r row h=>⟨row,h,rfl,λ c u v h1 h2=>by rw[h1]at h2;cases h2;exact bJ _⟩,λ h=> .inl h⟩
section
variable{P:Program}{Γ:dL}{nt kb:Nat}{Q Q':AQ}{k:Nat}{fr:Fr}{H:aO}
structure WkG (kb k:Nat) (fr:Fr) (H:aO) (k1:Nat) (fr1:Fr) (H1:aO):Prop where
 base:kb<=k1
 frm:∀t v,look fr1 t=aA v->∃u,look fr t=aA u/\VLe u v
 heap:∀id B,look H1 id=aA B->∃C,look H id=aA C/\BLe C B
 bound:k1=k\/(bdF (jS k1) fr1=aB/\oM (jS k1) H1=aB)
theorem BRel.le {w:World}{G:Nat->Prop}{ρ:cY}{A:bZ}{B B':Blk}{b:Nat}(h:BRel w G ρ A B b)(hl:BLe B B'):BRel w G ρ A B' b:=by
 obtain⟨⟨C,ty,hC,hrows⟩,hlen⟩:=h;refine⟨⟨C,ty,hC,λ r row' c v h1 h2=>?_⟩,λ r row' h1=>?_⟩
 .obtain⟨row,h3,h4,h5⟩:=hl.rows r row' h1;have hlt:=(aK.1 h2).1;have hu:row[c]? =aA row[c]:=aJ oO;obtain⟨cv,h6,h7⟩:=hrows r row c _ h3 hu;refine⟨cv,by rw[hl.sz];exact h6,?_⟩;have h8:=h5 c _ v hu h2 _ _ _ _ _ h7;by_cases hp':B'.pure=aB
  .simp only[hp',if_true];rcases hl.pure hp' with hp|hp;.simp only[hp,if_true]at h8;exact h8
   exact HH h8 (iT (iT hp h1) h2)
  simp only[hp'];by_cases hp:B.pure=aB;.simp only[hp,if_true]at h8;exact h8.weaken
  simp only[hp]at h8;exact h8
 obtain⟨row,h3,h4,_⟩:=hl.rows r row' h1;rw[hl.sz,<-h4];exact hlen r row h3
theorem WkG.inv {A0:bZ}{w:World}{G:Nat->Prop}{ρ:cY}{a:Act}{k1:Nat}{fr1:Fr}{H1:aO}(hw:WkG kb k fr H k1 fr1 H1)(hi:Inv Γ nt w G ρ (kS A0 kb k) a fr H):
 ∃ρ',Inv Γ nt w G ρ' (kS A0 kb k1) a fr1 H1/\∀A,Step A w G ρ w G ρ':=by
 let ρ':cY:=λ id=>match look H1 id with|some _=>ρ id|none=>aC
 have hρ:∀id,ρ' id=aC\/ρ' id=ρ id:=λ id=>by
  simp only[ρ'];split;.exact .inr rfl
  exact .inl rfl
 have hsome:∀id x,ρ' id=aA x->ρ id=aA x/\∃B,look H1 id=aA B:=λ id x h=>by
  simp only[ρ']at h;split at h;.rename_i B hB;exact⟨h,B,hB⟩
  cases h
 have hV:∀v cv,V w G ρ (kS A0 kb k) v cv->V w G ρ' (kS A0 kb k) v cv:=λ v cv h=>
  h.mono (λ _ h=>h) (λ _ _=>rfl) (λ _ _=>rfl) (λ _ h=>h) (λ id _=>hρ id)
 have hlow:∀i,kS A0 kb k i->i<k1->kS A0 kb k1 i:=λ i h1 h2=>by
  rcases h1 with h1|h1;.exact .inl h1
  exact .inr ⟨h1.1,h2⟩
 have hVl:∀v cv,V w G ρ' (λ i=>kS A0 kb k i/\jS k1 i=aB) v cv->V w G ρ' (kS A0 kb k1) v cv:=λ v cv h=>
  h.mono (λ _ h=>h) (λ _ _=>rfl) (λ _ _=>rfl) (λ i h=>hlow i h.1 (of_decide_eq_true h.2)) (λ _ _=> .inr rfl)
 refine⟨ρ',⟨⟨?_,?_,?_,hi.rel.ro,hi.rel.glob⟩,hi.size,hi.defers,?_⟩,λ A=>⟨aF _,λ _ _ _=>rfl,λ _ _=>rfl,λ _ h=>h,λ _ h=> .inl h,?_,λ id _=>hρ id,rfl,rfl,rfl⟩⟩;.intro id h;simp only[bK,dO]at h;simp only[ρ',h]
 .intro id B A h;simp only[bK,aG]at h;obtain⟨B',hB,he⟩:=h;cases he;obtain⟨C0,hl,hle⟩:=hw.heap id B hB;obtain⟨hlt,b,hb,hg,hBR0⟩:=hi.rel.blk id C0 (kS A0 kb k) (by simp[bK,hl]);have hBR:=hBR0.le hle;refine⟨?_,b,by simp only[ρ',hB,hb,hle.sz],hg,?_⟩
  .rcases hw.bound with rfl|⟨_,hh⟩;.exact hlt
   have:=BT hh hB;simp only[aH]at this;exact hlow _ hlt (of_decide_eq_true this.1)
  obtain⟨⟨C,ty,hC,hrows⟩,hlen⟩:=hBR;refine⟨⟨C,ty,hC,λ r row c v hr hc=>?_⟩,hlen⟩;obtain⟨cv,h1,h2⟩:=hrows r row c v hr hc;refine⟨cv,h1,?_⟩;by_cases hp:B.pure=aB;.simp only[hp,if_true]at h2⊢;exact h2
  simp only[hp]at h2⊢
  have h3:=hV v cv h2;rcases hw.bound with rfl|⟨_,hh⟩;.exact h3
  have:=BT hh hB;simp only[aH,bL]at this;have h5:=this.2.resolve_left hp;have h4:=iT (iT h5 hr) hc;exact hVl _ _ (aDE h3 h4)
 .intro i j b s t h1 h2;exact hi.rel.inj i j b s t (hsome _ _ h1).1 (hsome _ _ h2).1
 .intro t v h;obtain⟨u,hu,hle⟩:=hw.frm t v h;have h1:=hV _ _ (hle _ _ _ _ _ (hi.frm t u hu));rcases hw.bound with rfl|⟨hf,_⟩;.exact h1
  exact hVl _ _ (aDF h1 (BT hf h))
 rintro b ⟨id,s,hb⟩;exact .inl ⟨id,s,(hsome _ _ hb).1⟩
def upG(kb:Nat)(Q:AQ):AQ:=λ e k fr H=>∃k1 fr1 H1,WkG kb k fr H k1 fr1 H1/\Q e k1 fr1 H1
theorem a6G{c:Code}(h:W P Γ nt kb c (upG kb Q) k fr H):W P Γ nt kb c Q k fr H:=λ A0 hA0 hk w G ρ a hi=>
 wp_mono (h A0 hA0 hk w G ρ a hi) λ e a' w' hp=>by obtain⟨G',ρ',k',fr',H',⟨k1,fr1,H1,hw,hQ⟩,hk',hi',hst⟩:=hp;obtain⟨ρ1,hi1,hs1⟩:=hw.inv hi';exact⟨G',ρ1,k1,fr1,H1,hQ,hw.base,hi1,hst.trans (hs1 (lC kb)) (λ _ h=>h)⟩
def kH(id:Nat)(B:Blk):AVal->AVal
 | .sl i r n=>if i=id/\r+n<=B.rows.length then .rd B.sz n (λ j=>B.rows.getD (r+j) [])else .sl i r n
 | .ptr i r c=>if i=id/\r<B.rows.length then .rp ((B.rows.getD r []).drop c)else .ptr i r c
 |v=>v
def frz(id:Nat)(B:Blk):AVal->AVal
 | .agg cs=> .agg (cs.map (kH id B))
 | .fn f cs=> .fn f (cs.map (kH id B))
 |v=>kH id B v
def pS(id:Nat)(B:Blk)(fr:Fr):Fr:=fr.map λ x=>(x.1,frz id B x.2)
def LG(id:Nat)(B:Blk)(C:Blk):Blk:=if C.pure then C else⟨C.sz,aE,C.rows.map λ row=>row.map (kH id B)⟩
def yZ(id:Nat)(B:Blk)(H:aO):aO:=(del H id).map λ x=>(x.1,LG id B x.2)
theorem lQ{α β:Type}(f:α->β):∀(l:List (Nat×α)) (i:Nat),look (l.map λ x=>(x.1,f x.2)) i=(look l i).map f
 |[],i=>rfl
 |(a,x)::r,i=>by
  simp only[bI,look];by_cases h:a=i;.rw[iP h,iP h];rfl
  rw[iN h,iN h];exact lQ f r i
theorem WW{w:World}{G G':Nat->Prop}{ρ:cY}{A A':bZ}{id b:Nat}{B:Blk}(hG:∀x,G x->G' x)(hGb:G' b)(hρ:ρ id=aA (b,B.sz))(hB:BRel w G ρ A B b)(hp:B.pure=aB){v:AVal}{cv:Value}(hv:V w G ρ A' v cv):
 V w G' (fF ρ id aC) A' (kH id B v) cv:=by
 have base:∀u cu,V w G ρ A' u cu->V w G' (fF ρ id aC) A' u cu:=λ u cu h=>
  h.mono hG (λ _ _=>rfl) (λ _ _=>rfl) (λ _ h=>h) (λ i _=>by
   simp only[fF];split;.exact .inl rfl
   exact .inr rfl)
 cases hv with
 |nn=>simp only[kH];exact .nn
 |dangc ha hr=>exact base _ _ (.dangc ha hr)
 |slc h1 h2 h3 h4 h5 h6 h7=>exact base _ _ (.slc h1 h2 h3 h4 h5 h6 h7)
 |bfn h=>exact base _ _ (.bfn h)
 |sl ha hr hsh hm hn hc hoff=>
  rename_i i r n b' s ty m cap off;simp only[kH];split
  .rename_i hcond;obtain⟨rfl,hle⟩:=hcond;rw[hρ]at hr;cases hr;by_cases hn0:n=0;.subst hn0;exact .rd0
   have hoff':=hoff.resolve_left oO;subst hoff';obtain⟨⟨C,ty',hC,hrows⟩,hlen⟩:=hB.old hsh;have hrow:∀j,j<n->B.rows[r+j]? =aA (B.rows.getD (r+j) []):=λ j hj=>by rw[aR,aJ oO];rfl
   refine .rd (λ j c=>C.getD ((r+j)*B.sz+c) undef) hGb hn oO (λ j hj=>hlen _ _ (hrow j hj)) (λ j c v hj hc'=>?_) (λ j c v hj hc'=>?_)
   .obtain⟨cu,h1,_⟩:=hrows _ _ c v (hrow j hj) hc';rw[cell_of_row w b _ C ty' (0,0) hC];have e:r*B.sz+j*B.sz+c=(r+j)*B.sz+c:=by rw[cQ]
    rw[e,h1,aI,h1];rfl
   obtain⟨cu,h1,h2⟩:=hrows _ _ c v (hrow j hj) hc';simp only[hp,if_true]at h2;have e:C.getD ((r+j)*B.sz+c) undef=cu:=by rw[aI,h1];rfl
   rw[e];exact h2.mono hG (λ _ _=>rfl) (λ _ _=>rfl) (λ _ h=>h) (λ _ h=>h.elim)
  exact base _ _ (.sl ha hr hsh hm hn hc hoff)
 |sl0 ha hr=>
  simp only[kH];split;.exact .rd0
  exact base _ _ (.sl0 ha hr)
 |dangs ha hr=>
  rename_i i r n x m c;simp only[kH];split;.rename_i hcond;obtain⟨rfl,_⟩:=hcond;rw[hρ]at hr;cases hr
  exact base _ _ (.dangs ha hr)
 |junk=>exact base _ _ .junk
 |lit=>exact base _ _ .lit
 |dang ha hr=>
  rename_i i r c x;simp only[kH];split;.rename_i hcond;obtain⟨rfl,_⟩:=hcond;rw[hρ]at hr;cases hr
  exact base _ _ (.dang ha hr)
 |dangm ha hr=>exact base _ _ (.dangm ha hr)
 |mp ha hr hs=>exact base _ _ (.mp ha hr hs)
 |dangi ha hr=>exact base _ _ (.dangi ha hr)
 |it ha hr hs=>exact base _ _ (.it ha hr hs)
 |ptr ha hr hsh=>
  rename_i i r c b' s _ _;simp only[kH];split
  .rename_i hcond;obtain⟨rfl,hlt⟩:=hcond;rw[hρ]at hr;cases hr;obtain⟨⟨C,ty',hC,hrows⟩,hlen⟩:=hB.old hsh;have hrow:B.rows[r]? =aA (B.rows.getD r []):=by rw[aR,aJ hlt];rfl
   refine .rp (λ j=>C.getD (r*B.sz+(c+j)) undef) hGb (λ j v hj=>?_) (λ j v hj=>?_);.rw[dW]at hj;obtain⟨cu,h1,_⟩:=hrows _ _ _ v hrow hj;rw[cell_of_row w b _ C ty' (0,0) hC,gD,h1,aI,h1];rfl
   rw[dW]at hj;obtain⟨cu,h1,h2⟩:=hrows _ _ _ v hrow hj;simp only[hp,if_true]at h2;have e:C.getD (r*B.sz+(c+j)) undef=cu:=by rw[aI,h1];rfl
   rw[e];exact h2.mono hG (λ _ _=>rfl) (λ _ _=>rfl) (λ _ h=>h) (λ _ h=>h.elim)
  exact base _ _ (.ptr ha hr hsh)
 |rp g h1 h2 h3=>exact base _ _ (.rp g h1 h2 h3)
 |rd0=>exact base _ _ .rd0
 |rd g h1 h2 h3 h4 h5 h6=>exact base _ _ (.rd g h1 h2 h3 h4 h5 h6)
 |agg h1 h2=>exact base _ _ (.agg h1 h2)
 |tup h1 h2=>exact base _ _ (.tup h1 h2)
 |fn h1 h2=>exact base _ _ (.fn h1 h2)
theorem bCZ{w:World}{G G':Nat->Prop}{ρ:cY}{A A':bZ}{id b:Nat}{B:Blk}(hG:∀x,G x->G' x)(hGb:G' b)(hρ:ρ id=aA (b,B.sz))(hB:BRel w G ρ A B b)(hp:B.pure=aB){v:AVal}{cv:Value}(hv:V w G ρ A' v cv):
 V w G' (fF ρ id aC) A' (frz id B v) cv:=by
 cases v with
 |agg cells=>
  cases hv with
  |agg h1 h2=>refine .agg (by simpa using h1) λ j u hj=>?_;rw[aP]at hj;simp only[aG]at hj;obtain⟨u',hu',rfl⟩:=hj;exact WW hG hGb hρ hB hp (h2 j u' hu')
 |fn f cells=>
  cases hv with
  |fn h1 h2=>refine .fn (by simpa using h1) λ j u hj=>?_;rw[aP]at hj;simp only[aG]at hj;obtain⟨u',hu',rfl⟩:=hj;exact WW hG hGb hρ hB hp (h2 j u' hu')
 |_=>exact WW hG hGb hρ hB hp hv
theorem aFT{A:bZ}{w:World}{G:Nat->Prop}{ρ:cY}{a:Act}{id:Nat}{B:Blk}(hB:look H id=aA B)(hp:B.pure=aB)(hi:Inv Γ nt w G ρ A a fr H):
 ∃G' ρ',Inv Γ nt w G' ρ' A a (pS id B fr) (yZ id B H)/\∀S,Step S w G ρ w G' ρ':=by
 obtain⟨hA,b,hb,hg,hBR⟩:=hi.rel.blk id B A (by simp[bK,hB]);let G':Nat->Prop:=λ x=>G x\/x=b
 have hst:∀S:bZ,Step S w G ρ w G' (fF ρ id aC):=λ S=>by
  refine⟨aF _,λ _ _ _=>rfl,λ _ _=>rfl,λ _ h=> .inl h,λ x h=>?_,?_,λ i _=>?_,rfl,rfl,rfl⟩
  .rcases h with h|h;.exact .inl h
   exact .inr (.inl (h▸⟨id,_,hb⟩))
  .rintro x ⟨i,s,hx⟩;simp only[fF]at hx;split at hx;.cases hx
   exact .inl ⟨i,s,hx⟩
  simp only[fF];split;.exact .inl rfl
  exact .inr rfl
 have hV:∀A' v cv,V w G ρ A' v cv->V w G' (fF ρ id aC) A' (frz id B v) cv:=λ A' v cv h=>bCZ (λ _ h=> .inl h) (.inr rfl) hb hBR hp h;have hV0:∀A' v cv,V w G ρ A' v cv->V w G' (fF ρ id aC) A' (kH id B v) cv:=λ A' v cv h=>WW (λ _ h=> .inl h) (.inr rfl) hb hBR hp h;refine⟨G',fF ρ id aC,⟨?_,hi.size,hi.defers,λ t v hv=>?_⟩,hst⟩
 .refine hi.rel.after (hst (λ _=>True)) _ (λ i hi'=>?_) (λ i C A1 hi'=>?_) (λ i j c s t h1 h2=>?_) (λ x hx=>?_)
  .simp only[bK,dO,yZ]at hi';rw[lQ,dO,gU]at hi';simp only[fF];split at hi';.rename_i he;rw[iP he]
   rename_i he;rw[iN he];exact hi.rel.dom i (by simp[bK,hi'])
  .simp only[bK,aG,yZ]at hi';obtain⟨C',hC',he⟩:=hi';cases he;rw[lQ,aG]at hC';obtain⟨D,hD,rfl⟩:=hC';rw[gU]at hD;split at hD;.cases hD
   rename_i hne;obtain⟨h1,b',h2,h3,h4⟩:=hi.rel.blk i D A (by simp[bK,hD]);have hbne:b'≠b:=λ he=>hne (hi.rel.inj i id _ _ _ h2 (he▸hb));have hg':¬G' b':=λ h=>h.elim h3 hbne;have hsz:(LG id B D).sz=D.sz:=by unfold LG;split<;>rfl
   refine⟨h1,.inr ⟨b',by simp only[fF,hne,if_false,h2,hsz],hg',?_⟩⟩;unfold LG;split;.rename_i hpd;exact h4.step hi.rel (hst (λ _=>True)) (λ _ _=>trivial) (λ _ h=>h) rfl
   rename_i hpd;obtain⟨⟨C,ty,hC,hrows⟩,hlen⟩:=h4;have hgr:∀(r:Nat) row,(D.rows.map λ row=>row.map (kH id B))[r]? =aA row->∃row0,D.rows[r]? =aA row0/\row=row0.map (kH id B):=λ r row h=>by rw[aP]at h;simp only[aG]at h;obtain⟨row0,h5,rfl⟩:=h;exact⟨row0,h5,rfl⟩
   refine⟨⟨C,ty,hC,λ r row c v h5 h6=>?_⟩,λ r row h5=>?_⟩;.obtain⟨row0,h7,rfl⟩:=hgr r row h5;rw[aP]at h6;simp only[aG]at h6;obtain⟨v0,h8,rfl⟩:=h6;obtain⟨cv,h9,h10⟩:=hrows r row0 c v0 h7 h8;simp only[hpd]at h10;exact⟨cv,h9,by simp only[aS,if_false];exact hV0 _ _ _ h10⟩
   obtain⟨row0,h7,rfl⟩:=hgr r row h5;simpa using hlen r row0 h7
  .simp only[fF]at h1 h2;split at h1;.cases h1
   split at h2;.cases h2
   exact hi.rel.inj i j c s t h1 h2
  rcases hx with hx|rfl;.exact hi.rel.ro x hx
  exact hi.rel.owned_lt ⟨id,_,hb⟩
 unfold pS at hv;rw[lQ,aG]at hv;obtain⟨u,hu,rfl⟩:=hv;exact hV _ _ _ (hi.frm t u hu)
theorem Tr.weaken {f:FuncId}{args:List AVal}{H:aO}{Q Q':Nat->AVal->aO->Prop}(h:Tr P Γ f k args H Q')
 (hq:∀k' r H',k<=k'->Q' k' r H'->∃k1 r1 H1,k<=k1/\VLe r r1/\(∀id B,look H1 id=aA B->∃C,look H' id=aA C/\BLe C B)/\(k1=k'\/(bd (jS k1) r1=aB/\oM (jS k1) H1=aB))/\Q k1 r1 H1):Tr P Γ f k args H Q:=by
 intro A hA w G ρ cargs h1 h2;refine(h A hA w G ρ cargs h1 h2).mono ?_;rintro e w' ⟨cv,G',ρ',k',r,H',rfl,hQ,hk,hrel,hv,hst⟩;obtain⟨k1,r1,H1,hk1,hle,hH,hb,hQ1⟩:=hq k' r H' hk hQ
 have hi:Inv Γ 1 w' G' ρ' (kS A k k') {tmps:= #[cv],defers:=[]} [(0,r)] H':=⟨hrel,rfl,rfl,λ t v hv'=>by
  simp only[look]at hv';split at hv';.rename_i he;subst he;cases hv';exact hv
  cases hv'⟩
 have hw:WkG k k' [(0,r)] H' k1 [(0,r1)] H1:=⟨hk1,λ t v hv'=>by
  simp only[look]at hv'⊢
  split at hv';.rename_i he;cases hv';exact⟨r,by rw[iP he],hle⟩
  exact absurd hv' (by simp),hH,hb.imp id (λ h=>⟨by simp[bdF,h.1],h.2⟩)⟩
 obtain⟨ρ1,hi1,hs1⟩:=hw.inv hi;exact⟨cv,G',ρ1,k1,r1,H1,rfl,hQ1,hk1,hi1.rel,hi1.frm 0 r1 (by simp[look]),hst.trans (hs1 (lC k)) (λ _ h=>h)⟩
def Pure(P:Program)(Γ:dL)(f:FuncId)(args:List AVal)(r:AVal):Prop:=∀k,Tr P Γ f k args [] (λ k1 r1 H1=>k1=k/\r1=r/\H1=[])
theorem aPW{f:FuncId}{fn:Func}{c:Code}{args:List AVal}{r:AVal}(hf:P.funcs[f]? =aA fn)(hb:fn.body=aA c)(hn:args.length<=fn.ntmps)(hr:bd (λ _=>aE) r=aB)
 (h:∀k,W P Γ fn.ntmps k c (EQ P fn (λ _ r1 _=>VLe r1 r)) k (vS 0 args) []):Pure P Γ f args r:=λ k=>by
 refine(MR hf hb hn (h k)).weaken λ k' r1 H' hk hle=>⟨k,r,[],aF _,hle,λ id B hB=>by simp[look]at hB,.inr ⟨?_,rfl⟩,rfl,rfl,rfl⟩
 have mono0:∀v,iM (λ _=>aE) v=aB->iM (jS k) v=aB:=λ v hv=>by cases v<;>simp_all [iM]
 have mono1:∀v,LJ (λ _=>aE) v=aB->LJ (jS k) v=aB:=λ v hv=>by
  cases v with
  |agg cs=>exact aW.2 λ x hx=>mono0 x (aW.1 hv x hx)
  |fn f cs=>exact aW.2 λ x hx=>mono0 x (aW.1 hv x hx)
  |_=>simp_all [LJ,iM]
 cases r with
 |tup cs=>exact aW.2 λ x hx=>mono1 x (aW.1 hr x hx)
 |agg cs=>exact mono1 (.agg cs) hr
 |fn f cs=>exact mono1 (.fn f cs) hr
 |_=>simp_all [bd,LJ,iM]
end
end Go.AM
end
