import Derived.Test.YteimiejbhhgljaaGreatDoorZAJ
import Derived.Lib.ItoaNum
import Derived.Lib.ItoaMem
import Derived.Lib.AtoiAll
import Derived.Lib.Split
import Derived.Shelf.Strconv.Itoa3
import Derived.Shelf.Strconv.AtoiAll
import Derived.Shelf.Strings.Split
import Derived.Lib.ParseIntBCases
import Derived.Test.YteimiejbhhgljaaGreatDoorRows
set_option linter.unusedVariables false
set_option linter.defProp false
set_option linter.unusedSimpArgs false
set_option maxHeartbeats 0
set_option maxRecDepth 100000
open Go.AM.AVal renaming lit->aD
open Array renaming append_assoc->BR,getElem?_append_left->fH,getElem?_append_right->xM,getElem?_eq_some_iff->dK,getElem?_toList->bH,size_append->qQ
open Bool renaming and_eq_true->aO,eq_false_iff->dY,eq_iff_iff->eY,false->aF,false_eq_true->bP,true->aB
open Int renaming le_refl->bY,toNat_natCast->bW
open Go.IntKind renaming i64->aH,u32->aT,u64->aI
open List renaming append_nil->cX,cons_append->bA,drop_zero->bKB,eq_nil_of_length_eq_zero->jE,ext_getElem?->fF,filter_congr->bJJ,getD->oZ,getD_eq_getElem?_getD->aU,getElem?_append->dQ,getElem?_cons_zero->lY,getElem?_eq_getElem->aN,getElem?_eq_none->bE,getElem?_eq_some_iff->aL,getElem?_map->aV,getElem?_set_ne->iT,getElem?_set_self->cE,getElem?_take->fA,getElem?_toArray->cH,getElem_mem->zY,length_append->bT,length_filter_le->bQR,length_map->dG,length_set->jF,map->tB,map_append->aQ,map_cons->bN,map_map->kT,map_nil->bV,map_toArray->uA,mem_append->dJ,mem_cons_of_mem->dZ,mem_filter->lK,mem_map->dM,range->aR,size_toArray->fE,take_length->bVG
open Nat renaming add_assoc->gM,add_comm->bQQ,add_mul->cW,add_sub_cancel->a7O,add_sub_cancel_left->kJ,add_zero->kG,le_refl->aJ,le_succ->mG,le_trans->pL,lt_irrefl->oX,lt_succ_self->cY,mul_le_mul_right->bZ,mul_one->JK,pos_of_ne_zero->OP,sub_self->TT,zero_add->eQ,zero_le->bF
open Option renaming isSome_iff_exists->fU,map_eq_none_iff->dL,map_eq_some_iff->aK,map_none->lJ,map_some->bO,none->aC,some->aA
open Or renaming inl->dE,inr->dP
open Go.Result renaming andThen->ML,andThen_ok->bJ
open Go.Sem renaming run_bind->bS,run_pure->dO
open Go.Proofs.Tryz renaming f21->a7K,prog->aG
open Go.Value renaming bool->bC,int->aE,slice->aP,string->dN
section
namespace Go.AM
open Go
variable{B:Blk}{l:List (List AVal)}{zrow:List AVal}{id s sz:Nat}{x:Option Addr}
inductive Back (u:Value) (id n:Nat):AVal->AVal->Prop
 |same {v}:iL (CB id) v=aB->Back u id n v v
 |lit:Back u id n (.lit u) (.sl id 0 n)
variable{v:AVal}
def a8Q(u:Value)(id:Nat)(B:Blk)(Q:AQ):AQ:=λ e k' fr' H'=>AM.look H' id=aC/\id<k'/\∃fr2 D sz p row row',ID fr' id fr2/\D≠id/\AM.look H' D=aA ⟨sz,p,[row]⟩/\row.length=row'.length∧
 (∀(j:Nat) v v',row[j]? =aA v->row'[j]? =aA v'->Back u id B.rows.length v v')/\Q e k' fr2 [(id,B),(D,⟨sz,aF,[row']⟩)]
section
variable{P:Program}{Γ:dW}{nt kb:Nat}{Q:AQ}{k:Nat}{fr:Fr}{H:aS}{c:Code}
def bDG{D:Nat}{row:List AVal}(j:Nat)(fr1:Fr)(H1:aS)(hne:D≠id)(hD:AM.look H D=aA ⟨sz,aF,[row]⟩)(hj:row[j]? =aA (.sl id 0 l.length))(hB:AM.look H id=aA ⟨s,aB,l⟩)
 (hoff:KE id j row=aB) (h1:ID fr id fr1) (h2:QK H id H1) (h:∀u,(∃x m q,u= .slice x m q)->W P Γ nt kb c (a8Q u id ⟨s,aB,l⟩ Q) k fr1 ((D,⟨sz,aF,[row.set j (.lit u)]⟩)::H1)):W P Γ nt kb c Q k fr H:=λ A0 hA0 hk w G ρ a hi=>by
 have hrel:=hi.rel
 obtain⟨hAi,b,hb,hg,hBR⟩:=hrel.blk id ⟨s,aB,l⟩ (kI A0 kb k) (by simp only[bK,hB,bO])
 obtain⟨hAD,bD,hbD,hgD,hBD⟩:=hrel.blk D ⟨sz,aF,[row]⟩ (kI A0 kb k) (by simp only[bK,hD,bO])
 obtain⟨C,oD,hCD,hrD⟩:=hBD.ex
 have hjl:=(aL.1 hj).1
 obtain⟨u,hu,hVu⟩:=hrD 0 row j _ rfl hj
 simp only[bP,if_false]at hVu
 obtain⟨HN,eN⟩:=xE ((D,⟨sz,aF,[row.set j (.lit u)]⟩)::H1:aS)
 obtain⟨ρ1,e1⟩:=xE (λ i=>if(AM.look HN i).isSome then ρ i else aC:dH)
 have e1o:∀i,ρ1 i=aC\/ρ1 i=ρ i:=λ i=>by rw[e1];dsimp only;split;exact .inr rfl;exact .inl rfl
 have hlkN:∀i B,AM.look HN i=aA B->i≠id/\((i=D/\B=⟨sz,aF,[row.set j (.lit u)]⟩)\/(i≠D/\AM.look H i=aA B/\B.pure=aB)):=λ i B hB=>by
  rw[eN]at hB;simp only[AM.look]at hB;split at hB;.rename_i he;subst he;cases hB;exact⟨hne,.inl ⟨rfl,rfl⟩⟩
  rename_i he;obtain⟨a1,a2,a3⟩:=qF h2 i B hB;exact⟨a1,.inr ⟨Ne.symm he,a2,a3⟩⟩
 have hid1:ρ1 id=aC:=by
  rw[e1];dsimp only
  split;.rename_i hs;obtain⟨B,hB⟩:=fU.1 hs;exact absurd rfl (hlkN id B hB).1
  rfl
 have hown1:∀x,mK ρ1 x->mK ρ x/\x≠b:=λ x ⟨i,t,hx⟩=>by
  rcases e1o i with h|h;.rw[h]at hx;cases hx
  refine⟨⟨i,t,h▸hx⟩,λ he=>?_⟩;have:=hrel.inj i id _ _ _ (h▸hx) (he▸hb);rw[this,hid1]at hx;cases hx
 have mono:∀ {A v cv},V w G ρ A v cv->V w G ρ1 A v cv:=λ hv=>hv.mono (λ _ h=>h) (λ _ _=>rfl) (λ _ _=>rfl) (λ _ h=>h) (λ i _=>e1o i)
 have hi1:Inv Γ nt w G ρ1 (kI A0 kb k) a fr1 HN:=by
  refine⟨⟨λ i hi=>?_,λ i B A hi=>?_,λ i i' x t t' q1 q2=>?_,hrel.ro,hrel.glob⟩,hi.size,hi.defers,λ t v hv=>mono (hi.frm t v (nZ h1 t v hv).1)⟩;.simp only[bK,dL]at hi;rw[e1];dsimp only;rw[hi];rfl
  .simp only[bK,aK]at hi;obtain⟨B',hB',he⟩:=hi;cases he;have eρ:ρ1 i=ρ i:=by rw[e1];dsimp only;rw[hB'];rfl
   rcases(hlkN i B hB').2 with⟨rfl,rfl⟩|⟨_,hl,hp⟩
   .refine⟨hAD,bD,eρ.trans hbD,hgD,⟨⟨C,oD,hCD,λ r rw' c v hr hc=>?_⟩,λ r rw' hr=>?_⟩⟩
    .cases r with
     |succ r=>simp at hr
     |zero=>
      cases hr;by_cases hcj:c=j;.subst hcj;rw[cE hjl]at hc;cases hc;exact⟨u,hu,.lit⟩
      rw[iT (Ne.symm hcj)]at hc;obtain⟨cv,q1,q2⟩:=hrD 0 row c v rfl hc;exact⟨cv,q1,mono q2⟩
    cases r with
    |succ r=>simp at hr
    |zero=>cases hr;rw[jF];exact hBD.len 0 row rfl
   obtain⟨q1,x,q2,q3,q4⟩:=hrel.blk i B (kI A0 kb k) (by simp only[bK,hl,bO]);refine⟨q1,x,eρ.trans q2,q3,?_⟩;obtain⟨⟨C',o',q5,q6⟩,q7⟩:=q4;exact⟨⟨C',o',q5,λ r row c v hr hc=>by obtain⟨cv,q8,q9⟩:=q6 r row c v hr hc;exact⟨cv,q8,by simp only[hp,if_true]at q9⊢;exact q9⟩⟩,q7⟩
  rcases e1o i with h|h;.rw[h]at q1;cases q1
  rcases e1o i' with h'|h';.rw[h']at q2;cases q2
  exact hrel.inj i i' x t t' (h▸q1) (h'▸q2)
 have hu3:∃x m q,u=aP x m q:=by generalize l.length=n at hVu;cases hVu<;>exact⟨_,_,_,rfl⟩
 have hrun:=h u hu3
 rw[<-eN]at hrun
 refine wp_mono (hrun A0 hA0 hk w G ρ1 a hi1) λ e a' w' hp=>?_
 obtain⟨G',ρ',k',fr',H',⟨hl0,hidk,fr2,D2,sz2,p,row2,row3,hf2,hD2,hlk2,hlen2,hback,hQ⟩,hk',hi',hst⟩:=hp
 have hrel':=hi'.rel
 have hbl:b<w.heap.size:=hrel.owned_lt ⟨id,_,hb⟩
 have hb1:¬mK ρ1 b:=λ ho=>(hown1 b ho).2 rfl
 have hkb:w'.heap[b]? =w.heap[b]? :=hst.keep b hbl hb1
 have hgb:¬G' b:=λ h=>by
  rcases hst.g' b h with h|h|h;.exact hg h
  .exact hb1 h
  omega
 have hid':ρ' id=aC:=hrel'.dom id (by simp only[bK,hl0,lJ])
 obtain⟨ρ2,e2⟩:=xE (λ i=>if i=id then aA (b,s)else if i=D2 then ρ' i else aC:dH)
 have e2o:∀i,i≠id->ρ2 i=aC\/ρ2 i=ρ' i:=λ i hne=>by rw[e2];dsimp only;rw[iN hne];split;exact .inr rfl;exact .inl rfl
 have e2i:ρ2 id=aA (b,s):=by rw[e2];dsimp only;rw[iP rfl]
 have e2D:ρ2 D2=ρ' D2:=by rw[e2];dsimp only;rw[iN hD2,iP rfl]
 have back0:∀ {A:cF} {v cv},V w' G' ρ' A v cv->iL (CB id) v=aB->V w' G' ρ2 A v cv:=λ hv hbd=>
  (WP hv hbd).mono (λ _ h=>h) (λ _ _=>rfl) (λ _ _=>rfl) (λ _ h=>h.1) (λ i hi=>e2o i (by have:=hi.2;simpa [CB]using this))
 have back1:∀ {A:cF} {v cv},V w' G' ρ' A v cv->MG (CB id) v=aB->V w' G' ρ2 A v cv:=λ hv hbd=>
  (a0S hv hbd).mono (λ _ h=>h) (λ _ _=>rfl) (λ _ _=>rfl) (λ _ h=>h.1) (λ i hi=>e2o i (by have:=hi.2;simpa [CB]using this))
 have hAid:kI A0 kb k' id:=hAi.elim .inl λ h=> .inr ⟨h.1,hidk⟩
 have hVu':V w' G' ρ2 (kI A0 kb k') (.sl id 0 l.length) u:=by
  generalize l.length=n at hVu
  cases hVu with
  |dangs _ hn=>rw[hb]at hn;cases hn
  |sl0 _ hρ=>rw[hb]at hρ;cases hρ;exact .sl0 hAid e2i
  |sl _ hρ q1 q2 q3 q4 q5=>rw[hb]at hρ;cases hρ;exact .sl hAid e2i (AC hst.shape q1) q2 q3 q4 q5
 have hro:∀x,G x->w'.heap[x]? =w.heap[x]? :=λ x hx=>hst.keep x (hrel.ro x hx) λ ho=>hrel.owned_not_ro (hown1 x ho).1 hx
 obtain⟨hAD2,b2,hb2,hg2,hBD2⟩:=hrel'.blk D2 ⟨sz2,p,[row2]⟩ (kI A0 kb k') (by simp only[bK,hlk2,bO])
 have hb2b:b2≠b:=λ he=>by
  rcases hst.own b2 ⟨D2,_,hb2⟩with h|h;.exact hb1 (he▸h)
  omega
 refine⟨G',ρ2,k',fr2,_,hQ,hk',⟨⟨λ i hi=>?_,λ i B A hi=>?_,λ i i' x t t' q1 q2=>?_,hrel'.ro,hrel'.glob⟩,hi'.size,hi'.defers,λ t v hv=>?_⟩,⟨hst.size,λ x hx ho=>hst.keep x hx λ ho'=>ho (hown1 x ho').1,hst.shape,hst.g,λ x hx=>?_,?_,λ i hi=>?_,hst.os,hst.tape,hst.output⟩⟩
 · rw[e2];dsimp only
   simp only[bK,dL,AM.look]at hi
   split at hi
   · cases hi
   · rename_i n1
     split at hi
     · cases hi
     · rename_i n2;rw[iN (Ne.symm n1),iN (Ne.symm n2)]
 · simp only[bK,aK,AM.look]at hi
   obtain⟨B',hB',he⟩:=hi
   cases he
   split at hB'
   · rename_i he;subst he;cases hB'
     refine⟨hAid,b,e2i,hgb,?_⟩
     obtain⟨⟨C2,o2,q5,q6⟩,q7⟩:=hBR
     refine⟨⟨C2,o2,⟨hkb.trans q5.1,q5.2⟩,λ r row c v hr hc=>?_⟩,q7⟩
     obtain⟨cv,q8,q9⟩:=q6 r row c v hr hc
     refine⟨cv,q8,?_⟩
     simp only[if_true]at q9⊢
     exact q9.mono hst.g hro hst.shape (λ _ h=>h) (λ _ h=>h.elim)
   · split at hB'
     · rename_i he;subst he;cases hB'
       refine⟨hAD2,b2,e2D.trans hb2,hg2,?_⟩
       obtain⟨⟨C2,o2,q5,q6⟩,q7⟩:=hBD2
       refine⟨⟨C2,o2,q5,λ r rw' c v hr hc=>?_⟩,λ r rw' hr=>?_⟩
       · cases r with
         |succ r=>simp at hr
         | zero=>
           cases hr
           have hlt:c<row2.length:=by rw[hlen2];exact(aL.1 hc).1
           obtain⟨cv,q8,q9⟩:=q6 0 row2 c _ rfl (aN hlt)
           refine⟨cv,q8,?_⟩
           have hv0:V w' G' ρ' (kI A0 kb k') row2[c] cv:=by
            cases p with
            |true=>simp only[if_true]at q9;exact q9.weaken
            |false=>simpa using q9
           simp only[bP,if_false]
           have hbk:=hback c _ _ (aN hlt) hc
           generalize row2[c]=v2 at hv0 hbk
           cases hbk with
           |same hbd=>exact back0 hv0 hbd
           |lit=>have e:=iB hv0;rw[e];exact hVu'
       · cases r with
         |succ r=>simp at hr
         |zero=>cases hr;rw[<-hlen2];exact q7 0 row2 rfl
     · cases hB'
 · have key:∀i x t,ρ2 i=aA (x,t)->(i=id/\x=b)\/(i≠id/\i=D2/\ρ' i=aA (x,t)):=λ i x t h=>by
    rw[e2]at h;dsimp only at h
    split at h;.rename_i he;cases h;exact .inl ⟨he,rfl⟩
    rename_i hne;split at h;.rename_i he;exact .inr ⟨hne,he,h⟩
    cases h
   rcases key i x t q1 with⟨r1,r2⟩|⟨r1,r2,r3⟩<;>rcases key i' x t' q2 with⟨s1,s2⟩|⟨s1,s2,s3⟩
   · rw[r1,s1]
   · exfalso;rw[s2,hb2]at s3;cases s3;exact hb2b r2
   · exfalso;rw[r2,hb2]at r3;cases r3;exact hb2b s2
   · rw[r2,s2]
 · obtain⟨q1,q2⟩:=nZ hf2 t v hv
   exact back1 (hi'.frm t v q1) q2
 · rcases hst.g' x hx with h|h|h
   · exact .inl h
   · exact .inr (.inl (hown1 x h).1)
   · exact .inr (.inr h)
 · rintro x ⟨i,t,hx⟩
   by_cases hii:i=id
   · subst hii;rw[e2i]at hx;cases hx;exact .inl ⟨i,_,hb⟩
   · rcases e2o i hii with h|h
     · rw[h]at hx;cases hx
     · rw[h]at hx
       rcases hst.own x ⟨i,t,hx⟩with h|h
       · exact .inl (hown1 x h).1
       · exact .inr h
 · by_cases hii:i=id
   · subst hii;exact .inr (e2i.trans hb.symm)
   · rcases e2o i hii with h|h
     · exact .inl h
     · rcases hst.ids i hi with h'|h'
       · exact .inl (h.trans h')
       · rcases e1o i with h3|h3
         · exact .inl (h.trans (h'.trans h3))
         · exact .inr (h.trans (h'.trans h3))
structure Nm (v:AVal):Prop where
 bd:∀p,iL p v=aB
 cl:clean v=aB
 on:AM.one v=aB
 sw:∀a b,BS a b v=v
def Nm.rows (s:Nat)(l:List (List AVal)):Nm (rows s l):=⟨λ _=>rfl,rfl,rfl,λ _ _=>rfl⟩
def Nm.slice{m q:Nat}:Nm (.lit (.slice x m q)):=⟨λ _=>rfl,rfl,rfl,λ _ _=>rfl⟩
def FL(z:Bool)(id s:Nat)(l:List (List AVal))(v:AVal)(Q Q':AQ):Prop:=
 Nm v/\((Q'=Q/\((z=aF/\v=rows s l)\/(z=aB/\l=[]/\v= .lit (.slice aC 0 0))))\/(z=aB/\l≠[]/\∃u,v= .lit u/\Q'=a8Q u id ⟨s,aB,l⟩ Q))
def a7I(z:Bool){D:Nat}{row:List AVal}(j:Nat)(fr1:Fr)(H1:aS)(hne:D≠id)(hD:AM.look H D=aA ⟨sz,aF,[row]⟩)(hj:row[j]? =aA (dI id l))(hH:mM H id s l)
 (hoff:KE id j row=aB) (h1:ID fr id fr1) (h2:QK H id H1) (h:∀v Q',FL z id s l v Q Q'->W P Γ nt kb c Q' k fr1 ((D,⟨sz,aF,[row.set j v]⟩)::H1)):W P Γ nt kb c Q k fr H:=by
 cases z with
 |false=>exact gW (LE j (rows s l) fr1 H1 hne hD hj hH (bL _) hoff h1 h2) (h _ _ ⟨.rows s l,.inl ⟨rfl,.inl ⟨rfl,rfl⟩⟩⟩)
 |true=>
  cases l with
  |nil=>
   refine gW (λ hk=>nC ⟨hk,λ t' u hu=>⟨u,(nZ h1 t' u hu).1,bL u⟩,λ i B hB=>?_,.inl rfl⟩ hk) (h (.lit (.slice aC 0 0)) _ ⟨.slice,.inl ⟨rfl,.inr ⟨rfl,rfl,rfl⟩⟩⟩);simp only[AM.look]at hB;split at hB
   .rename_i he;subst he;cases hB;have hjl:=(aL.1 hj).1
    have e:row.set j (.lit (.slice aC 0 0))=row:=by
     apply fF;intro c;by_cases hc:c=j;.subst hc;rw[cE hjl,hj];rfl
     rw[iT (Ne.symm hc)]
    rw[e];exact⟨_,hD,nN _⟩
   exact⟨B,(qF h2 i B hB).2.1,nN B⟩
  |cons x r=>exact bDG j fr1 H1 hne hD hj (hH sS) hoff h1 h2 λ u hu=>by obtain⟨a,m,q,rfl⟩:=hu;exact h _ _ ⟨.slice,.inr ⟨rfl,sS,_,rfl,rfl⟩⟩
def FL.no{Q Q':AQ}(h:FL aF id s l v Q Q'):v=rows s l/\Q'=Q:=by
 obtain⟨_,⟨e,⟨_,e'⟩|⟨e',_⟩⟩|⟨e',_⟩⟩:=h;.exact⟨e',e⟩
 .cases e'
 cases e'
end
section
variable{P:Program}{Γ:dW}{nt kb:Nat}{Q:AQ}{k:Nat}{fr:Fr}{H:aS}{c:Code}
def bDH(D j:Nat){n:Nat}{row:List AVal}(hD:AM.look H D=aA ⟨sz,aF,[row]⟩)(hj:row[j]? =aA (.sl id 0 n))(hn:0<n)(hB:AM.look H id=aA B)
 (h:∀cap,n<=cap->cap<=9223372036854775807->W P Γ nt kb c Q k fr ((D,⟨sz,aF,[row.set j (.slc id 0 n cap)]⟩)::H)):W P Γ nt kb c Q k fr H:=λ A0 hA0 hk w G ρ a hi=>by
 have hrel:=hi.rel
 obtain⟨_,b,hb,_⟩:=hrel.blk id B (kI A0 kb k) (by simp only[bK,hB,bO])
 obtain⟨hAD,bD,hbD,hgD,hBD⟩:=hrel.blk D ⟨sz,aF,[row]⟩ (kI A0 kb k) (by simp only[bK,hD,bO])
 obtain⟨⟨C,oD,hCD,hrD⟩,hlD⟩:=hBD
 have hjl:=(aL.1 hj).1
 obtain⟨u,hu,hVu⟩:=hrD 0 row j _ rfl hj
 simp only[bP,if_false]at hVu
 obtain⟨cap,g1,g2,g3⟩:∃cap,n<=cap/\cap<=9223372036854775807/\V w G ρ (kI A0 kb k) (.slc id 0 n cap) u:=by
  cases hVu with
  |dangs _ hn=>rw[hb]at hn;cases hn
  |sl0 _ _=>omega
  |sl h1 h2 h3 h4 h5 h6 h7=>exact⟨_,h5,h6,.slc h1 h2 h3 h4 h5 h6 h7⟩
 refine h cap g1 g2 A0 hA0 hk w G ρ a ⟨⟨λ i hi=>?_,λ i B A hi=>?_,hrel.inj,hrel.ro,hrel.glob⟩,hi.size,hi.defers,hi.frm⟩
 · simp only[bK,dL,AM.look]at hi
   split at hi
   · cases hi
   · exact hrel.dom i (by simp only[bK,hi,lJ])
 · simp only[bK,aK,AM.look]at hi
   obtain⟨B',hB',he⟩:=hi
   cases he
   split at hB'
   · rename_i he;subst he;cases hB'
     refine⟨hAD,bD,hbD,hgD,⟨⟨C,oD,hCD,λ r rw' c v hr hc=>?_⟩,λ r rw' hr=>?_⟩⟩
     · cases r with
       |succ r=>simp at hr
       | zero=>
         cases hr
         by_cases hcj:c=j
         · subst hcj
           rw[cE hjl]at hc;cases hc
           exact⟨u,hu,g3⟩
         · rw[iT (Ne.symm hcj)]at hc
           exact hrD 0 row c v rfl hc
     · cases r with
       |succ r=>simp at hr
       |zero=>cases hr;rw[jF];exact hlD 0 row rfl
   · exact hrel.blk i _ (kI A0 kb k) (show bK H (kI A0 kb k) i=_ by unfold bK;rw[hB'];rfl)
end
section
variable{P:Program}{Γ:dW}{o:Oper}{ev:Operand->Option AVal}{get:Nat->Option Blk}{k:Nat}
def jX{x y:Operand}{t n c m by':Nat}{rows:List (List AVal)}{ids:List Nat}
 (ho:o.op= .call {callee:= .builtin .append,args:= #[x,y],argTypes:= #[t,t]}) (hz:iD P t=aA (s,by',zrow)) (hx:ev x=aA (.slc id 0 n c)) (hB:get id=aA B) (hBs:B.sz=s) (hp:B.pure=aB) (hy:ev y=aA v) (hs:SrcA get (deS v) s m rows aB ids)
 (hone:(rows.all λ row=>row.all AM.one)=aB) (hm:0<m) (hroom:c<n+m) (hr:B.rows.length=n) (hlen:n+m<=9223372036854775807) (hby:(n+m)*by'<=140737488355328):
 AM.Good P Γ o ev get k ⟨.sl k 0 (n+m),k+1,[(k,aA ⟨s,aB,B.rows++rows⟩)],id::ids⟩:=by
 refine⟨?_,HM hB hs.some,mG _⟩;unfold iD at hz;split at hz;case h_2=>cases hz
 rename_i e hu;split at hz;case h_2=>cases hz
 rename_i i hi;split at hz;case h_2=>cases hz
 rename_i z hzz;split at hz;case isFalse=>cases hz
 rename_i hsz;cases hz;intro w G ρ H A a hrl hA hf hrd hop next Q hn
 have hkA:¬A k:=λ hk=>oX _ (hA k hk);obtain⟨hρk,hfr⟩:=hf k (aJ _) (cY _);obtain⟨B',A',h3,hH,hAA⟩:=hrd id sS;rw[hB]at h3;cases h3;have hvx:=hop x pC _ hx;have hvy:=IV (hop y pC _ hy);obtain⟨hsl,hsrl,hsex⟩:=hs.src hrl (λ id' hid=>hrd id' (dZ _ hid)) hvy;obtain⟨sb,soff,scap,hsv,gv,hgv⟩:=hsex oO;obtain⟨hcell,h1⟩:=UB (cnt:=m) hsz.2 (aJ _) hsl hsrl hgv (tJ hone);obtain⟨b,off,C,ty,hev,h4,hb,hC,h7,h8,h9,h10,hrows,hlen2⟩:=qT hrl hH hvx;rw[eQ]at h7;have hnl:=tK i.size m gv;have hCn:n*i.size<=C.size:=pL (bZ _ h8) (by rw[<-hBs];exact h7)
 have holds:∀j v,(C.toList.take (n*i.size))[j]? =aA v->w.cell? ((⟨b,off,aC⟩:Addr).add j)=aA v:=λ j v hj=>by
  rw[fA]at hj;split at hj
  .rename_i hlt;have hn0:0<n:=OP (λ h0=>by rw[h0]at hlt;simp at hlt)
   have hoff':off=0:=by rcases h10 with h|h;· omega
                        · simpa using h
   subst hoff';rw[Addr.add_mid,cell_of_row w b _ C ty (0,0) hC,<-bH,eQ];exact hj
  cases hj
 have hol:(C.toList.take (n*i.size)).length=n*i.size:=by simp;omega
 have hrun:=run_append_grow (P:=P) w t o.type e i z hu hi hzz ⟨b,off,aC⟩ n c _ hol holds ⟨sb,soff,aC⟩ m scap (news i.size m gv) hnl hcell oO oO (growslice_fits oO hby);have hval:∀cv w',((execOp a.eval o).run P w= .ok (.value cv) w')=((Builtin.append_ #[t,t] o.type #[a.eval x,.slice (aA ⟨sb,soff,aC⟩) m scap]).run P w= .ok cv w'):=λ cv w'=>by simp only[execOp,ho,resolve,invoke,builtin];simp only[uA,bN,bV,bS,dO,bJ,hsv];cases(Builtin.append_ #[t,t] o.type #[a.eval x,.slice (aA ⟨sb,soff,aC⟩) m scap]).run P w<;>simp[ML]
 rw[<-hev]at hrun;have hrun':=(hval _ _).mpr hrun;unfold Oper.wp;rw[hrun'];have hge:=grownCap_ge w (n+m) c e;have hcm:=grownCap_le_maxLen w (n+m) c e (by unfold maxLen;omega)
 have hrowlen:∀(r:Nat) row,(B.rows++rows)[r]? =aA row->row.length=i.size:=λ r row h=>by
  rw[dQ]at h;split at h;.rw[<-hBs];exact hlen2 r row h
  exact hsrl _ row h
 obtain⟨CN,eCN⟩:=xE ((C.toList.take (n*i.size)).toArray++(news i.size m gv).toArray++Builtin.zeroCells z.cells (grownCap w (n+m) c e-(n+m)))
 have hrel:=hrl.alloc k hρk (λ j B1 A1 hj=>hfr j B1 A1 hj) ⟨i.size,aB,B.rows++rows⟩ CN e A (λ j=>A j\/(k<=j/\j<k+1)) hkA (λ _ h=> .inl h) (.inr ⟨aJ _,cY _⟩) hrowlen
  (λ r row c' v' q1 q2=>by
    have q1':(B.rows++rows)[r]? =aA row:=q1;have hc:c'<i.size:=by have:=(aL.1 q2).1;have:=hrowlen r row q1';omega
    show ∃cv,CN[r*i.size+c']? =aA cv/\V w G bX cQ v' cv;rw[eCN];rw[dQ]at q1';split at q1'
    .rename_i hlt;have h6:r*i.size+c'<n*i.size:=by have:(r+1)*i.size<=n*i.size:=bZ _ oO;rw[cW]at this;omega
     obtain⟨cu,q3,q4⟩:=hrows r row c' v' q1' q2;rw[hBs]at q3;simp only[hp,if_true]at q4;refine⟨cu,?_,q4⟩;rw[BR,fH sO,cH,fA,iP h6,bH];exact q3
    rename_i hge';have hrm:r-n<m:=by have:=(aL.1 q1').1;omega
    have q9:=pO (gv:=gv) hrm hc;have q10:=(aL.1 q9).1
    have e1:r*i.size+c'=n*i.size+((r-n)*i.size+c'):=by
     have:r*i.size=n*i.size+(r-n)*i.size:=by rw[<-cW];congr 1;omega
     omega
    rw[hr]at q1';have q4:=(hgv _ row c' v' q1' q2).2;simp only[if_true]at q4;refine⟨_,?_,q4⟩;have hsz1:(C.toList.take (n*i.size)).toArray.size=n*i.size:=by rw[fE];exact hol
    rw[BR,xM (by rw[hsz1];omega),hsz1,e1,kJ,fH (by rw[fE];exact q10),cH];exact q9)
  w.drew rfl rfl rfl rfl
 have hst:=mB (w:=w) (G:=G) (ρ:=ρ) k i.size (.cells CN e) w.drew rfl rfl rfl rfl;rw[eCN]at hrel hst;refine hn _ G _ _ hrel ?_ ⟨hst.size,hst.keep,hst.shape,hst.g,hst.g',hst.own,λ j hj=>hst.ids j (λ he=>hj (oO:k<=j/\j<k+1)),hst.os,hst.tape,hst.output⟩;refine .sl (b:=w.heap.size) (s:=i.size) (ty:=e) (m:=CN.size) (.inr ⟨aJ _,cY _⟩) (by simp[fQ]) ?_ ?_ hge hcm (.inr sS);.have:=jD w.drew (.cells CN e);have e1:w.drew.heap.size=w.heap.size:=rfl;rw[e1,eCN]at this;unfold World.shape?;rw[this,eCN]
 rw[eQ,eCN,qQ,qQ,fE,fE,hnl,hol,size_zeroCells,hsz.1,<-cW,<-cW];exact bZ _ oO
end
end Go.AM
end
section
namespace Go.Proofs.T
open Go Go.AM Go.Proofs
variable{v:AVal}{ops:Array Oper}{l l':List (List AVal)}{p:List Nat}{i j k sz':Nat}{o:Oper}{x:Operand}{outs:Out->Prop}{P:Program}{a b:St}{loc:aS}
variable{Γ:dW}
attribute [local irreducible] jM del
def aYG(k D id E:Nat)(hD:D<k)(hid:id<k)(hne:D≠id)(hE:E<k)(hDE:D≠E)(hEi:E≠id)(l0:List (Int×Int×Sp))(hl0:l0.length<=10000)(a b:St)(g n m p:Nat)(hm:m=n)(hp:p=n)(hn:n<=1000)(c1 c2 c3 c4 c5:AVal)(e1:∀p,iL p c1=aB)(e2:∀p,iL p c2=aB)(e3:∀p,iL p c3=aB)(e4:∀p,iL p c4=aB)(e5:∀p,iL p c5=aB)(L:List (Int×Int×Sp))(eL:L=l0++iH (qJ a b g) n):
 Tr aG Γ 59 k [.rd 3 m (sf a g),.rd 3 p (sf b g),.fn 60 [.ptr D 0 0,.ptr E 0 0]] (cM id 5 (l0.map pR) [(D,⟨6,aF,[[c1,c2,c3,c4,c5,dI id (l0.map pR)]]⟩),(E,⟨1,aB,[[g]]⟩)]) (λ k1 r1 H1=>k1=k+1/\r1= .tup []/\H1=cM k 5 (L.map pR) [(D,⟨6,aF,[[c1,c2,c3,c4,c5,dI k (L.map pR)]]⟩),(E,⟨1,aB,[[g]]⟩)]):=by subst hm hp eL;exact a5Q k D hD id hid hne E hE hDE hEi l0 hl0 a b g _ hn c1 c2 c3 c4 c5 e1 e2 e3 e4 e5
def bDD{D E i0 id sz:Nat}{B B' C:Blk}(h1:AM.look loc D=aC)(h2:AM.look loc id=aC)(h3:AM.look loc i0=aC)(h4:AM.look loc E=aC):rO loc (cM i0 sz l [(D,B),(E,C)]) (cM id sz' l' [(D,B'),(E,C)]):=λ i hi=>by
 by_cases hD:i=D;.subst hD;exact h1
 by_cases hI:i=id;.subst hI;exact h2
 by_cases hJ:i=i0;.subst hJ;exact h3
 by_cases hE:i=E;.subst hE;exact h4
 exfalso;rcases hi with h|h;.cases l<;>simp[cM,fN,AM.look,Ne.symm hD,Ne.symm hJ,Ne.symm hE]at h
 cases l'<;>simp[cM,fN,AM.look,Ne.symm hD,Ne.symm hI,Ne.symm hE]at h
def QS(a b:St)(n:Nat):∀g,(iH (λ g=>iH (qJ a b g) n) g).length<=g*n:=lH λ g=>by have:=lH (aDR a b g) n;omega
def aWP(k:Nat):Kp [0,1,2,3,4,5,6,7,9,10,11,13,15,16,17,18,19,20,28,30,31,32,33,39,64,65,66,67,76,77,78,79,95,107,109,122,123,124,125] (λ i=>i-k):=oR
def aZS(a b:St)(hns:a.ns<=12)(gns:b.ns=a.ns)(hnk:a.nk<=12)(hsp:∀g,g<a.ns->a.nsp g=a.nk)(hsp':∀g,g<a.ns->b.nsp g=a.nk)(k:Nat)(c0 c1 c2 c3 c4:AVal)(h0:Nm c0)(h1:Nm c1)(h2:Nm c2)(h3:Nm c3)(h4:Nm c4)(z:Bool)(Q:AQ)
 (hQ:∀v Q',FL z (k+11) 5 ((iH (λ g=>iH (qJ a b g) a.nk) a.ns).map pR) v Q Q'->Q' .ret (k+12) [(5,(0:Int)),(4,.ptr (k+2) 0 0)] [(k+2,⟨6,aB,[[c0,c1,c2,c3,c4,v]]⟩)]):
 W aG Γ 139 k (gV (gD a7K) [1,1,1,1,1,1,1,1,1,1,1,1,1]) Q (k+11) [(10,.ptr (k+3) 0 0),(5,(0:Int)),(4,.ptr (k+2) 0 0),(3,.ptr (k+1) 0 0),(2,.ptr k 0 0)] [(k+2,⟨6,aB,[[(),(),(),(),(),()]]⟩),(k+1,⟨7,aB,[b.cells]⟩),(k,⟨7,aB,[a.cells]⟩),(k+3,⟨6,aF,[[c0,c1,c2,c3,c4,()]]⟩)]:=by
 obtain⟨b0,l0,o0,s0⟩:=h0;obtain⟨b1,l1,o1,s1⟩:=h1;obtain⟨b2,l2,o2,s2⟩:=h2;obtain⟨b3,l3,o3,s3⟩:=h3;obtain⟨b4,l4,o4,s4⟩:=h4;simp only[go_sem]at l0 o0 l1 o1 l2 o2 l3 o3 l4 o4;obtain⟨L,eL⟩:=xE ((iH (λ g=>iH (qJ a b g) a.nk) a.ns).map pR);rw[<-eL]at hQ;refine aAD rfl [0,1,2,3,4,5,6,7,9,10,11,13,15,16,17,18,19,20,28,30,31,32,33,39,64,65,66,67,76,77,78,79,95,107,109,122,123,124,125] (k+12) [] (cM (k+11) 5 L [(k+3,⟨6,aF,[[c0,c1,c2,c3,c4,dI (k+11) L]]⟩),(k+2,⟨6,aB,[[(),(),(),(),(),()]]⟩),(k+1,⟨7,aB,[b.cells]⟩),(k,⟨7,aB,[a.cells]⟩)]) ?_ ?_
 .have kp:=aWP k;have uU:=fB @b0 l0 o0 s0 b1 l1 o1 s1 (fB b2 l2 o2 s2 b3 l3 o3 s3 (pJ @b4 l4 o4 s4));refine jI ?_;refine cD (X:=Nat) rfl [0,1,2,3,4,5,6,7,9,10,11,13,15,16,17,18,19,20,28,30,31,32,33,39,64,65,66,67,76,77,78,79,95,107,109,122,123,124,125] (k+12) (λ i=>[(124,i)]) (λ i=>cM (k+11) 5 ((iH (λ g=>iH (qJ a b g) a.nk) i).map pR) [(k+2,⟨6,aB,[[(),(),(),(),(),()]]⟩),(k+1,⟨7,aB,[b.cells]⟩),(k,⟨7,aB,[a.cells]⟩),(k+3,⟨6,aF,[[c0,c1,c2,c3,c4,dI (k+11) ((iH (λ g=>iH (qJ a b g) a.nk) i).map pR)]]⟩)]) (λ i=>i<=a.ns) (λ i=>a.ns-i) 0 ?_ (bF _) ?_;.rw[zC,bV];refine gG ?_;(have uU:=fB @b0 l0 o0 s0 b1 l1 o1 s1 (fB b2 l2 o2 s2 b3 l3 o3 s3 (pJ @b4 l4 o4 s4));exact pK)
  intro g hg;have hfl:=QS a b a.nk g;have hgn:g*a.nk<=12*12:=Nat.mul_le_mul oO hnk;obtain⟨l,el,hl⟩:∃x,x=iH (λ g=>iH (qJ a b g) a.nk) g/\x.length<=144:=⟨_,rfl,oO⟩;obtain⟨m,em⟩:=xE (iH (λ g=>iH (qJ a b g) a.nk) (g+1));have es:m=l++iH (qJ a b g) a.nk:=by rw[em,wJ,<-el]
  rw[<-el];refine gG ?_;refine wl ?_;refine pN (λ ht=>?_) λ ht=>?_
  .refine gW (nC (k1:=k+13) (fr1:=[(19,.ptr (k+12) 0 0),(20,.rd 3 (b.nsp g) (sf b g)),(123,aD (aE aH (b.ns:Int))),(122,.rd 1 b.ns (ssf b)),(10,.ptr (k+3) 0 0),(5,aD (aE aH 0)),(4,.ptr (k+2) 0 0),(3,.ptr (k+1) 0 0),(2,.ptr k 0 0),(124,aD (aE aH (g:Int)))]) (H1:=(k+2,⟨6,aB,[[(),(),(),(),(),()]]⟩)::(k+1,⟨7,aB,[b.cells]⟩)::(k,⟨7,aB,[a.cells]⟩)::cM (k+11) 5 (l.map pR) [(k+3,⟨6,aF,[[c0,c1,c2,c3,c4,dI (k+11) (l.map pR)]]⟩),(k+12,⟨1,aB,[[g]]⟩)]) (wV (fB (@b0) (@l0) (@o0) (@s0) (@b1) (@l1) (@o1) (@s1) (fB (@b2) (@l2) (@o2) (@s2) (@b3) (@l3) (@o3) (@s3) (pJ (@b4) (@l4) (@o4) (@s4)))))) (cl [.far (.tup []) (k+14) [(k+2,⟨6,aB,[[(),(),(),(),(),()]]⟩),(k+1,⟨7,aB,[b.cells]⟩),(k,⟨7,aB,[a.cells]⟩)] (cM (k+11) 5 (l.map pR) [(k+3,⟨6,aF,[[c0,c1,c2,c3,c4,dI (k+11) (l.map pR)]]⟩),(k+12,⟨1,aB,[[g]]⟩)]) (cM (k+13) 5 (m.map pR) [(k+3,⟨6,aF,[[c0,c1,c2,c3,c4,dI (k+13) (m.map pR)]]⟩),(k+12,⟨1,aB,[[g]]⟩)])] ?_);refine FN (zs ?_) (zs ?_) (zs ?_) (zs ?_);.exact λ _=>rfl
   .exact bDD (by simp only[AM.look];repeat(rw[iN oO])) (by simp only[AM.look];repeat(rw[iN oO])) (by simp only[AM.look];repeat(rw[iN oO])) (by simp only[AM.look];repeat(rw[iN oO]))
   .exact aYG (k+13) (k+3) (k+11) (k+12) oO oO oO oO oO oO l oO a b g a.nk (a.nsp g) (b.nsp g) (hsp g oO) (hsp' g oO) oO _ _ _ _ _ b0 b1 b2 b3 b4 m es
   refine jI ?_;refine⟨g+1,oO,oO,?_⟩;rw[<-em];refine gG ?_;exact FI (k+13) (k+11) (wV (fB (@b0) (@l0) (@o0) (@s0) (@b1) (@l1) (@o1) (@s1) (fB (@b2) (@l2) (@o2) (@s2) (@b3) (@l3) (@o3) (@s3) (pJ (@b4) (@l4) (@o4) (@s4)))))
  have hgn:g=a.ns:=oO;subst hgn;rw[el,<-eL];(have uU:=fB @b0 l0 o0 s0 b1 l1 o1 s1 (fB b2 l2 o2 s2 b3 l3 o3 s3 (pJ @b4 l4 o4 s4));exact pK)
 have uU:=fB @b0 l0 o0 s0 b1 l1 o1 s1 (fB b2 l2 o2 s2 b3 l3 o3 s3 (pJ @b4 l4 o4 s4));refine gG ?_;refine a7I z (id:=k+11) (s:=5) (D:=k+3) (sz:=6) (l:=L) (row:=[c0,c1,c2,c3,c4,dI (k+11) L]) 5 [(10,.ptr (k+3) 0 0),(5,(0:Int)),(4,.ptr (k+2) 0 0)] [(k+2,⟨6,aB,[[(),(),(),(),(),()]]⟩)] oO (sV uU) rfl (sV uU) (sV uU) (sV uU) (sV uU) (λ v Q' hv=>?_);obtain⟨b5,l5,o5,s5⟩:=hv.1;simp only[go_sem]at l5 o5;have kp:=aWP k;have uU:=fB @b0 l0 o0 s0 b1 l1 o1 s1 (fB b2 l2 o2 s2 b3 l3 o3 s3 (xG @b4 l4 o4 s4 @b5 l5 o5 s5));refine jI ?_;exact a1D rfl (nC (k1:=k+12) (fr1:=[(5,aD (aE aH 0)),(4,.ptr (k+2) 0 0)]) (H1:=[(k+2,⟨6,aB,[[c0,c1,c2,c3,c4,v]]⟩)]) (wV (fB (@b0) (@l0) (@o0) (@s0) (@b1) (@l1) (@o1) (@s1) (fB (@b2) (@l2) (@o2) (@s2) (@b3) (@l3) (@o3) (@s3) (xG (@b4) (@l4) (@o4) (@s4) (@b5) (@l5) (@o5) (@s5)))))) (hQ v Q' hv)
def bDV{nt kb id d1 d2 t1 t2:Nat}{fr:Fr}{H:aS}{Q:AQ}{c:Code}{p1 p2:String}{a1 a2:Array Edge}
 (hc:gV c p= .region id ops aF) (hops:ops.toList=[⟨aA d1,.next x aF,t1,p1,a1,aC⟩,⟨aA d2,.extract (.tmp d1) 0,t2,p2,a2,aC⟩]) (hd:nL nt ops=aB) {rds:List Nat} 
 (hN:GoodN P Γ ⟨aA d1,.next x aF,t1,p1,a1,aC⟩ (lN Γ fr) (AM.look H) k rds outs)
 (h:∀out,outs out->∃bb vs,out.v= .tup (aD (bC bb)::vs)/\(Q .normal k (jM (jM fr (aA d1) out.v) (aA d2) (aD (bC bb))) (mE H out.upd))):W P Γ nt kb (gV c p) Q k fr H:=by
 rw[hc];refine WN hops hd rfl hN λ out ho=>?_;obtain⟨bb,vs,e,hq⟩:=h out ho;refine dP ⟨rfl,⟨aD (bC bb),k,[],[]⟩,tV ?_,λ _=>hq⟩;have e1:lN Γ (jM fr (aA d1) out.v) (.tmp d1)=aA (.tup (aD (bC bb)::vs)):=by show AM.look (jM fr (aA d1) out.v) d1=_;rw[vM,iP rfl,e]
 rw[a8W,e1];rfl
def bDC{id sz:Nat}(h:AM.look loc id=aC):rO loc (cM id sz l []) (cM id sz' l' []):=λ i hi=>by
 by_cases hI:i=id;.subst hI;exact h
 exfalso;rcases hi with h|h;.cases l<;>simp[cM,fN,AM.look,Ne.symm hI]at h
 cases l'<;>simp[cM,fN,AM.look,Ne.symm hI]at h
def a0L{id:Nat}{l m:List Int}(h:l.length=m.length):dI id (l.map nR)=dI id (m.map nR):=by cases l<;>cases m<;>simp_all [dI]
def a4J(i:Nat):(KK a b i).length<=a.nt:=by have h1:(KK a b i).length<=(pD a a.nt).length:=bQR _ _;simpa [pD]using h1
attribute [local go_sem] nR a4Q
def aZT(a b:St)(ha:IdOk a)(hb:IdOk b)(hnt:a.nt<=1000)(hns:a.ns<=12)(gns:b.ns=a.ns)(hnk:a.nk<=12)(hsp:∀g,g<a.ns->a.nsp g=a.nk)(hsp':∀g,g<a.ns->b.nsp g=a.nk)(k:Nat)(c0 c1 c2 c4:AVal)(h0:Nm c0)(h1:Nm c1)(h2:Nm c2)(h4:Nm c4)(z3 z5:Bool)(Q:AQ)
 (hQ:∀v3 Q3,FL z3 (k+10) 1 ((CE a b).map nR) v3 Q Q3->∀v Q',FL z5 (k+11) 5 ((iH (λ g=>iH (qJ a b g) a.nk) a.ns).map pR) v Q3 Q'->Q' .ret (k+12) [(5,(0:Int)),(4,.ptr (k+2) 0 0)] [(k+2,⟨6,aB,[[c0,c1,c2,v3,c4,v]]⟩)]):
 W aG Γ 139 k (gV (gD a7K) [0,0,1,1,1,1,1,1,1,1,1,1,1]) (mW (W aG Γ 139 k (gV (gD a7K) [1,0,1,1,1,1,1,1,1,1,1,1,1]) (mW (W aG Γ 139 k (gV (gD a7K) [1,1,1,1,1,1,1,1,1,1,1,1]) Q) Q)) (mW (W aG Γ 139 k (gV (gD a7K) [1,1,1,1,1,1,1,1,1,1,1,1]) Q) Q)) (k+9) [(11,.mp (k+7)),(10,.ptr (k+3) 0 0),(5,(0:Int)),(4,.ptr (k+2) 0 0),(3,.ptr (k+1) 0 0),(2,.ptr k 0 0)] [(k+7,⟨3,aB,CC (KK a b b.nt) a.nt⟩),(k+2,⟨6,aB,[[(),(),(),(),(),()]]⟩),(k+1,⟨7,aB,[b.cells]⟩),(k,⟨7,aB,[a.cells]⟩),(k+3,⟨6,aF,[[c0,c1,c2,(),c4,()]]⟩)]:=by
 obtain⟨b0,l0,o0,s0⟩:=id h0;obtain⟨b1,l1,o1,s1⟩:=id h1;obtain⟨b2,l2,o2,s2⟩:=id h2;obtain⟨b4,l4,o4,s4⟩:=id h4;simp only[go_sem]at l0 o0 l1 o1 l2 o2 l4 o4;obtain⟨l,el⟩:=xE (KK a b b.nt);have hst:(l.map (·.2.2)).Nodup:=by rw[el];exact aGY
 have hold:∀e∈l,e.2.2<a.nt:=by rw[el];exact a4I
 have hlen:l.length<=1000:=by rw[el];have:=a4J (a:=a) (b:=b) b.nt;omega
 have hgo:l.map (·.1)=CE a b:=by rw[el];exact aCN
 rw[<-el];have kp:=kN k [0,1,2,3,4,5,6,7,9,10,11,13,15,16,17,18,19,20,28,30,31,32,33,39,64,65,66,67,76,77,78,79,95,107,109,122,123,124,125];have uU:=fB @b0 l0 o0 s0 b1 l1 o1 s1 (xG b2 l2 o2 s2 @b4 l4 o4 s4);refine cl [.raw (aA 107) ⟨.it (k+9),k+10,[(k+9,aA ⟨3,aF,LU (k+7) a.nt [] a.nt⟩)],[k+7]⟩] ?_;refine iA ?_ ?_;.exact PO (l:=l) (clock:=a.nt) rfl aLM rfl (by simp-dsimp-implicitDefEqProofs only[go_sem,b0,l0,o0,s0,b1,l1,o1,s1,b2,l2,o2,s2,b4,l4,o4,s4,aQ,Flt.row,↓reduceIte];rfl)
 refine BN rfl (cD (X:=List Nat×List Int) rfl [0,1,2,3,4,5,6,7,9,10,11,13,15,16,17,18,19,20,28,30,31,32,33,39,64,65,66,67,76,77,78,79,95,107,109,122,123,124,125] (k+11) (λ x=>[]) (λ x=>cM (k+10) 1 (x.2.map nR) [(k+9,⟨3,aF,LU (k+7) a.nt x.1 a.nt⟩),(k+7,⟨3,aB,CC l a.nt⟩),(k+2,⟨6,aB,[[(),(),(),(),(),()]]⟩),(k+1,⟨7,aB,[b.cells]⟩),(k,⟨7,aB,[a.cells]⟩),(k+3,⟨6,aF,[[c0,c1,c2,dI (k+10) (x.2.map nR),c4,()]]⟩)]) (λ x=>JO l x) (λ x=>(mJ l x.1).length) ([],[]) ?_ aHL ?_);.rw[bV];refine gG ?_;(have uU:=fB @b0 l0 o0 s0 b1 l1 o1 s1 (xG b2 l2 o2 s2 @b4 l4 o4 s4);exact pK)
 rintro⟨seen,acc⟩ hF;have hal:=aQO hF;refine gG ?_;refine iG rfl (bDV rfl rfl rfl (UQ (mid:=k+7) (it:=k+9) (since:=a.nt) (c0:=a.nt) (clock:=a.nt) (q:= .i64) (l:=l) (seen:=seen) rfl rfl (by first|(simp-dsimp-implicitDefEqProofs only[go_sem,b0,l0,o0,s0,b1,l1,o1,s1,b2,l2,o2,s2,b4,l4,o4,s4,aQ,Flt.row,↓reduceIte];done)|(simp-dsimp-implicitDefEqProofs only[go_sem,b0,l0,o0,s0,b1,l1,o1,s1,b2,l2,o2,s2,b4,l4,o4,s4,aQ,Flt.row,↓reduceIte];rfl)) (by first|(simp-dsimp-implicitDefEqProofs only[go_sem,b0,l0,o0,s0,b1,l1,o1,s1,b2,l2,o2,s2,b4,l4,o4,s4,aQ,Flt.row,↓reduceIte];done)|(simp-dsimp-implicitDefEqProofs only[go_sem,b0,l0,o0,s0,b1,l1,o1,s1,b2,l2,o2,s2,b4,l4,o4,s4,aQ,Flt.row,↓reduceIte];rfl)) hold (aJ _)) ?_);rintro out (⟨hnil,rfl⟩|⟨e,he,rfl⟩)
 .refine⟨aF,_,rfl,gG ?_⟩;refine sP λ ht=>?_;have hpg:(CE a b).Perm acc:=by rw[<-hgo];exact aQP hF hnil
  have eA:dI (k+10) (acc.map nR)=dI (k+10) ((CE a b).map nR):=a0L hpg.length_eq.symm;refine gW (nC (k1:=k+11) (fr1:=[(10,.ptr (k+3) 0 0),(5,aD (aE aH 0)),(4,.ptr (k+2) 0 0),(3,.ptr (k+1) 0 0),(2,.ptr k 0 0)]) (H1:=(k+2,⟨6,aB,[[(),(),(),(),(),()]]⟩)::(k+1,⟨7,aB,[b.cells]⟩)::(k,⟨7,aB,[a.cells]⟩)::(k+3,⟨6,aF,[[c0,c1,c2,dI (k+10) (acc.map nR),c4,()]]⟩)::cM (k+10) 1 (acc.map nR) []) (wV (fB (@b0) (@l0) (@o0) (@s0) (@b1) (@l1) (@o1) (@s1) (xG (@b2) (@l2) (@o2) (@s2) (@b4) (@l4) (@o4) (@s4))))) (cl [.far (.tup []) (k+11) [(k+2,⟨6,aB,[[(),(),(),(),(),()]]⟩),(k+1,⟨7,aB,[b.cells]⟩),(k,⟨7,aB,[a.cells]⟩),(k+3,⟨6,aF,[[c0,c1,c2,dI (k+10) (acc.map nR),c4,()]]⟩)] (cM (k+10) 1 (acc.map nR) []) (cM (k+10) 1 ((CE a b).map nR) [])] ?_);refine FN (zs ?_) (zs ?_) (zs ?_) (zs ?_);.exact λ _=>rfl
  .exact bDC (by simp only[AM.look];repeat(rw[iN oO]))
  .exact a2N (k+11) (k+10) acc (CE a b) hpg (aCY ha.st) oO
  rw[eA];refine a7I z3 (id:=k+10) (s:=1) (D:=k+3) (sz:=6) (l:=(CE a b).map nR) (row:=[c0,c1,c2,dI (k+10) (((CE a b).map nR)),c4,aD (aP aC 0 0)]) 3 [(10,.ptr (k+3) 0 0),(5,(0:Int)),(4,.ptr (k+2) 0 0),(3,.ptr (k+1) 0 0),(2,.ptr k 0 0)] [(k+2,⟨6,aB,[[(),(),(),(),(),()]]⟩),(k+1,⟨7,aB,[b.cells]⟩),(k,⟨7,aB,[a.cells]⟩)] oO (sV uU) rfl (sV uU) (sV uU) (sV uU) (sV uU) (λ v3 Q3 hv3=>?_);obtain⟨b3,l3,o3,s3⟩:=id hv3.1;simp only[go_sem]at l3 o3;exact gW (nC (k1:=k+11) (fr1:=[(10,.ptr (k+3) 0 0),(5,aD (aE aH 0)),(4,.ptr (k+2) 0 0),(3,.ptr (k+1) 0 0),(2,.ptr k 0 0)]) (H1:=[(k+2,⟨6,aB,[[aD (aP aC 0 0),aD (aP aC 0 0),aD (aP aC 0 0),aD (aP aC 0 0),aD (aP aC 0 0),aD (aP aC 0 0)]]⟩),(k+1,⟨7,aB,[b.cells]⟩),(k,⟨7,aB,[a.cells]⟩),(k+3,⟨6,aF,[[c0,c1,c2,v3,c4,aD (aP aC 0 0)]]⟩)]) (wV (fB (@b0) (@l0) (@o0) (@s0) (@b1) (@l1) (@o1) (@s1) (fB (@b2) (@l2) (@o2) (@s2) (@b3) (@l3) (@o3) (@s3) (pJ (@b4) (@l4) (@o4) (@s4)))))) (aZS a b hns gns hnk hsp hsp' k c0 c1 c2 v3 c4 h0 h1 h2 hv3.1 h4 z5 Q3 (hQ v3 Q3 hv3))
 refine⟨aB,_,rfl,gG ?_⟩;refine sP λ ht=>?_;obtain⟨q,eq⟩:=xE e.1;obtain⟨v,ev⟩:=xE e.2.1;obtain⟨T,eT⟩:=xE (acc.map nR);have hTl:T.length<=1000:=by rw[eT,dG];omega
 rw[<-eT];refine cl [.raw (aA 110) ⟨.tup [q,.lit v],k+11,[],[k+9,k+7]⟩] ?_;refine iA ?_ ?_;.rw[eq,ev];exact RB (l:=l) (seen:=seen) (e:=e) (since:=a.nt) (clock:=a.nt) rfl rfl (by first|(simp-dsimp-implicitDefEqProofs only[go_sem,b0,l0,o0,s0,b1,l1,o1,s1,b2,l2,o2,s2,b4,l4,o4,s4,aQ,Flt.row,↓reduceIte];done)|(simp-dsimp-implicitDefEqProofs only[go_sem,b0,l0,o0,s0,b1,l1,o1,s1,b2,l2,o2,s2,b4,l4,o4,s4,aQ,Flt.row,↓reduceIte];rfl)) (by first|(simp-dsimp-implicitDefEqProofs only[go_sem,b0,l0,o0,s0,b1,l1,o1,s1,b2,l2,o2,s2,b4,l4,o4,s4,aQ,Flt.row,↓reduceIte];done)|(simp-dsimp-implicitDefEqProofs only[go_sem,b0,l0,o0,s0,b1,l1,o1,s1,b2,l2,o2,s2,b4,l4,o4,s4,aQ,Flt.row,↓reduceIte];rfl)) (lK.1 he).1 hst
 refine jI ?_;refine⟨(seen++[e.2.2],acc++[e.1]),aHM hst hF he,aYY hst he,?_⟩;rw[aQ,<-eT,bN,bV,<-eq];refine gG ?_;exact FI (k+12) (k+10) (wV (fB (@b0) (@l0) (@o0) (@s0) (@b1) (@l1) (@o1) (@s1) (xG (@b2) (@l2) (@o2) (@s2) (@b4) (@l4) (@o4) (@s4))))
def aSU(x y:Tk):aFK x y= !(x.id==y.id&&(x.group==y.group&&(x.weight==y.weight&&(x.cpu==y.cpu&&(x.mask==y.mask&&(x.ready==y.ready&&(x.v==y.v&&x.r==y.r))))))):=by simp only[aFK,decide_not,Bool.decide_and];rfl
def aVF(hf:CF a (b.tsk i).id=aA j)(h:aFK (a.tsk j) (b.tsk i)=aB):mY a b i=[b.tsk i]:=by rw[mY,aVH,hf];simp only[h];rfl
def aVG(hf:CF a (b.tsk i).id=aA j)(h:aFK (a.tsk j) (b.tsk i)=aF):mY a b i=[]:=by rw[mY,aVH,hf];simp only[h];rfl
def a4H{ev:Operand->Option AVal}{get:Nat->Option Blk}{id:Nat}(hf:CF a (b.tsk i).id=aC)(h:AM.Good aG Γ o ev get k ⟨.tup [v,aD (bC (CF a (b.tsk i).id).isSome)],k,[],[id]⟩):AM.Good aG Γ o ev get k ⟨.tup [v,aF],k,[],[id]⟩:=by rw[hf]at h;exact h
def aVW{ev:Operand->Option AVal}{get:Nat->Option Blk}{id:Nat}(hf:CF a (b.tsk i).id=aA j)(h:AM.Good aG Γ o ev get k ⟨.tup [v,aD (bC (CF a (b.tsk i).id).isSome)],k,[],[id]⟩):AM.Good aG Γ o ev get k ⟨.tup [v,aB],k,[],[id]⟩:=by rw[hf]at h;exact h
attribute [local go_sem] tR
def aZU(a b:St)(ha:IdOk a)(hb:IdOk b)(hnt:a.nt<=1000)(hnt':b.nt<=1000)(hns:a.ns<=12)(gns:b.ns=a.ns)(hnk:a.nk<=12)(hsp:∀g,g<a.ns->a.nsp g=a.nk)(hsp':∀g,g<a.ns->b.nsp g=a.nk)(k:Nat)(c0 c1 c2:AVal)(h0:Nm c0)(h1:Nm c1)(h2:Nm c2)(z3 z4 z5:Bool)(Q:AQ)
 (hQ:∀v4 Q4,FL z4 (k+8) 8 ((iH (mY a b) b.nt).map tR) v4 Q Q4->∀v3 Q3,FL z3 (k+10) 1 ((CE a b).map nR) v3 Q4 Q3->∀v Q',FL z5 (k+11) 5 ((iH (λ g=>iH (qJ a b g) a.nk) a.ns).map pR) v Q3 Q'->Q' .ret (k+12) [(5,(0:Int)),(4,.ptr (k+2) 0 0)] [(k+2,⟨6,aB,[[c0,c1,c2,v3,v4,v]]⟩)]):
 W aG Γ 139 k (gV (gD a7K) [1,1,1,1,1,1,1,1]) Q (k+7) [(10,.ptr (k+3) 0 0),(5,(0:Int)),(4,.ptr (k+2) 0 0),(3,.ptr (k+1) 0 0),(2,.ptr k 0 0)] [(k+2,⟨6,aB,[[(),(),(),(),(),()]]⟩),(k+1,⟨7,aB,[b.cells]⟩),(k,⟨7,aB,[a.cells]⟩),(k+3,⟨6,aF,[[c0,c1,c2,(),(),()]]⟩)]:=by
 obtain⟨b0,l0,o0,s0⟩:=id h0;obtain⟨b1,l1,o1,s1⟩:=id h1;obtain⟨b2,l2,o2,s2⟩:=id h2;simp only[go_sem]at l0 o0 l1 o1 l2 o2;have kp:=kN k [0,1,2,3,4,5,6,7,9,10,11,13,15,16,17,18,19,20,28,30,31,32,33,39,64,65,66,67,76,77,78,79,95,107,109,122,123,124,125];have uU:=fB @b0 l0 o0 s0 b1 l1 o1 s1 (pJ b2 l2 o2 s2);refine jI ?_;refine cl [.raw (aA 62) ⟨.mp (k+7),k+8,[(k+7,aA ⟨3,aB,CC (pD a 0) 0⟩)],[]⟩] ?_;refine iA ?_ ?_;.exact QD .i64 rfl
 refine aAD rfl [0,1,2,3,4,5,6,7,9,10,11,13,15,16,17,18,19,20,28,30,31,32,33,39,64,65,66,67,76,77,78,79,95,107,109,122,123,124,125] (k+9) [] [(k+7,⟨3,aB,CC (KK a b 0) a.nt⟩),(k+2,⟨6,aB,[[(),(),(),(),(),()]]⟩),(k+1,⟨7,aB,[b.cells]⟩),(k,⟨7,aB,[a.cells]⟩),(k+3,⟨6,aF,[[c0,c1,c2,(),(),()]]⟩)] ?_ ?_
 .refine jI ?_;refine cD (X:=Nat) rfl [0,1,2,3,4,5,6,7,9,10,11,13,15,16,17,18,19,20,28,30,31,32,33,39,64,65,66,67,76,77,78,79,95,107,109,122,123,124,125] (k+8) (λ i=>[(66,i)]) (λ i=>[(k+7,⟨3,aB,CC (pD a i) i⟩),(k+2,⟨6,aB,[[(),(),(),(),(),()]]⟩),(k+1,⟨7,aB,[b.cells]⟩),(k,⟨7,aB,[a.cells]⟩),(k+3,⟨6,aF,[[c0,c1,c2,(),(),()]]⟩)]) (λ i=>i<=a.nt) (λ i=>a.nt-i) 0 ?_ (bF _) ?_;.refine gG ?_;(have uU:=fB @b0 l0 o0 s0 b1 l1 o1 s1 (pJ b2 l2 o2 s2);exact pK)
  intro i hi;refine gG ?_;refine wl ?_;refine pN (λ ht=>?_) λ ht=>?_
  .refine cl [.raw aC ⟨.junk,k+9,[(k+7,aA ⟨3,aB,CC (pD a (i+1)) (i+1)⟩)],[k+7]⟩] ?_;refine iA ?_ ?_;.exact bAK ha oO rfl rfl rfl rfl (sV uU)
   refine jI ?_;refine⟨i+1,oO,oO,?_⟩;(have uU:=fB @b0 l0 o0 s0 b1 l1 o1 s1 (pJ b2 l2 o2 s2);exact pK)
  have hin:i=a.nt:=oO;subst hin;rw[<-aWF (b:=b)];(have uU:=fB @b0 l0 o0 s0 b1 l1 o1 s1 (pJ b2 l2 o2 s2);exact pK)
 refine gG ?_;refine aAD rfl [0,1,2,3,4,5,6,7,9,10,11,13,15,16,17,18,19,20,28,30,31,32,33,39,64,65,66,67,76,77,78,79,95,107,109,122,123,124,125] (k+9) [] (cM (k+8) 8 ((iH (mY a b) b.nt).map tR) [(k+7,⟨3,aB,CC (KK a b b.nt) a.nt⟩),(k+2,⟨6,aB,[[(),(),(),(),(),()]]⟩),(k+1,⟨7,aB,[b.cells]⟩),(k,⟨7,aB,[a.cells]⟩),(k+3,⟨6,aF,[[c0,c1,c2,(),dI (k+8) ((iH (mY a b) b.nt).map tR),()]]⟩)]) ?_ ?_
 .refine jI ?_;refine cD (X:=Nat) rfl [0,1,2,3,4,5,6,7,9,10,11,13,15,16,17,18,19,20,28,30,31,32,33,39,64,65,66,67,76,77,78,79,95,107,109,122,123,124,125] (k+9) (λ i=>[(78,i)]) (λ i=>cM (k+8) 8 ((iH (mY a b) i).map tR) [(k+7,⟨3,aB,CC (KK a b i) a.nt⟩),(k+2,⟨6,aB,[[(),(),(),(),(),()]]⟩),(k+1,⟨7,aB,[b.cells]⟩),(k,⟨7,aB,[a.cells]⟩),(k+3,⟨6,aF,[[c0,c1,c2,(),dI (k+8) ((iH (mY a b) i).map tR),()]]⟩)]) (λ i=>i<=b.nt) (λ i=>b.nt-i) 0 ?_ (bF _) ?_;.rw[zC,bV];refine gG ?_;(have uU:=fB @b0 l0 o0 s0 b1 l1 o1 s1 (pJ b2 l2 o2 s2);exact pK)
  intro i hi;have hfl:=lH (KF a b) i;obtain⟨l,el,hl⟩:∃x,x=((iH (mY a b) i).map tR)/\x.length<=i:=⟨_,rfl,by simp;omega⟩;have es:((iH (mY a b) (i+1)).map tR)=l++(mY a b i).map tR:=by rw[wJ,aQ,<-el]
  rw[<-el];refine gG ?_;refine wl ?_;refine pN (λ ht=>?_) λ ht=>?_
  .obtain⟨T,eT⟩:=xE (aOK a (b.tsk i).id)
   cases hf:CF a (b.tsk i).id with
   |none=>
    have hn:mY a b i=[b.tsk i]:=by rw[mY,aVH,hf];rfl
    refine cl [.raw (aA 86) ⟨.tup [.agg (tR T),aF],k+10,[],[k+7]⟩] ?_;refine iA ?_ ?_;.rw[eT];exact a4H hf (aLP (c:=a.nt) ha hb oO rfl rfl rfl (sV uU))
    refine sP λ ht=>?_;refine cl [.raw aC ⟨.lit (.tuple #[]),k+13,[(k+7,aA ⟨3,aB,CC (KK a b (i+1)) a.nt⟩)],[k+7]⟩] ?_;refine iA ?_ ?_;.exact aIL (c:=a.nt) ha hb oO rfl rfl rfl (sV uU)
    refine jI ?_;refine⟨i+1,oO,oO,?_⟩;rw[es,hn,bN,bV];refine gG ?_;exact FI (k+12) (k+8) (wV (fB (@b0) (@l0) (@o0) (@s0) (@b1) (@l1) (@o1) (@s1) (pJ (@b2) (@l2) (@o2) (@s2))))
   |some j=>
    obtain⟨hj,hid⟩:=OE hf;have eT2:T=a.tsk j:=by rw[eT,aOK,hf]
    refine cl [.raw (aA 86) ⟨.tup [.agg (tR T),aB],k+10,[],[k+7]⟩] ?_;refine iA ?_ ?_;.rw[eT];exact aVW hf (aLP (c:=a.nt) ha hb oO rfl rfl rfl (sV uU))
    refine wl ?_;refine pN (λ ht=>?_) λ ht=>?_
    .have hn:mY a b i=[b.tsk i]:=aVF hf (by rw[aSU,<-eT2,ht];rfl);refine cl [.raw aC ⟨.lit (.tuple #[]),k+13,[(k+7,aA ⟨3,aB,CC (KK a b (i+1)) a.nt⟩)],[k+7]⟩] ?_;refine iA ?_ ?_;.exact aIL (c:=a.nt) ha hb oO rfl rfl rfl (sV uU)
     refine jI ?_;refine⟨i+1,oO,oO,?_⟩;rw[es,hn,bN,bV];refine gG ?_;exact FI (k+12) (k+8) (wV (fB (@b0) (@l0) (@o0) (@s0) (@b1) (@l1) (@o1) (@s1) (pJ (@b2) (@l2) (@o2) (@s2))))
    have hn:mY a b i=[]:=aVG hf (by rw[aSU,<-eT2,ht];rfl);refine cl [.raw aC ⟨.lit (.tuple #[]),k+11,[(k+7,aA ⟨3,aB,CC (KK a b (i+1)) a.nt⟩)],[k+7]⟩] ?_;refine iA ?_ ?_;.exact aIL (c:=a.nt) ha hb oO rfl rfl rfl (sV uU)
    refine jI ?_;refine⟨i+1,oO,oO,?_⟩;rw[es,hn,bV,cX];refine gG ?_;(have uU:=fB @b0 l0 o0 s0 b1 l1 o1 s1 (pJ b2 l2 o2 s2);exact pK)
  have hin:i=b.nt:=oO;subst hin;rw[el];(have uU:=fB @b0 l0 o0 s0 b1 l1 o1 s1 (pJ b2 l2 o2 s2);exact pK)
 refine gG ?_;refine a7I z4 (id:=k+8) (s:=8) (D:=k+3) (sz:=6) (l:=(iH (mY a b) b.nt).map tR) (row:=[c0,c1,c2,aD (aP aC 0 0),dI (k+8) ((iH (mY a b) b.nt).map tR),aD (aP aC 0 0)]) 4 [(11,.mp (k+7)),(10,.ptr (k+3) 0 0),(5,(0:Int)),(4,.ptr (k+2) 0 0),(3,.ptr (k+1) 0 0),(2,.ptr k 0 0)] [(k+7,⟨3,aB,CC (KK a b b.nt) a.nt⟩),(k+2,⟨6,aB,[[(),(),(),(),(),()]]⟩),(k+1,⟨7,aB,[b.cells]⟩),(k,⟨7,aB,[a.cells]⟩)] oO (sV uU) rfl (sV uU) (sV uU) (sV uU) (sV uU) (λ v4 Q4 hv4=>?_);obtain⟨b4,l4,o4,s4⟩:=id hv4.1;simp only[go_sem]at l4 o4;refine gW (nC (k1:=k+9) (fr1:=[(11,.mp (k+7)),(10,.ptr (k+3) 0 0),(5,aD (aE aH 0)),(4,.ptr (k+2) 0 0),(3,.ptr (k+1) 0 0),(2,.ptr k 0 0)]) (H1:=[(k+7,⟨3,aB,CC (KK a b b.nt) a.nt⟩),(k+2,⟨6,aB,[[aD (aP aC 0 0),aD (aP aC 0 0),aD (aP aC 0 0),aD (aP aC 0 0),aD (aP aC 0 0),aD (aP aC 0 0)]]⟩),(k+1,⟨7,aB,[b.cells]⟩),(k,⟨7,aB,[a.cells]⟩),(k+3,⟨6,aF,[[c0,c1,c2,aD (aP aC 0 0),v4,aD (aP aC 0 0)]]⟩)]) (wV (fB (@b0) (@l0) (@o0) (@s0) (@b1) (@l1) (@o1) (@s1) (xG (@b2) (@l2) (@o2) (@s2) (@b4) (@l4) (@o4) (@s4))))) ?_;have uU:=fB @b0 l0 o0 s0 b1 l1 o1 s1 (xG b2 l2 o2 s2 @b4 l4 o4 s4);refine jI ?_;exact aZT a b ha hb hnt hns gns hnk hsp hsp' k c0 c1 c2 v4 h0 h1 h2 hv4.1 z3 z5 Q4 (hQ v4 Q4 hv4)
attribute [local go_sem] tR nR
def VK(a b:St)(i:Nat):(VM a b i).length<=1:=IG _ _
def aEI(a b:St)(hq:PreOk a)(hq':PreOk b)(hk:Kinds a)(hk':Kinds b)(z0 z3 z4 z5:Bool)(k:Nat)(Q:Nat->AVal->aS->Prop)
 (hE:yF a b≠0->∀k1 r1 H1,VLe r1 (.tup [.agg (btw a b).cells,(yF a b)])->Q k1 r1 H1)
 (hQ:yF a b=0->∀v0 Q0,FL z0 (k+4) 2 ((btw a b).ck.map mI) v0 (AG aG a7K Q) Q0->∀v4 Q4,FL z4 (k+8) 8 ((btw a b).tk.map tR) v4 Q0 Q4->∀v3 Q3,FL z3 (k+10) 1 ((btw a b).gn.map nR) v3 Q4 Q3->∀v Q5,FL z5 (k+11) 5 ((btw a b).sp.map pR) v Q3 Q5→
   Q5 .ret (k+12) [(5,(0:Int)),(4,.ptr (k+2) 0 0)] [(k+2,⟨6,aB,[[v0,rows 2 ((btw a b).cu.map mI),rows 2 ((btw a b).wg.map mI),v3,v4,v]]⟩)]):
 W aG Γ 139 k (gV (gD a7K) []) (AG aG a7K Q) k (tU 0 [.agg a.cells,.agg b.cells]) []:=by
 obtain⟨⟨hng,hnk,hnu,hnt,hns,hnsp⟩,h12,hp12⟩:=id hq;obtain⟨⟨hng',hnk',hnu',hnt',hns',hnsp'⟩,h12',hp12'⟩:=id hq';obtain⟨F,eF⟩:=xE (vU a b);obtain⟨S,eS⟩:=xE (CM a b);have kp:=kN k [0,1,2,3,4,5,6,7,9,10,11,13,15,16,17,18,19,20,28,30,31,32,33,39,64,65,66,67,76,77,78,79,95,107,109,122,123,124,125];refine jI ?_;refine cl [.ret (.tup [.rd 3 F.length (λ j=>Flt.row (F.getD j zF)),S])] ?_;refine iA ?_ ?_;.rw[eF,eS];exact bIX a b hq hq' hk hk'
 by_cases hbad:uO a b
 .have hS:S=320:=by rw[eS,CM,iP hbad]
  subst hS;refine sP λ ht=>?_;refine cR ?_;obtain⟨h1,h2⟩:=a6N hbad;rw[h1,h2]at hE;exact hE dC _ _ _ (FC (.cons (BH (aLB rfl)) (.cons (bL _) .nil)))
 have hS:S=0:=by rw[eS,CM,iN hbad]
 subst hS;by_cases hal:SS a b a.ng=aF
 .obtain⟨h1,h2⟩:=aRJ hbad hal;have hF:F=[⟨17,0,0⟩]:=by rw[eF,vU,iN hbad,iP hal]
  have hFl:F.length=1:=by rw[hF];rfl
  have hF0:(F.getD 0 zF).r=17:=by rw[hF];rfl
  have uU:= @Flt.row.eq_1;refine sP λ ht=>?_;refine cD (X:=Nat) rfl [0,1,2,3,4,5,6,7,9,10,11,13,15,16,17,18,19,20,28,30,31,32,33,39,64,65,66,67,76,77,78,79,95,107,109,122,123,124,125] (k+3) (λ i=>[(32,i)]) (λ i=>[(k+2,⟨6,aB,[[(),(),(),(),(),()]]⟩),(k+1,⟨7,aB,[b.cells]⟩),(k,⟨7,aB,[a.cells]⟩)]) (λ i=>i=0) (λ i=>0) 0 ?_ rfl ?_;.refine gG ?_;exact nC wL
  rintro i rfl;refine gG ?_;refine sP λ ht=>?_;refine cl [.ret (aD (dN ⟨#[111,116,104,101,114]⟩))] ?_;refine iA ?_ ?_;.rw[hF0];exact bLU
  refine sP λ ht=>?_;have uU:= @Flt.row.eq_1;refine cR ?_;rw[h1,h2]at hE;exact hE dC _ _ _ (FC (.cons (BH (aLB rfl)) (.cons (bL _) .nil)))
 have hall:SS a b a.ng=aB:=by simpa using hal
 obtain⟨h1,h2⟩:=bCV hbad hall;have hF:F=uK a b:=by rw[eF,vU,iN hbad,iN (by rw[hall];simp)]
 have hFr:∀f∈F,f.r=15\/f.r=16:=by rw[hF];exact aGN a b
 have hFl:F.length<=100000:=by rw[eF];exact aFR a b hq
 have hwa:(dR a).length=0:=by unfold uO at hbad;omega
 have hwb:(dR b).length=0:=by unfold uO at hbad;omega
 obtain⟨gnk,gns,gnsp⟩:=aER hwa hwb hall;have gna:a.nu=a.nk/\b.nu=a.nk/\b.ng=a.ng/\a.ns=a.ng/\∀g,g<a.ns->a.nsp g=a.nk:=by obtain⟨_,ha⟩:=oB hwa;obtain⟨_,hb⟩:=oB hwb;obtain⟨h1,h2,h3,h4⟩:=shapes_nil ha;obtain⟨k1,k2,k3,k4⟩:=shapes_nil hb;simp only[SS,dTt]at hall;obtain⟨e1,_,e3,_⟩:=hall;exact⟨oO,oO,oO,oO,λ g hg=>by have:=h4 g hg;omega⟩
 obtain⟨gu,gu',gg,gsg,gsk⟩:=gna;have uU:= @Flt.row.eq_1;refine sP λ ht=>?_;refine cD (X:=Nat) rfl [0,1,2,3,4,5,6,7,9,10,11,13,15,16,17,18,19,20,28,30,31,32,33,39,64,65,66,67,76,77,78,79,95,107,109,122,123,124,125] (k+3) (λ i=>[(32,i)]) (λ i=>[(k+2,⟨6,aB,[[(),(),(),(),(),()]]⟩),(k+1,⟨7,aB,[b.cells]⟩),(k,⟨7,aB,[a.cells]⟩)]) (λ i=>i<=F.length) (λ i=>F.length-i) 0 ?_ (bF _) ?_;.refine gG ?_;exact nC wL
 intro i hi;refine gG ?_;refine wl ?_;refine pN (λ ht=>?_) λ ht=>?_
 .obtain⟨s,hs,hnm⟩:=bLT (Γ:=Γ) hFr (i:=i) oO;refine clA [.ret (aD (dN s))] ?_;refine wl ?_;refine pN (λ ht=>?_) λ ht=>?_;.rcases hs with rfl|rfl<;>exact absurd ht (by decide+kernel)
  exact⟨i+1,oO,oO,nC wL⟩
 obtain⟨L0,e0⟩:=xE (iH (mC a.clk b.clk) a.nk);obtain⟨L1,e1⟩:=xE (iH (mC a.cur b.cur) a.nu);obtain⟨L2,e2⟩:=xE (iH (wK a b) a.ng);refine gW (SO (k+3) (by simp-dsimp-implicitDefEqProofs only[go_sem,Flt.row,↓reduceIte];rfl)) ?_;refine gW (nC (k1:=k+4) (fr1:=[(10,.ptr (k+3) 0 0),(5,aD (aE aH 0)),(4,.ptr (k+2) 0 0),(3,.ptr (k+1) 0 0),(2,.ptr k 0 0)]) (H1:=[(k+2,⟨6,aB,[[aD (aP aC 0 0),aD (aP aC 0 0),aD (aP aC 0 0),aD (aP aC 0 0),aD (aP aC 0 0),aD (aP aC 0 0)]]⟩),(k+1,⟨7,aB,[b.cells]⟩),(k,⟨7,aB,[a.cells]⟩)]++[(k+3,⟨6,aF,[[aD (aP aC 0 0),aD (aP aC 0 0),aD (aP aC 0 0),aD (aP aC 0 0),aD (aP aC 0 0),aD (aP aC 0 0)]]⟩)]) wL) (cl [.far (.tup []) (k+5) [(k+2,⟨6,aB,[[(),(),(),(),(),()]]⟩),(k+1,⟨7,aB,[b.cells]⟩),(k,⟨7,aB,[a.cells]⟩)] [(k+3,⟨6,aF,[[(),(),(),(),(),()]]⟩)] (cM (k+4) 2 (L0.map mI) [(k+3,⟨6,aF,[[dI (k+4) (L0.map mI),(),(),(),(),()]]⟩)])] ?_);refine FN (zs ?_) (zs ?_) (zs ?_) (zs ?_);.exact λ _=>rfl
 .exact aJE (by simp only[AM.look];repeat(rw[iN oO])) (by simp only[AM.look];repeat(rw[iN oO]))
 .exact aYJ (k+4) (k+3) oO a.clk b.clk a.nk b.nk gnk hnk _ _ _ _ _ (λ _=>rfl) (λ _=>rfl) (λ _=>rfl) (λ _=>rfl) (λ _=>rfl) L0 e0
 refine a7I z0 (id:=k+4) (s:=2) (D:=k+3) (sz:=6) (l:=L0.map mI) (row:=[dI (k+4) (L0.map mI),aD (aP aC 0 0),aD (aP aC 0 0),aD (aP aC 0 0),aD (aP aC 0 0),aD (aP aC 0 0)]) 0 [(10,.ptr (k+3) 0 0),(5,(0:Int)),(4,.ptr (k+2) 0 0),(3,.ptr (k+1) 0 0),(2,.ptr k 0 0)] [(k+2,⟨6,aB,[[(),(),(),(),(),()]]⟩),(k+1,⟨7,aB,[b.cells]⟩),(k,⟨7,aB,[a.cells]⟩)] oO sL rfl sL sL sL sL (λ v0 Q0 hv0=>?_);obtain⟨b0,l0,o0,s0⟩:=id hv0.1;simp only[go_sem]at l0 o0;refine gW (nC (k1:=k+5) (fr1:=[(10,.ptr (k+3) 0 0),(5,aD (aE aH 0)),(4,.ptr (k+2) 0 0),(3,.ptr (k+1) 0 0),(2,.ptr k 0 0)]) (H1:=[(k+2,⟨6,aB,[[aD (aP aC 0 0),aD (aP aC 0 0),aD (aP aC 0 0),aD (aP aC 0 0),aD (aP aC 0 0),aD (aP aC 0 0)]]⟩),(k+1,⟨7,aB,[b.cells]⟩),(k,⟨7,aB,[a.cells]⟩)]++[(k+3,⟨6,aF,[[v0,aD (aP aC 0 0),aD (aP aC 0 0),aD (aP aC 0 0),aD (aP aC 0 0),aD (aP aC 0 0)]]⟩)]) (wV (pJ (@b0) (@l0) (@o0) (@s0)))) ?_;have uU:=GX @Flt.row.eq_1 @b0 l0 o0 s0;refine jI ?_;refine cl [.far (.tup []) (k+6) [(k+2,⟨6,aB,[[(),(),(),(),(),()]]⟩),(k+1,⟨7,aB,[b.cells]⟩),(k,⟨7,aB,[a.cells]⟩)] [(k+3,⟨6,aF,[[v0,(),(),(),(),()]]⟩)] (cM (k+5) 2 (L1.map mI) [(k+3,⟨6,aF,[[v0,dI (k+5) (L1.map mI),(),(),(),()]]⟩)])] ?_;refine FN (zs ?_) (zs ?_) (zs ?_) (zs ?_);.exact λ _=>rfl
 .exact aJE (by simp only[AM.look];repeat(rw[iN oO])) (by simp only[AM.look];repeat(rw[iN oO]))
 .exact aYI (k+5) (k+3) oO a.cur b.cur a.nu b.nu oO hnu _ _ _ _ _ b0 (λ _=>rfl) (λ _=>rfl) (λ _=>rfl) (λ _=>rfl) L1 e1
 refine gW (LE (id:=k+5) (s:=2) (D:=k+3) (sz:=6) (l:=L1.map mI) (row:=[v0,dI (k+5) (L1.map mI),aD (aP aC 0 0),aD (aP aC 0 0),aD (aP aC 0 0),aD (aP aC 0 0)]) 1 (rows 2 (L1.map mI)) [(10,.ptr (k+3) 0 0),(5,(0:Int)),(4,.ptr (k+2) 0 0),(3,.ptr (k+1) 0 0),(2,.ptr k 0 0)] [(k+2,⟨6,aB,[[(),(),(),(),(),()]]⟩),(k+1,⟨7,aB,[b.cells]⟩),(k,⟨7,aB,[a.cells]⟩)] oO (sV (pJ (@b0) (@l0) (@o0) (@s0))) rfl (sV (pJ (@b0) (@l0) (@o0) (@s0))) (bL _) (sV (pJ (@b0) (@l0) (@o0) (@s0))) (sV (pJ (@b0) (@l0) (@o0) (@s0))) (sV (pJ (@b0) (@l0) (@o0) (@s0)))) (gW (nC (k1:=k+6) (fr1:=[(10,.ptr (k+3) 0 0),(5,aD (aE aH 0)),(4,.ptr (k+2) 0 0),(3,.ptr (k+1) 0 0),(2,.ptr k 0 0)]) (H1:=[(k+2,⟨6,aB,[[aD (aP aC 0 0),aD (aP aC 0 0),aD (aP aC 0 0),aD (aP aC 0 0),aD (aP aC 0 0),aD (aP aC 0 0)]]⟩),(k+1,⟨7,aB,[b.cells]⟩),(k,⟨7,aB,[a.cells]⟩)]++[(k+3,⟨6,aF,[[v0,rows 2 (L1.map mI),aD (aP aC 0 0),aD (aP aC 0 0),aD (aP aC 0 0),aD (aP aC 0 0)]]⟩)]) (wV (pJ (@b0) (@l0) (@o0) (@s0)))) (jI ?_));refine cl [.far (.tup []) (k+7) [(k+2,⟨6,aB,[[(),(),(),(),(),()]]⟩),(k+1,⟨7,aB,[b.cells]⟩),(k,⟨7,aB,[a.cells]⟩)] [(k+3,⟨6,aF,[[v0,rows 2 (L1.map mI),(),(),(),()]]⟩)] (cM (k+6) 2 (L2.map mI) [(k+3,⟨6,aF,[[v0,rows 2 (L1.map mI),dI (k+6) (L2.map mI),(),(),()]]⟩)])] ?_;refine FN (zs ?_) (zs ?_) (zs ?_) (zs ?_);.exact λ _=>rfl
 .exact aJE (by simp only[AM.look];repeat(rw[iN oO])) (by simp only[AM.look];repeat(rw[iN oO]))
 .exact aYH (k+6) (k+3) oO a b a.ng b.ng oO hng _ _ _ _ _ b0 (λ _=>rfl) (λ _=>rfl) (λ _=>rfl) (λ _=>rfl) L2 e2
 refine gW (LE (id:=k+6) (s:=2) (D:=k+3) (sz:=6) (l:=L2.map mI) (row:=[v0,rows 2 (L1.map mI),dI (k+6) (L2.map mI),aD (aP aC 0 0),aD (aP aC 0 0),aD (aP aC 0 0)]) 2 (rows 2 (L2.map mI)) [(10,.ptr (k+3) 0 0),(5,(0:Int)),(4,.ptr (k+2) 0 0),(3,.ptr (k+1) 0 0),(2,.ptr k 0 0)] [(k+2,⟨6,aB,[[(),(),(),(),(),()]]⟩),(k+1,⟨7,aB,[b.cells]⟩),(k,⟨7,aB,[a.cells]⟩)] oO (sV (pJ (@b0) (@l0) (@o0) (@s0))) rfl (sV (pJ (@b0) (@l0) (@o0) (@s0))) (bL _) (sV (pJ (@b0) (@l0) (@o0) (@s0))) (sV (pJ (@b0) (@l0) (@o0) (@s0))) (sV (pJ (@b0) (@l0) (@o0) (@s0)))) (gW (nC (k1:=k+7) (fr1:=[(10,.ptr (k+3) 0 0),(5,aD (aE aH 0)),(4,.ptr (k+2) 0 0),(3,.ptr (k+1) 0 0),(2,.ptr k 0 0)]) (H1:=[(k+2,⟨6,aB,[[aD (aP aC 0 0),aD (aP aC 0 0),aD (aP aC 0 0),aD (aP aC 0 0),aD (aP aC 0 0),aD (aP aC 0 0)]]⟩),(k+1,⟨7,aB,[b.cells]⟩),(k,⟨7,aB,[a.cells]⟩)]++[(k+3,⟨6,aF,[[v0,rows 2 (L1.map mI),rows 2 (L2.map mI),aD (aP aC 0 0),aD (aP aC 0 0),aD (aP aC 0 0)]]⟩)]) (wV (pJ (@b0) (@l0) (@o0) (@s0)))) ?_);have ha:=AL hwa;have hb:=AL hwb;have hg1:1<=a.ng:=(iJ (oB hwa).1).1.2.2.2.1;have hQ:=hQ h2;rw[h1]at hQ;refine aZU a b ha hb hnt hnt' h12 gns (by rw[<-gsk 0 oO];exact hp12 0 oO) gsk (λ g hg=>by rw[gnsp g hg,gsk g hg]) k _ _ _ hv0.1 (.rows _ _) (.rows _ _) z3 z4 z5 Q0 ?_;rw[e0]at hv0;have hQ:=hQ v0 Q0 hv0;rw[e1,e2,gu];exact hQ
def aNN(a b:St)(hq:PreOk a)(hq':PreOk b)(hk:Kinds a)(hk':Kinds b):AM.Pure aG Γ 21 [.agg a.cells,.agg b.cells] (.tup [.agg (btw a b).cells,(yF a b)]):=by refine cA Tryz.func21 rfl 139 rfl bB rfl λ k=>aEI a b hq hq' hk hk' aF aF aF aF k _ (λ _ _ _ _ h=>h) (λ he v0 Q0 h0 v4 Q4 h4 v3 Q3 h3 v Q5 h5=>?_);obtain⟨rfl,rfl⟩:=h0.no;obtain⟨rfl,rfl⟩:=h4.no;obtain⟨rfl,rfl⟩:=h3.no;obtain⟨rfl,rfl⟩:=h5.no;refine gG ?_;refine⟨_,rfl,?_⟩;rw[he];exact bL _
def aDP(d:DE):eqD d d=aB:=by unfold eqD;rw[kQ rfl (λ i _=>cV_iff.2 rfl),kQ rfl (λ i _=>cV_iff.2 rfl),kQ rfl (λ i _=>cV_iff.2 rfl),kQ rfl (λ i _=>sS),kQ rfl (λ i _=>cT_iff.2 rfl),kQ rfl (λ i _=>cP_iff.2 rfl)];rfl
def qP(x:Dl):DE:=⟨x.ck.length,x.cu.length,x.wg.length,x.gn.length,x.tk.length,x.sp.length,λ i=>x.ck.getD i (0,0),λ i=>x.cu.getD i (0,0),λ i=>x.wg.getD i (0,0),λ i=>x.gn.getD i 0,λ i=>x.tk.getD i zT,λ i=>x.sp.getD i (0,0,⟨0,0,0⟩)⟩
def pY{α:Type}(s:Nat)(f:α->List AVal)(z:α)(l:List α):VLe (rows s (l.map f)) (.rd s l.length (λ i=>f (l.getD i z))):=by rw[rows,dG];exact VLe.rd λ i hi=>by simp[aU,hi]
def bCN(x:Dl):VLe (.agg x.cells) (.agg (qP x).cells):=
 BH (.cons (pY _ _ _ _) (.cons (pY _ _ _ _) (.cons (pY _ _ _ _) (.cons (pY _ _ _ _) (.cons (pY _ _ _ _) (.cons (pY _ _ _ _) .nil))))))
def aZL(hq:PreOk a)(hq':PreOk b)(hnk:a.nk<=1000):(qP (btw a b)).size<=20000:=by
 obtain⟨⟨hng,_,hnu,hnt,hns,hnsp⟩,h12,hp12⟩:=id hq;have hnt':=hq'.sm.nt;have h0:∀x:Dl,(qP x).size=x.ck.length+x.cu.length+x.wg.length+x.gn.length+x.tk.length+x.sp.length:=λ _=>rfl;rw[h0];unfold btw;split;.simp[noDl]
 split;.simp[noDl]
 have l0:=lH (zE a.clk b.clk) a.nk;have l1:=lH (zE a.cur b.cur) a.nk;have l2:=lH (RG a b) a.ng;have l3:=lH (VK a b) a.nt;have l4:=lH (KF a b) b.nt;have l5:=QS a b a.nk a.ns;have l6:a.ns*a.nk<=12*1000:=Nat.mul_le_mul h12 hnk;simp only[GM,CE];omega
def WE(a b:St)(hq:PreOk a)(hq':PreOk b)(hk:Kinds a)(hk':Kinds b):AM.Pure aG Γ 21 [.agg a.cells,.agg b.cells] (.tup [.agg (qP (btw a b)).cells,(yF a b)]):=
 SM (aNN a b hq hq' hk hk') (FC (.cons (bCN _) (.cons (bL _) .nil)))
end Go.Proofs.T
end
section
namespace Go.Proofs.T
open Go Go.AM Go.Proofs
variable{α:Type}{l:List α}{v:Nat->α}{x:α}{n:Nat}
def XP(v:Nat->α)(n:Nat):(pre v n).length=n:=by simp[pre]
def bAO{i:Nat}{z:α}(h:i<n):(pre v n).getD i z=v i:=by simp[pre,aU,h]
def mem_pre:x∈pre v n↔∃i,i<n/\v i=x:=by simp[pre]
def bAN(z:α):l=pre v n↔l.length=n/\∀i,i<n->l.getD i z=v i:=by
 constructor;.rintro rfl;exact⟨XP v n,λ i hi=>bAO hi⟩
 rintro⟨h1,h2⟩;refine fF λ i=>?_;by_cases hi:i<n;.have:=h2 i hi;rw[AP oO]at this;rw[aN oO,this];simp[pre,hi]
 rw[bE oO,bE (by rw[XP];omega)]
def CG(d:DE):Dl:=⟨pre d.ck d.n0,pre d.cu d.n1,pre d.wg d.n2,pre d.gn d.n3,pre d.tk d.n4,pre d.sp d.n5⟩
def EW(z:α){c:α->α->Bool}(hc:∀x y,c x y=aB↔x=y):pE l.length n (λ i=>c (l.getD i z) (v i))=aB↔l=pre v n:=by
 rw[aMX,bAN z];constructor;.rintro⟨h1,h2⟩;exact⟨h1,λ i hi=>(hc _ _).1 (h2 i oO)⟩
 rintro⟨h1,h2⟩;exact⟨h1,λ i hi=>(hc _ _).2 (h2 i oO)⟩
def YZ(x:Dl)(d:DE):eqD (qP x) d=aB↔x=CG d:=by obtain⟨ck,cu,wg,gn,tk,sp⟩:=x;unfold eqD qP CG;simp only[aO,Dl.mk.injEq];rw[EW (0,0) (λ _ _=>cV_iff),EW (0,0) (λ _ _=>cV_iff),EW (0,0) (λ _ _=>cV_iff),EW zT (λ _ _=>cT_iff),EW (0,0,⟨0,0,0⟩) (λ _ _=>cP_iff),EW (c:=λ a b=>a==b) (0:Int) (λ a b=>sS)]
def a0F[DecidableEq α]{f:Nat->α}:nI (λ i=>decide (x=f i)) n=decide (x∈pre f n):=by rw[eY,anyB_iff];simp only[dTt,mem_pre];exact⟨λ⟨i,h1,h2⟩=>⟨i,h1,h2.symm⟩,λ⟨i,h1,h2⟩=>⟨i,h1,h2.symm⟩⟩
def aPX(s:St)(d:DE):(sQ s).filter (λ t=> !uN d t)=FP (sQ s) (CG d).gn (CG d).tk:=by
 unfold FP;refine bJJ λ t _=>?_;unfold uN;rw[Bool.not_or];congr 1;.rw[a0F];congr 1;rw[eY];simp[CG]
 congr 1
 have e:nI (λ i=>decide ((d.tk i).id=t.id)) d.n4=aB↔CD (CG d).tk t.id:=by
  rw[anyB_iff];constructor;.rintro⟨i,h1,h2⟩;exact⟨d.tk i,mem_pre.2 ⟨i,h1,rfl⟩,of_decide_eq_true h2⟩
  rintro⟨t',h1,h2⟩;obtain⟨i,h3,h4⟩:=mem_pre.1 h1;exact⟨i,h3,decide_eq_true (by rw[h4];exact h2)⟩
 rw[eY,e,dTt]
end Go.Proofs.T
end
section
namespace Go.Proofs.T
open Go Go.Lib
def VH:∀(a s:List UInt8),(32:UInt8)∉a->index (a++32::s) [32]=(a.length:Int)
 |[],s,_=>by simp[index]
 |c::a,s,h=>by have hc:c≠32:=λ e=>h (by simp[e]);have ih:=VH a s (λ e=>h (by simp[e]));simp only[bA,index];rw[iN (by simp[Ne.symm hc]),ih,iN sS];simp
def QP:∀(a:List UInt8),(32:UInt8)∉a->index a [32]= -1
 |[],_=>by simp[index]
 |c::a,h=>by have hc:c≠32:=λ e=>h (by simp[e]);have ih:=QP a (λ e=>h (by simp[e]));simp only[index];rw[iN (by simp[Ne.symm hc]),ih,iP sS]
def aOQ{a:List UInt8}(h:(32:UInt8)∉a):split a [32]=[a]:=by unfold split;rw[count_miss (QP a h)];rfl
def aFT{a s:List UInt8}(h:(32:UInt8)∉a):split (a++32::s) [32]=a::split s [32]:=by
 have hi:=VH a s h;have hd:(a++32::s).drop (a.length+[(32:UInt8)].length)=s:=by rw[<-List.drop_drop,List.drop_left];rfl
 unfold split;rw[count_hit sS hi,hd,bQQ,splitK,hi,iN sS];simp only[bW,kG,List.take_left];rw[hd]
def aWL(b:Nat->Bool):Nat->Nat->Nat
 |0,c=>c
 |f+1,c=>if b (c+1)=aB then aWL b f (c+1)else c
def aUD(b:Nat->Bool):Nat->Nat->List (Nat×Nat)
 |0,_=>[]
 |f+1,c=>if c<64 then(if b c=aB then(c,aWL b 64 c)::aUD b f (aWL b 64 c+1)else aUD b f (c+1))else []
end Go.Proofs.T
end
section
namespace Go.AM
open Go Go.RowKit Go.Proofs Go.Shelf
abbrev str(l:List UInt8):ByteArray:=⟨l.toArray⟩
def aTE(b:ByteArray):str b.data.toList=b:=rfl
def a2J(l:List (List UInt8)):AVal:= .rd 1 l.length (λ i=>[.lit (.string (str (l.getD i [])))])
def RX(l:List UInt8):Int:=match Lib.atoiAll l with
 | .ok v=>v
 | .range=>Lib.atoiSat l
 |_=>0
section
variable{P:Program}{ρ:Ren}{Γ:dW}
def aSB(L:LaysM.n171 P ρ){g:Nat}(hg:P.globalNamed "internal/strconv.uint64pow10"=aA g)(hΓ:look Γ g=aA (Lib.pow10Tab.map λ z=> .lit (.int .u64 z)))(n:Int)
 (h0: -9223372036854775808<=n) (h1:n<=9223372036854775807):Pure P Γ (ρ.f 171) [.lit (.int .i64 n)] (.lit (.string (str (Lib.itoa n)))):=
 mV rfl λ w G args hG hv=>by rw[aJO hv];refine(Any.strconv_Itoa L n h0 h1 w ((hG g _ hΓ).tab hg)).mono ?_;rintro e w' ⟨rfl,k,os,rfl⟩;refine⟨_,rfl,⟨rfl,rfl,rfl,by first|(simp[Sort.grow];done)|(simp[Sort.grow];omega),λ i hi=>?_⟩,.lit⟩;show((w.drewN k).heap++os)[i]? =_;rw[fH (by show i<w.heap.size;omega)];rfl
def aJP{w:World}{G:Nat->Prop}{ρ:dH}{A:cF}{n:Int}{x:Value}:V w G ρ A (.tup [.lit (.int .i64 n),.junk]) (.tuple #[.int .i64 n,x]):=by
 refine .tup rfl λ j v hj=>?_
 match j with
 |0=>cases hj;exact .lit
 |1=>cases hj;exact .junk
 |j+2=>simp at hj
def aSC(L:LaysC.n172 P ρ){te pe te' pe'}(hS:look Γ (ρ.g 15)=aA [.lit (.iface te pe)])(hR:look Γ (ρ.g 16)=aA [.lit (.iface te' pe')])(l:List UInt8)(hl:l.length<=281474976710656):
 Pure P Γ (ρ.f 172) [.lit (.string (str l))] (.tup [.lit (.int .i64 (RX l)),.junk]):=
 mV rfl λ w G args hG hv=>by
  rw[aJO hv];have hs:(str l).size<=281474976710656:=by simpa [ByteArray.size]using hl
  have hd:(str l).data.toList=l:=by simp
  cases h:Lib.atoiAll l
  .rename_i v;refine(Any.strconv_Atoi_ok L (str l) oO v (by rw[hd];exact h) w).mono ?_;rintro e w' ⟨rfl,hw⟩;refine⟨_,rfl,?_,by rw[RX,h];exact aJP⟩;rcases hw with rfl|⟨t,rfl⟩;.exact Below.refl _ _
   exact Lib.bytesWorld_below _ _ _
  .refine(Any.strconv_Atoi_syntax L (str l) hs (by rw[hd];exact h) (.iface te pe) w ((hG _ _ hS).cell rfl) (.inr ⟨_,_,rfl⟩)).mono ?_;rintro e w' ⟨N,rfl,_,_,hb⟩;exact⟨_,rfl,hb,by rw[RX,h];exact aJP⟩
  refine(Any.strconv_Atoi_range L (str l) hs (by rw[hd];exact h) (.iface te' pe') w ((hG _ _ hR).cell rfl) (.inr ⟨_,_,rfl⟩)).mono ?_;rintro e w' ⟨N,rfl,_,_,hb⟩;exact⟨_,rfl,hb,by rw[RX,h,hd];exact aJP⟩
def aJV(L:Lays.n146 P ρ)(hi9:(P.info? (ρ.t 9)).map (λ i=>(i.zero,i.size,i.bytes))=aA (aA (.string ByteArray.empty),1,16)){m:Int}(hM:look Γ (ρ.g 1)=aA [.lit (.int .i64 m)])(l sep:List UInt8)
 (hl:l.length<4294967281) (h1:1<=sep.length):Pure P Γ (ρ.f 146) [.lit (.string (str l)),.lit (.string (str sep))] (a2J (Lib.split l sep)):=
 mV rfl λ w G args hG hv=>by
  rw[ZX hv];have hs:(str l).size<4294967281:=by simpa [ByteArray.size]using hl
  have h1':1<=(str sep).size:=by simpa [ByteArray.size]using h1
  refine(Any.strings_Split L hi9 (str l) (str sep) m w hs ((hG _ _ hM).cell rfl) h1').mono ?_;rintro e w' ⟨rfl,rfl⟩;have hlen:=Lib.splitB_all (str sep) h1' 0 _ (str l) rfl;have hle:=Lib.countB_le (str sep) h1' (str l).size (str l) (aJ _);have hdat:=Lib.splitB_data (str sep) 0 (Lib.countB (str l) (str sep)) (str l);have hsp:Lib.split l sep=(Lib.splitB (str sep) 0 (Lib.countB (str l) (str sep)) (str l)).map (·.data.toList):=by rw[hdat];simp[Lib.split,Lib.countB]
  refine⟨_,rfl,(Below.refl _ _).alloc (aJ _) _,?_⟩;unfold a2J;rw[hsp];generalize hq:Lib.splitB (str sep) 0 (Lib.countB (str l) (str sep)) (str l)=q at*
  rw[<-hlen,dG];refine .rd (λ i _=> .string (q.getD i default)) (.inr ⟨aJ _,sS⟩) (aJ _) (by unfold maxLen;omega) (λ i hi=>rfl) (λ i j v hi hj=>?_) (λ i j v hi hj=>?_)
  .match j with
   | 0=>
     have hi':i<q.length:=hi
     have e:0+i*1+0=i:=oO
     rw[e,World.cell?_alloc_at _ _ _ _ rfl,cH,aV,aN hi']
     simp[oZ,hi']
   |j+1=>simp at hj
  match j with
  | 0=>
    simp only[lY,aA.injEq]at hj
    subst hj
    have e:str (oZ (q.map (·.data.toList)) i [])=q.getD i default:=by simp[oZ,hi]
    rw[e];exact .lit
  |j+1=>simp at hj
end
end Go.AM
end
section
namespace Go.Proofs.T
open Go Go.Lib Go.AM
def bFF(x:Nat×Nat):List UInt8:=decDigits x.1++(if x.1<x.2 then 45::decDigits x.2 else [])
def bGH:List (Nat×Nat)->List UInt8
 |[]=>[]
 |[x]=>bFF x
 |x::y::r=>bFF x++44::bGH (y::r)
def bFM(l:List (Nat×Nat)):List UInt8:=if l=[]then [45]else bGH l
def nmL:List (List UInt8):=[[],[99,111,110,102,105,103],[115,104,97,112,101],[99,108,111,99,107],[111,114,100,101,114],[105,100],[103,114,111,117,112],[99,112,117],[109,97,115,107],[112,108,97,99,101],[116,97,115,107],[115,112,111,116],[114,111,111,116],[99,117,114,114,101,110,116],[102,108,111,111,114],[98,97,99,107],[102,101,108,108],[111,116,104,101,114]]
def nm(r:Nat):List UInt8:=nmL.getD r []
end Go.Proofs.T
end
section
namespace Go.Proofs.T
open Go Go.AM Go.Lib
def jn:List (List UInt8)->List UInt8
 |[]=>[]
 |[w]=>w
 |w::v::r=>w++32::jn (v::r)
def aMG{w:List UInt8}{r:List (List UInt8)}(h:r≠[]):jn (w::r)=w++32::jn r:=by
 cases r with
 |nil=>exact absurd rfl h
 |cons v r=>rfl
def aBA:∀ {ws:List (List UInt8)},ws≠[]->(∀w∈ws,(32:UInt8)∉w)->split (jn ws) [32]=ws
 |[],h,_=>absurd rfl h
 |[w],_,hn=>aOQ (hn w sS)
 |w::v::r,_,hn=>by rw[aMG sS,aFT (hn w sS),aBA sS (λ x hx=>hn x (dZ _ hx))]
def puV(B:Nat)(l:List UInt8):Int:=match parseUintB B l with
 | .ok n=>n
 | .range=>(2:Int)^B-1
 |_=>0
def a9J:List UInt8:=[99,108,111,99,107]
def aSS:List UInt8:=[99,117,114,114,101,110,116]
def a1T:List UInt8:=[119,101,105,103,104,116]
def bEU:List UInt8:=[103,111,110,101]
def bES:List UInt8:=[116,97,115,107]
def bET:List UInt8:=[115,112,111,116]
def a9I:List UInt8:=[114,101,97,100,121]
inductive El where
 |ck (a t:Int)
 |cu (a t:Int)
 |wg (a t:Int)
 |gn (x:Int)
 |tk (t:Tk)
 |sp (g c:Int) (p:Sp)
def I64(x:Int):Prop:= -9223372036854775808<=x/\x<=9223372036854775807
def U64(x:Int):Prop:=0<=x/\x<=18446744073709551615
def U32(x:Int):Prop:=0<=x/\x<=4294967295
def El.rng:El->Prop
 | .ck a t=>I64 a/\I64 t
 | .cu a t=>I64 a/\I64 t
 | .wg a t=>I64 a/\I64 t
 | .gn x=>I64 x
 | .tk t=>I64 t.id/\I64 t.group/\I64 t.weight/\I64 t.cpu/\U64 t.mask/\U64 t.v/\U32 t.r
 | .sp g c p=>I64 g/\I64 c/\U64 p.v/\U32 p.r/\U64 p.floor
def El.ints:El->List Int
 | .ck a t=>[a,t]
 | .cu a t=>[a,t]
 | .wg a t=>[a,t]
 | .gn x=>[x]
 | .tk t=>[t.id,t.group,t.weight,t.cpu]
 | .sp g c p=>[g,c]
def El.plain (e:El):Prop:=∀x∈e.ints,0<=x
instance (e:El):Decidable e.plain:=by unfold El.plain;infer_instance
def El.kind:El->Int
 | .ck _ _=>0
 | .cu _ _=>1
 | .wg _ _=>2
 | .gn _=>3
 | .tk _=>4
 | .sp _ _ _=>5
section
variable(mT:Int->List UInt8)(pR:List UInt8->Int)(rR:List UInt8->Option Int)
def nW(ws:List (List UInt8))(i:Nat):Int:=match ws[i]? with
 |some w=>RX w
 |none=>0
def uW(B:Nat)(ws:List (List UInt8))(i:Nat):Int:=match ws[i]? with
 |some w=>puV B w
 |none=>0
def gu(ws:List (List UInt8)):Option El:=
 if ws.headD []=a9J then aA (.ck (nW ws 1) (nW ws 2))
 else if ws.headD []=aSS then aA (.cu (nW ws 1) (nW ws 2))
 else if ws.headD []=a1T then aA (.wg (nW ws 1) (nW ws 2))
 else if ws.headD []=bEU then aA (.gn (nW ws 1))
 else if ws.headD []=bES then aA (.tk ⟨nW ws 1,nW ws 2,nW ws 3,nW ws 4,if 6<ws.length then pR (ws.getD 5 [])else 0,if 6<ws.length then decide (ws.getD 6 []=a9I)else aF,uW 64 ws 7,uW 32 ws 8⟩)
 else if ws.headD []=bET then aA (.sp (nW ws 1) (nW ws 2) ⟨uW 64 ws 3,uW 32 ws 4,uW 64 ws 5⟩)
 else aC
variable{mT pR rR}
end
def bMA(m:Int)(c:Nat):Bool:=m.toNat.testBit c
def bFN(m:Int):List (Nat×Nat):=aUD (bMA m) 64 0
def mT(m:Int):List UInt8:=bFM (bFN m)
end Go.Proofs.T
end
section
namespace Go.AM
open Go Go.Lib
attribute [go_sem] fE bVG bKB
end Go.AM
end
section
namespace Go.Proofs.T
open Go Go.AM Go.Proofs
section
variable{H:Type}{enc:TypeId×Value->H}{P:Program}{w:World}{base:Nat}{sp:Nat->Bool}{held:Bool}{fuel:Nat}{t:TypeId}{cs:List Value}{x:DataW H×List MemPlace}{G:Nat->Prop}
def VY{fs:Array Field}(ht:P.underlying t=aA (.struct fs))(h:DataW.trod enc P w base sp held fuel t cs=aA x):
 cs.length=P.cellsOf t/\∃n,∀(i:Nat) (f:Field),fs[i]? =aA f->∃y,DataW.trod enc P w base sp held n f.type ((cs.drop f.offset).take (P.cellsOf f.type))=aA y:=by
 obtain⟨xs,n,_,_,h1,h2,h3⟩:=DataW.trod_struct ht h;refine⟨h1,n,λ i f hf=>?_⟩;have hi:i<xs.length:=by rw[h2];exact(dK.1 hf).1
 exact⟨xs[i],by rw[h3 i f hf,aN hi]⟩
def Tk.cells (k:Tk):List AVal:=[aD (aE aH k.id),aD (aE aH k.group),aD (aE aH k.weight),aD (aE aH k.cpu),aD (aE aI k.mask),aD (bC k.ready),aD (aE aI k.v),aD (aE aT k.r)]
def Sp.cells (k:Sp):List AVal:=[aD (aE aI k.v),aD (aE aT k.r),aD (aE aI k.floor)]
def Tk.ok (k:Tk):Prop:=0<=k.mask/\k.mask<18446744073709551616/\k.v<=18446744073709551615/\0<=k.r
def Sp.ok (k:Sp):Prop:=0<=k.v/\k.v<=18446744073709551615/\0<=k.r
def bMC{cs:List Value}(h:cs.length=8):∃a b c d e f g i,cs=[a,b,c,d,e,f,g,i]:=by
 match cs,h with
 |[a,b,c,d,e,f,g,i],_=>exact⟨a,b,c,d,e,f,g,i,rfl⟩
end
end Go.Proofs.T
end
section
namespace Go.Proofs.T
open Go Go.AM Go.Proofs Go.ChangeShapes Go.WideShapes Go.ChangeAt Go.WideMaps Go.WideElems Go.RowKit Go.Proofs.YteimiejbhhgljaaGreatDoor
def bLR:ownKnob aG.godebug=aC:=by kernel_rfl
def aLV:laidOutB aG=aB:=by kernel_rfl
end Go.Proofs.T
end
section
namespace Go.Proofs.T
open Go Go.AM Go.Proofs
variable{α:Type}{d:DE}{l:List Flt}{m:List Tk}{i:Nat}{s:St}
structure Nrm (s:St):Prop where
 g:∀i,s.ng<=i->s.par i=0/\s.wt i=0
 k:∀i,s.nk<=i->s.clk i=0
 u:∀i,s.nu<=i->s.cur i=0
 t:∀i,s.nt<=i->s.tsk i=iM
 n:∀g,s.ns<=g->s.nsp g=0
 s:∀g c,s.nsp g<=c->s.sp g c=⟨0,0,0⟩
def qB{l:List α}{d:α}(h:l.length<=i):l.getD i d=d:=by rw[aU,bE h];rfl
def wI{n:Nat}{f:Nat->α}{d:α}(h:n<=i->f i=d):((aR n).map f).getD i d=f i:=by
 by_cases hi:i<n;.exact lU hi
 rw[h oO,qB sO]
def aJQ{a b:St}(h1:a.cpus=b.cpus)(h2:a.credit=b.credit)(h3:a.ng=b.ng)(h4:a.par=b.par)(h5:a.wt=b.wt)(h6:a.nk=b.nk)(h7:a.clk=b.clk)(h8:a.nu=b.nu)(h9:a.cur=b.cur)(h10:a.nt=b.nt)(h11:a.tsk=b.tsk)(h12:a.ns=b.ns)(h13:a.nsp=b.nsp)(h14:a.sp=b.sp):a=b:=by cases a;cases b;simp only at h1 h2 h3 h4 h5 h6 h7 h8 h9 h10 h11 h12 h13 h14;subst h1 h2 h3 h4 h5 h6 h7 h8 h9 h10 h11 h12 h13 h14;rfl
def a9O(h:Nrm s):(uH s).st=s:=by
 have e6:∀g,(uH s).st.nsp g=s.nsp g:=λ g=>by
  show(((aR s.ns).map λ g=>(aR (s.nsp g)).map (s.sp g)).getD g []).length=_;by_cases hg:g<s.ns;.rw[lU hg];simp
  rw[qB sO,h.n g oO];rfl
 refine aJQ rfl rfl (by simp[uH,LSt.st]) (funext λ i=>?_) (funext λ i=>?_) (by simp[uH,LSt.st]) (funext λ i=>?_) (by simp[uH,LSt.st]) (funext λ i=>?_) (by simp[uH,LSt.st]) (funext λ i=>?_) (by simp[uH,LSt.st]) (funext e6) (funext λ g=>funext λ c=>?_);.show(((aR s.ng).map λ g=>(s.par g,s.wt g)).getD i (0,0)).1=_;rw[wI λ hi=>by rw[(h.g i hi).1,(h.g i hi).2]]
 .show(((aR s.ng).map λ g=>(s.par g,s.wt g)).getD i (0,0)).2=_;rw[wI λ hi=>by rw[(h.g i hi).1,(h.g i hi).2]]
 .exact wI (h.k i)
 .exact wI (h.u i)
 .exact wI (h.t i)
 show(((aR s.ns).map λ g=>(aR (s.nsp g)).map (s.sp g)).getD g []).getD c default=_;by_cases hg:g<s.ns;.rw[lU hg];exact wI (h.s g c)
 rw[qB (l:=(aR s.ns).map _) sO,h.s g c (by rw[h.n g oO];omega)];rfl
def PQ{N:Nat}(h:N<=i)(f:Nat->Int)(l:List (Int×Int)):xI N f l i=f i:=by unfold xI;refine FZ λ y hy=>?_;obtain⟨x,hx,rfl⟩:=dM.1 hy;have:=of_decide_eq_true (lK.1 hx).2;simp only;omega
def aBL{S K g c:Nat}(h:S<=g\/K<=c):∀(l:List (Int×Int×Sp)) (f:Nat->Nat->Sp),FY S K f l g c=f g c
 |[],_=>rfl
 |x::l,f=>by
  show FY S K (if 0<=x.1/\x.1<S/\0<=x.2.1/\x.2.1<K then AF f x.1.toNat x.2.1.toNat x.2.2 else f) l g c=f g c;rw[aBL h l];split;.rw[AF,iN oO]
  rfl
def aBM{P:Sp->Prop}{S K:Nat}:∀(l:List (Int×Int×Sp)) (f:Nat->Nat->Sp),(∀g c,P (f g c))->(∀x∈l,P x.2.2)->∀g c,P (FY S K f l g c)
 |[],_,hf,_=>hf
 |x::l,f,hf,hl=>by
  show ∀g c,P (FY S K (if 0<=x.1/\x.1<S/\0<=x.2.1/\x.2.1<K then AF f x.1.toNat x.2.1.toNat x.2.2 else f) l g c);refine aBM l _ (λ g c=>?_) λ y hy=>hl y (dZ _ hy);split
  .unfold AF;split;.exact hl x sS
   exact hf g c
  exact hf g c
def aVM(s:St)(d:DE):List Tk:=(sQ s).filter λ t=> !uN d t
def mkT(s:St)(d:DE):List Tk:=JY iM jB (aVM s d++pre d.tk d.n4)
def yG(s:St)(d:DE):St:=XX s (CG d) (mkT s d)
def bEY(s:St):(sQ s).length=s.nt:=by simp[sQ]
def a4A(s:St)(d:DE):(mkT s d).length<=s.nt+d.n4:=by
 have h1:(mkT s d).length=(aVM s d++pre d.tk d.n4).length:=stab_perm.length_eq;have h2:(aVM s d).length<=s.nt:=by rw[<-bEY s];exact bQR _ _
 rw[h1,bT,XP];omega
def a4C{t:Tk}(h:t∈mkT s d):(∃i,i<s.nt/\t=s.tsk i)\/∃i,t=d.tk i:=by
 rcases dJ.1 (stab_perm.mem_iff.1 h)with h|h;.exact dE (mem_tkL.1 (lK.1 h).1)
 obtain⟨i,_,e⟩:=mem_pre.1 h;exact dP ⟨i,e.symm⟩
def bJG(s:St):Prop:=s.nu=s.nk/\∀g,g<s.ns->s.nsp g=s.nk
def a7A(h:Nrm s)(hr:bJG s):Nrm (yG s d) where
 g i hi:=⟨(h.g i hi).1,(PQ (N:=s.ng) hi s.wt _).trans (h.g i hi).2⟩
 k i hi:=(PQ (N:=s.nk) hi s.clk _).trans (h.k i hi)
 u i hi:=by have hi:s.nu<=i:=hi;show xI s.nk s.cur _ i=0;rw[PQ (by have:=hr.1;omega)];exact h.u i hi
 t i hi:=qB hi
 n:=h.n
 s g c hc:=by
  have hc:s.nsp g<=c:=hc;show FY s.ns s.nk s.sp _ g c=_
  rw[aBL (by
   by_cases hg:g<s.ns;.right;rw[<-hr.2 g hg];exact hc
   left;omega)]
  exact h.s g c hc
def a7Y:TkR iM:=⟨bY _,by decide,bY _,by decide,bY _⟩
structure DSm (d:DE):Prop where
 tk:∀i,TkR (d.tk i)
 sp:∀i,SpR (d.sp i).2.2
def aNR(h:PreW s)(hd:DSm d)(hn:s.nt+d.n4<=200):PreW (yG s d):=by
 have hl:=a4A s d;refine a0Y ⟨h.sm.ng,h.sm.nk,h.sm.nu,by show(mkT s d).length<=_;omega,h.sm.ns,h.sm.nsp⟩ (by show(mkT s d).length<=_;omega) h.ns h.p1 h.c0 (λ i=>?_) (aBM _ _ (λ g c=>h.spr g c) λ x hx=>?_)
 .show TkR ((mkT s d).getD i iM);by_cases hi:i<(mkT s d).length
  .rcases a4C (zB (z:=iM) hi)with⟨j,_,e⟩|⟨j,e⟩;.rw[e];exact h.tkr j
   rw[e];exact hd.tk j
  rw[qB oO];exact a7Y
 obtain⟨j,_,rfl⟩:=mem_pre.1 (show x∈pre d.sp d.n5 from hx);exact hd.sp j
def xT(h:dR s=[]):bJG s/\0<s.nk/\s.nk<=64/\0<s.ng/\s.ng<=256/\s.ns=s.ng:=by obtain⟨h1,h2⟩:=oB (s:=s) (by rw[h];rfl);obtain⟨⟨r1,r2,r3,r4,r5,r6,r7⟩,_⟩:=iJ h1;obtain⟨k1,k2,k3,k4⟩:=shapes_nil h2;exact⟨⟨oO,λ g hg=>by have:=k4 g hg;omega⟩,oO,oO,oO,r5,k3⟩
def TQ(s:St)(d:DE):Prop:=a6Z s (CG d) (mkT s d)
def CA(s:St)(d:DE):Bool:=decide (yF s (yG s d)=0)&&eqD (qP (btw s (yG s d))) d
def apOkB_iff:CA s d=aB↔TQ s d:=by rw[CA,aO,decide_eq_true_iff,YZ];rfl
def SD(s:St)(d:DE):Int:=if(dR s).isEmpty then(if CA s d then 0 else 352)else 350
def MY(s:St)(d:DE):St:=if(dR s).isEmpty&&CA s d then yG s d else zSt
def emp_iff:l.isEmpty=aB↔l=[]:=List.isEmpty_iff
def a0E(h:¬dR s=[]):SD s d=350/\MY s d=zSt:=by
 have e:(dR s).isEmpty=aF:=by rw[dY];exact λ h'=>h (emp_iff.1 h')
 simp[SD,MY,e]
def aNQ(h:dR s=[])(h':¬TQ s d):SD s d=352/\MY s d=zSt:=by
 have e:(dR s).isEmpty=aB:=emp_iff.2 h;have e2:CA s d=aF:=by rw[dY];exact λ h2=>h' (apOkB_iff.1 h2)
 simp[SD,MY,e,e2]
def aEO(h:dR s=[])(h':TQ s d):SD s d=0/\MY s d=yG s d:=by have e:(dR s).isEmpty=aB:=emp_iff.2 h;have e2:CA s d=aB:=apOkB_iff.2 h';simp[SD,MY,e,e2]
def aJF(h:dR s=[])(h':TQ s d):dR (yG s d)=[]:=by
 have h1:yF s (yG s d)=0:=h'.1;unfold yF at h1;split at h1;.cases h1
 rename_i hb;unfold uO at hb;refine jE ?_;omega
def bDE(h:dR s=[])(hm:FitD s (CG d)->rQ (sQ s) (CG d).gn (CG d).tk m):(TQ s d↔appR s (CG d) m)/\(TQ s d->yG s d=mrg s (CG d) m):=by refine a6X h (xT h).2.1 ?_ (λ hid=>aTG λ t ht=>hid t (stab_perm.mem_iff.2 ht)) hm;have e:aVM s d=FP (sQ s) (CG d).gn (CG d).tk:=aPX s d;rw[mkT,e];exact stab_perm
end Go.Proofs.T
end
