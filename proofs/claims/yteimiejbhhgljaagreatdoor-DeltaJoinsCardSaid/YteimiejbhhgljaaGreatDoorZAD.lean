import Derived.Test.YteimiejbhhgljaaGreatDoorZAC
import Derived.KernelRfl
import Derived.Lib.AppendZerosOnto
import Derived.Lib.Overlaps
set_option linter.unusedVariables false
set_option linter.unusedSimpArgs false
set_option maxHeartbeats 0
set_option maxRecDepth 100000
open Array renaming append_assoc->a5F,eq_empty_of_size_eq_zero->jN,getD_eq_getD_getElem?->aI,getElem?_append_left->fV,getElem?_append_right->SF,getElem?_eq_getElem->aQ,getElem?_eq_some_iff->dA,getElem?_toList->bF,length_toList->pU,size_append->ED
open Bool renaming and_eq_true->aH,and_false->KV,and_true->iC,eq_false_iff->gB,false->aE,false_and->KU,false_eq_true->aS,false_or->AE,not_eq_true'->bD,or_eq_false_iff->fO,or_eq_true->bL,true->aB,true_eq_false->bX,true_or->AD
open Int renaming toNat_natCast->bP
open List renaming all_cons->fU,all_eq_true->aW,any_eq_true->aLX,append_assoc->cM,append_nil->cZ,contains_iff_mem->bKV,getD->oH,getD_eq_getElem?_getD->aR,getElem?_append->dN,getElem?_append_left->gP,getElem?_append_right->iK,getElem?_cons_succ->fM,getElem?_cons_zero->lF,getElem?_drop->dW,getElem?_eq_getElem->aJ,getElem?_eq_some_iff->aK,getElem?_map->aP,getElem?_of_mem->oN,getElem?_set->dD,getElem?_take->fE,getElem?_toArray->cJ,getElem_mem->JR,getElem_replicate->bBJ,length_append->bM,length_cons->gS,length_drop->aLW,length_map->cX,length_replicate->gI,length_set->oE,length_take->sU,map->rS,map_append->aM,map_cons->bI,map_map->jM,map_nil->bQ,map_toArray->yH,mem_cons->eY,mem_cons_of_mem->dM,mem_map->dB,mem_of_getElem?->iG,mem_singleton->MU,not_mem_nil->oS,range->aN,replicate->bE,size_toArray->fZ
open Nat renaming add_assoc->gD,add_mul->cQ,add_sub_cancel->a4V,add_sub_cancel_left->lE,add_zero->jL,beq->sP,div_add_mod->EB,eq_of_beq_eq_true->cH,le_of_ble_eq_true->qY,le_refl->aF,le_succ->mF,le_trans->qX,lt_irrefl->qR,lt_of_lt_of_le->oD,lt_succ_self->cW,mul_comm->iW,mul_le_mul_right->cC,mul_one->HW,reduceAdd->YG,sub_self->RX,zero_add->fH,zero_le->aZ,zero_mul->qW
open Option renaming isSome_none->rQ,map_eq_none_iff->dO,map_eq_some_iff->aG,map_none->oB,map_some->bU,none->aC,some->aA
open Go.Result renaming andThen_ok->bG
open Go.Sem renaming run_bind->bN,run_pure->dE
section
namespace Go.AM
structure Ev where
 call:FuncId->Nat->List AVal->aO->Option (Nat×AVal×aO)
 loop:Nat->Code->Nat->Fr->aO->Option (Exit×Nat×Fr×aO)
def nm0:AVal->List Nat
 | .ptr i _ _=>[i]
 | .sl i _ _=>[i]
 | .slc i _ _ _=>[i]
 | .bfn _ i _ _=>[i]
 | .mp i=>[i]
 | .it i=>[i]
 |_=>[]
def nm1:AVal->List Nat
 | .agg cs=>cs.flatMap nm0
 | .fn _ cs=>cs.flatMap nm0
 |v=>nm0 v
def nm2:AVal->List Nat
 | .tup cs=>cs.flatMap nm1
 |v=>nm1 v
def DW:List Nat->Nat->Bool
 |[],_=>aE
 |a::r,i=>sP a i||DW r i
def KC{α:Type}:List (Nat×α)->Nat->Option α
 |[],_=>aC
 | (a,x)::r,k=>match sP a k with
   |true=>aA x
   |false=>KC r k
theorem BU{α:Type}:∀(l:List (Nat×α)) (i:Nat),KC l i=look l i
 |[],i=>rfl
 |(a,x)::r,i=>by
  simp only[KC,look];by_cases h:a=i;.subst h;simp
  have:sP a i=aE:=by rw[gB];exact λ hb=>h (cH hb)
  rw[this,iN h];exact BU r i
def pO(H:aO):Nat->List Nat->List Nat->List Nat
 |0,_,seen=>seen
 |_+1,[],seen=>seen
 | n+1,i::r,seen=>match DW seen i with
   |true=>pO H n r seen
   | false=>match KC H i with
     | some B=>match B.pure with
       |true=>pO H n r (i::seen)
       |false=>pO H n ((B.rows.flatMap λ row=>row.flatMap nm0)++r) (i::seen)
     |none=>pO H n r seen
def vX(p:List Nat):aO->aO
 |[]=>[]
 | (i,B)::r=>match DW p i with
   |true=>(i,B)::vX p r
   |false=>vX p r
theorem xP(p:List Nat):∀(H:aO) (i:Nat) (B:Blk),look (vX p H) i=aA B->look H i=aA B
 |[],i,B,h=>by simp[vX,look]at h
 |(j,C)::r,i,B,h=>by
  simp only[vX]at h
  cases hp:DW p j with
  |true=>
   rw[hp]at h;simp only[look]at h⊢
   split at h;.rename_i he;rw[iP he];exact h
   rename_i he;rw[iN he];exact xP p r i B h
  |false=>
   rw[hp]at h;have h1:=xP p r i B h;simp only[look];split
   .rename_i he;subst he;exfalso
    have:∀(l:aO),look (vX p l) j=aC:=by
     intro l
     induction l with
     |nil=>rfl
     |cons y ys ih=>
      obtain⟨b,D⟩:=y;simp only[vX]
      cases hb:DW p b with
      |true=>
       simp only[look];split;.rename_i e;subst e;rw[hp]at hb;cases hb
       exact ih
      |false=>exact ih
    rw[this r]at h;cases h
   exact h1
def aRV:AVal->AVal->Bool
 | .lit (.int k a),.lit (.int k' b)=>decide (k=k')&&decide (a=b)
 | .lit (.bool a),.lit (.bool b)=>a==b
 | .lit (.pointer aC),.lit (.pointer aC)=>aB
 |_,_=>aE
theorem aRU{a b:AVal}(h:aRV a b=aB):a=b:=by
 unfold aRV at h;split at h;.simp only[aH,dTt]at h;rw[h.1,h.2]
 .simp only[beq_iff_eq]at h;rw[h]
 .rfl
 cases h
def FX{α:Type}(f:α->α->Bool):List α->List α->Bool
 |[],[]=>aB
 |a::r,b::q=>f a b&&FX f r q
 |_,_=>aE
theorem BD{α:Type}{f:α->α->Bool}(hf:∀a b,f a b=aB->a=b):∀ {l m:List α},FX f l m=aB->l=m
 |[],[],_=>rfl
 |a::r,b::q,h=>by simp only[FX,aH]at h;rw[hf _ _ h.1,BD hf h.2]
 |[],_::_,h=>by simp[FX]at h
 |_::_,[],h=>by simp[FX]at h
def aRY(B C:Blk):Bool:=(B.pure&&C.pure)&&(sP B.sz C.sz&&FX (FX aRV) B.rows C.rows)
theorem aRX{B C:Blk}(h:aRY B C=aB):B=C/\B.pure=aB:=by simp only[aRY,aH]at h;obtain⟨⟨h1,h2⟩,h3,h4⟩:=h;refine⟨?_,h1⟩;cases B;cases C;simp only at h1 h2 h3 h4;rw[h1,h2,cH h3,BD (λ a b h=>BD (λ _ _=>aRU) h) h4]
def aUL(Hc Hout:aO)(i:Nat):Bool:=
 match KC Hc i with
 | some B=>match KC Hout i with
   |some C=>aRY B C
   |none=>aE
 |none=>aE
def CX(Hc Hout:aO):aO->List Nat
 |[]=>[]
 | (i,_)::r=>match aUL Hc Hout i with
   |true=>i::CX Hc Hout r
   |false=>CX Hc Hout r
theorem BE{Hc Hout:aO}{id:Nat}:∀ {H:aO},id∈CX Hc Hout H->∃B,look Hc id=aA B/\look Hout id=aA B/\B.pure=aB
 |[],h=>by simp[CX]at h
 |(i,B)::r,h=>by
  simp only[CX]at h;split at h
  .rename_i hs;rcases eY.1 h with rfl|h
   .unfold aUL at hs;rw[BU,BU]at hs;split at hs
    .rename_i B' hB;split at hs;.rename_i C hC;obtain⟨rfl,hp⟩:=aRX hs;exact⟨B',hB,hC,hp⟩
     cases hs
    cases hs
   exact BE h
  exact BE h
def XK(same:List Nat):List (Nat×Option Blk)->List (Nat×Option Blk)
 |[]=>[]
 | (i,B)::r=>match DW same i with
   |true=>XK same r
   |false=>(i,B)::XK same r
theorem hasN_iff{l:List Nat}{i:Nat}:DW l i=aB↔i∈l:=by
 induction l with
 |nil=>simp[DW]
 |cons a r ih=>
  simp only[DW,bL,ih,eY];constructor
  .rintro(h|h);.exact .inl (cH h).symm
   exact .inr h
  rintro(h|h);.exact .inl (by rw[h];simp)
  exact .inr h
theorem MY{H:lU}{A:bZ}{same:List Nat}{id:Nat}:∀(u:List (Nat×Option Blk)),jD H A (XK same u) id=if DW same id=aB then H id else jD H A u id
 |[]=>by simp[XK,jD]
 |(i,B)::r=>by
  have ih:=MY (H:=H) (A:=A) (same:=same) (id:=id) r;simp only[XK]
  cases hs:DW same i with
  |true=>
   rw[ih];by_cases hi:DW same id=aB;.simp only[hi,if_true]
   simp only[hi];have:id≠i:=λ e=>hi (e▸hs);cases B<;>simp[jD,this]
  |false=>
   by_cases he:id=i;.subst he;cases B<;>simp[jD,hs]
   cases B<;>simp[jD,he,ih]
theorem aOC{P:Program}{Γ:dL}{o:Oper}{ev:Operand->Option AVal}{get:Nat->Option Blk}{k k':Nat}{v:AVal}{Hc Hout:aO}{same:List Nat}(hs:∀id,id∈same->∃B,look Hc id=aA B/\get id=aA B/\look Hout id=aA B/\B.pure=aB)(h:Good P Γ o ev get k (jH v k' Hc Hout)):Good P Γ o ev get k ⟨v,k',XK same (jH v k' Hc Hout).upd,Hc.map (·.1)⟩:=by
 refine⟨?_,h.rds,h.le⟩;intro w G ρ H A a hr hA hf hrd hop next Q hn
 refine h.ok w G ρ H A a hr hA hf hrd hop next Q λ w' G' ρ' cv hrel hv hst=>hn w' G' ρ' cv ?_ hv hst
 have hold:∀id,DW same id=aB->∃B A',H id=aA (B,A')/\jD H (λ i=>A i\/(k<=i/\i<k')) (jH v k' Hc Hout).upd id=aA (B,λ i=>A i\/(k<=i/\i<k'))/\B.pure=aB/\A' id:=λ id hid=>by obtain⟨B,h1,h2,h3,h4⟩:=hs id (hasN_iff.1 hid);obtain⟨B',A',h5,h6,h7⟩:=hrd id (by simp only[jH,dB];exact⟨(id,B),GI h1,rfl⟩);rw[h2]at h5;cases h5;refine⟨B,A',h6,?_,h4,(hr.blk id B A' h6).1⟩;have hm:=ES Hc Hout id;rw[h3]at hm;rw[mV];have hm':uS (jH v k' Hc Hout).upd id=aA (aA B):=hm;rw[hm'];rfl
 refine⟨λ id hid=>?_,λ id B A1 hid=>?_,hrel.inj,hrel.ro,hrel.glob⟩
 .change jD H (λ i=>A i\/(k<=i/\i<k')) (XK same (jH v k' Hc Hout).upd) id=aC at hid;rw[MY]at hid;by_cases hi:DW same id=aB;.obtain⟨B,A',h1,_⟩:=hold id hi;rw[iP hi,h1]at hid;cases hid
  rw[iN hi]at hid;exact hrel.dom id hid
 change jD H (λ i=>A i\/(k<=i/\i<k')) (XK same (jH v k' Hc Hout).upd) id=aA (B,A1)at hid;rw[MY]at hid;by_cases hi:DW same id=aB
 .obtain⟨B',A',h1,h2,h3,h4⟩:=hold id hi;rw[iP hi,h1]at hid;cases hid;obtain⟨_,b,h6,h7,h8⟩:=hrel.blk id B _ h2;refine⟨h4,b,h6,h7,⟨?_,h8.len⟩⟩;have h9:=h8.ex;simp only[h3,if_true]at h9⊢
  exact h9
 rw[iN hi]at hid;exact hrel.blk id B A1 hid
def XC(e:Ev)(P:Program)(o:Oper)(ev:Operand->Option AVal)(H:aO)(k:Nat):Option Out:=
 match o.op with
 | .call {callee:= .value f,args:=args,argTypes:=_}=>match ev f,pJ ev args.toList with
   | some (.fn g caps),aA vs=>
     match aT P g&&((vs++caps).all (bd (DW (pO H 100000 ((vs++caps).flatMap nm2) [])))&&oM (eQ (vX (pO H 100000 ((vs++caps).flatMap nm2) []) H)) (vX (pO H 100000 ((vs++caps).flatMap nm2) []) H))&&((vs++caps).all (bd (eQ (vX (pO H 100000 ((vs++caps).flatMap nm2) []) H))))with
     | true=>match e.call g k (vs++caps) (vX (pO H 100000 ((vs++caps).flatMap nm2) []) H)with
       | some (k',v,Hout)=>match Nat.ble k k' with
         |true=>aA ⟨v,k',XK (CX (vX (pO H 100000 ((vs++caps).flatMap nm2) []) H) Hout (vX (pO H 100000 ((vs++caps).flatMap nm2) []) H)) (jH v k' (vX (pO H 100000 ((vs++caps).flatMap nm2) []) H) Hout).upd,(vX (pO H 100000 ((vs++caps).flatMap nm2) []) H).map (·.1)⟩
         |false=>aC
       |none=>aC
     |false=>aC
   |_,_=>aC
 |_=>aC
def UG(e:Ev)(P:Program)(Γ:dL)(all:Array Oper):List Oper->Nat->Fr->aO->Option (List Foot×Nat×Fr×aO)
 |[],k,fr,H=>aA ([],k,fr,H)
 | o::r,k,fr,H=>match mO all fr o with
   |none=>aC
   | some aE=>match UG e P Γ all r k (jE fr o.dst (.lit undef)) H with
     |none=>aC
     |some (tr,x)=>aA (⟨[],[],k,k⟩::tr,x)
   | some aB=>match(match uZ o with|true=>XC e P o (kV Γ fr) H k|false=>AT P Γ o (kV Γ fr) (look H) k)with
     |none=>aC
     | some out=>match UG e P Γ all r out.k (jE fr o.dst out.v) (lK H out.upd)with
       |none=>aC
       |some (tr,x)=>aA (⟨out.rds,out.upd.map (·.1),k,out.k⟩::tr,x)
def kO(e:Ev)(P:Program)(Γ:dL)(nt:Nat):Code->Nat->Fr->aO->Option (Exit×Nat×Fr×aO)
 | .skip,k,fr,H=>aA (.normal,k,fr,H)
 | .ret,k,fr,H=>aA (.ret,k,fr,H)
 | .exit id,k,fr,H=>aA (.exit id,k,fr,H)
 | .seq x y,k,fr,H=>match kO e P Γ nt x k fr H with
   |some (.normal,k1,fr1,H1)=>kO e P Γ nt y k1 fr1 H1
   |r=>r
 | .cond c x y,k,fr,H=>match kV Γ fr c with
   |some (.lit (.bool aB))=>kO e P Γ nt x k fr H
   |some (.lit (.bool aE))=>kO e P Γ nt y k fr H
   |_=>aC
 | .block id c,k,fr,H=>match kO e P Γ nt c k fr H with
   | some (.exit id',k1,fr1,H1)=>match sP id' id with
     |true=>aA (.normal,k1,fr1,H1)
     |false=>aA (.exit id',k1,fr1,H1)
   |r=>r
 | .loop c,k,fr,H=>match kO e P Γ nt c k fr H with
   |some (.normal,k1,fr1,H1)=>e.loop nt c k1 fr1 H1
   |r=>r
 | .region _ ops d,k,fr,H=>match mQ nt ops with
   |false=>aC
   | true=>match UG e P Γ ops ops.toList k fr H with
     |none=>aC
     | some (tr,k1,fr1,H1)=>match(!d)||(P.follows .mixedOrders&&kP ops tr)with
       |true=>aA (.normal,k1,fr1,H1)
       |false=>aC
 |_,_,_,_=>aC
def aGG(e:Ev)(P:Program)(Γ:dL)(nt:Nat)(c:Code)(k:Nat)(fr:Fr)(H:aO):Option (Exit×Nat×Fr×aO):=
 match kO e P Γ nt c k fr H with
 |some (.normal,k1,fr1,H1)=>e.loop nt c k1 fr1 H1
 |r=>r
def aAL(k:Nat):aO->List Nat
 |[]=>[]
 | (i,_)::r=>match Nat.blt i k with
   |true=>i::aAL k r
   |false=>aAL k r
def aGI(e:Ev)(P:Program)(Γ:dL)(f:FuncId)(k:Nat)(args:List AVal)(H:aO):Option (Nat×AVal×aO):=
 match P.funcs[f]? with
 |none=>aC
 | some fn=>match fn.body with
   |none=>aC
   | some c=>match Nat.ble args.length fn.ntmps with
     |false=>aC
     | true=>match kO e P Γ fn.ntmps c k (vS 0 args) H with
       | some (.normal,k1,fr1,H1)=>match KZ P fn fr1 H1 with
         |some r=>aA (k1,r,vX (pO H1 100000 (nm2 r++aAL k H1) []) H1)
         |none=>aC
       | some (.ret,k1,fr1,H1)=>match KZ P fn fr1 H1 with
         |some r=>aA (k1,r,vX (pO H1 100000 (nm2 r++aAL k H1) []) H1)
         |none=>aC
       |_=>aC
def ev(P:Program)(Γ:dL):Nat->Ev
 |0=>⟨λ _ _ _ _=>aC,λ _ _ _ _ _=>aC⟩
 |n+1=>⟨λ f k args H=>aGI (ev P Γ n) P Γ f k args H,λ nt c k fr H=>aGG (ev P Γ n) P Γ nt c k fr H⟩
section
variable{P:Program}{Γ:dL}{nt kb:Nat}{k:Nat}{fr:Fr}{H:aO}{e:Ev}
def isQ(ex:Exit)(k:Nat)(fr:Fr)(H:aO):AQ:=λ e1 k1 fr1 H1=>e1=ex/\k1=k/\fr1=fr/\H1=H
structure EvOk (P:Program) (Γ:dL) (e:Ev):Prop where
 call:∀f k args H k' v H',e.call f k args H=aA (k',v,H')->Tr P Γ f k args H (λ k1 r1 H1=>k1=k'/\r1=v/\H1=H')
 loop:∀nt c k fr H ex k' fr' H',e.loop nt c k fr H=aA (ex,k',fr',H')->∀kb,∃n,rN P Γ nt kb c (isQ ex k' fr' H') n k fr H
theorem KI(he:EvOk P Γ e){o:Oper}{out:Out}(h:XC e P o (kV Γ fr) H k=aA out):Good P Γ o (kV Γ fr) (look H) k out:=by
 unfold XC at h;split at h
 .rename_i f args ty ho;split at h
  .rename_i g caps vs hf ha;generalize hHc:vX (pO H 100000 ((vs++caps).flatMap nm2) []) H=Hc at h;split at h
   .rename_i hc;simp only[aH]at hc;split at h
    .rename_i k' v Hout hcall;split at h
     .rename_i hle;cases h;have hin:∀id B,look Hc id=aA B->look H id=aA B:=λ id B hB=>by subst hHc;exact xP _ _ _ _ hB
      refine aOC (λ id hid=>?_) (MO ho hc.1.1 hf ha hc.2 hc.1.2.2 hin (he.call _ _ _ _ _ _ _ hcall) (qY hle));obtain⟨B,h1,h2,h3⟩:=BE hid;exact⟨B,h1,hin id B h1,h2,h3⟩
     cases h
    cases h
   cases h
  cases h
 cases h
theorem UF(he:EvOk P Γ e){all:Array Oper}:∀(l:List Oper) (k:Nat) (fr:Fr) (H:aO) (tr:List Foot) (k':Nat) (fr':Fr) (H':aO) (K:List Foot->Nat->Fr->aO->Prop),UG e P Γ all l k fr H=aA (tr,k',fr',H')->K tr k' fr' H'->Run P Γ all l k fr H K:=by
 intro l
 induction l with
 |nil=>intro k fr H tr k' fr' H' K h hK;simp only[UG]at h;cases h;exact hK
 |cons o r ih=>
  intro k fr H tr k' fr' H' K h hK;simp only[UG]at h;split at h;.cases h
  .rename_i hg;split at h;.cases h
   rename_i tr1 x hx;obtain⟨k1,fr1,H1⟩:=x;cases h;exact .inl ⟨hg,ih _ _ _ _ _ _ _ _ hx hK⟩
  rename_i hg;split at h;.cases h
  rename_i out ho;split at h;.cases h
  rename_i tr1 x hx;obtain⟨k1,fr1,H1⟩:=x;cases h;refine .inr ⟨hg,out,?_,ih _ _ _ _ _ _ _ _ hx hK⟩;split at ho;.exact KI he ho
  exact sM ho
theorem JG(he:EvOk P Γ e):∀(c:Code) (k:Nat) (fr:Fr) (H:aO) (ex:Exit) (k':Nat) (fr':Fr) (H':aO),kO e P Γ nt c k fr H=aA (ex,k',fr',H')->W P Γ nt kb c (isQ ex k' fr' H') k fr H:=by
 intro c
 induction c with
 |skip=>intro k fr H ex k' fr' H' h;simp only[kO]at h;cases h;exact aHT ⟨rfl,rfl,rfl,rfl⟩
 |ret=>intro k fr H ex k' fr' H' h;simp only[kO]at h;cases h;exact aYF ⟨rfl,rfl,rfl,rfl⟩
 |exit id=>intro k fr H ex k' fr' H' h;simp only[kO]at h;cases h;exact aHU ⟨rfl,rfl,rfl,rfl⟩
 |seq x y ihx ihy=>
  intro k fr H ex k' fr' H' h;simp only[kO]at h
  cases hx:kO e P Γ nt x k fr H with
  |none=>rw[hx]at h;cases h
  |some r=>
   obtain⟨e1,k1,fr1,H1⟩:=r;rw[hx]at h;refine aYE (lI (ihx _ _ _ _ _ _ _ hx) ?_);rintro e2 k2 fr2 H2 ⟨rfl,rfl,rfl,rfl⟩
   cases e2 with
   |normal=>exact ihy _ _ _ _ _ _ _ h
   |exit id=>cases h;exact⟨rfl,rfl,rfl,rfl⟩
   |goto l=>cases h;exact⟨rfl,rfl,rfl,rfl⟩
   |ret=>cases h;exact⟨rfl,rfl,rfl,rfl⟩
   |panic ch=>cases h;exact⟨rfl,rfl,rfl,rfl⟩
   |outgrown=>cases h;exact⟨rfl,rfl,rfl,rfl⟩
 |cond c x y ihx ihy=>
  intro k fr H ex k' fr' H' h;simp only[kO]at h;split at h;.rename_i hc;exact QN aB hc (λ _=>ihx _ _ _ _ _ _ _ h) (λ hh=>by cases hh)
  .rename_i hc;exact QN aE hc (λ hh=>by cases hh) (λ _=>ihy _ _ _ _ _ _ _ h)
  cases h
 |block id c ih=>
  intro k fr H ex k' fr' H' h;simp only[kO]at h
  cases hx:kO e P Γ nt c k fr H with
  |none=>rw[hx]at h;cases h
  |some r=>
   obtain⟨e1,k1,fr1,H1⟩:=r;rw[hx]at h;refine XZ (lI (ih _ _ _ _ _ _ _ hx) ?_);rintro e2 k2 fr2 H2 ⟨rfl,rfl,rfl,rfl⟩
   cases e2 with
   |normal=>cases h;exact⟨rfl,rfl,rfl,rfl⟩
   |exit id'=>
    simp only[FC];by_cases hid:id'=id;.subst hid;simp only[Nat.beq_refl]at h;cases h;rw[iP rfl];exact⟨rfl,rfl,rfl,rfl⟩
    have hb:sP id' id=aE:=by rw[gB];exact λ hb=>hid (cH hb)
    simp only[hb]at h;cases h;rw[iN hid];exact⟨rfl,rfl,rfl,rfl⟩
   |goto l=>cases h;exact⟨rfl,rfl,rfl,rfl⟩
   |ret=>cases h;exact⟨rfl,rfl,rfl,rfl⟩
   |panic ch=>cases h;exact⟨rfl,rfl,rfl,rfl⟩
   |outgrown=>cases h;exact⟨rfl,rfl,rfl,rfl⟩
 |loop c ih=>
  intro k fr H ex k' fr' H' h;simp only[kO]at h
  cases hx:kO e P Γ nt c k fr H with
  |none=>rw[hx]at h;cases h
  |some r=>
   obtain⟨e1,k1,fr1,H1⟩:=r;rw[hx]at h
   cases e1 with
   |normal=>obtain⟨n,hn⟩:=he.loop _ _ _ _ _ _ _ _ _ h kb;refine HQ (n+1) (lI (ih _ _ _ _ _ _ _ hx) ?_);rintro e2 k2 fr2 H2 ⟨rfl,rfl,rfl,rfl⟩;exact hn
   |_=>cases h;refine HQ 1 (lI (ih _ _ _ _ _ _ _ hx) ?_);rintro e2 k2 fr2 H2 ⟨rfl,rfl,rfl,rfl⟩;exact⟨rfl,rfl,rfl,rfl⟩
 |region id ops d=>
  intro k fr H ex k' fr' H' h;simp only[kO]at h;split at h;.cases h
  rename_i hd;split at h;.cases h
  rename_i tr k1 fr1 H1 hx;split at h
  .rename_i hdr;cases h
   cases d with
   |false=>exact QM hd (UF he _ _ _ _ _ _ _ _ _ hx (λ _=>⟨rfl,rfl,rfl,rfl⟩))
   |true=>simp only[Bool.not_true,AE,aH]at hdr;exact aHV hdr.1 hd (UF he _ _ _ _ _ _ _ _ _ hx ⟨hdr.2,λ _=>⟨rfl,rfl,rfl,rfl⟩⟩)
  cases h
 |_=>intro k fr H ex k' fr' H' h;simp[kO]at h
theorem aOM(he:EvOk P Γ e){c:Code}{ex:Exit}{k':Nat}{fr':Fr}{H':aO}(h:aGG e P Γ nt c k fr H=aA (ex,k',fr',H')):∃n,rN P Γ nt kb c (isQ ex k' fr' H') n k fr H:=by
 unfold aGG at h
 cases hx:kO e P Γ nt c k fr H with
 |none=>rw[hx]at h;cases h
 |some r=>
  obtain⟨e1,k1,fr1,H1⟩:=r;rw[hx]at h
  cases e1 with
  |normal=>obtain⟨n,hn⟩:=he.loop _ _ _ _ _ _ _ _ _ h kb;refine⟨n+1,lI (JG he c _ _ _ _ _ _ _ hx) ?_⟩;rintro e2 k2 fr2 H2 ⟨rfl,rfl,rfl,rfl⟩;exact hn
  |_=>cases h;refine⟨1,lI (JG he c _ _ _ _ _ _ _ hx) ?_⟩;rintro e2 k2 fr2 H2 ⟨rfl,rfl,rfl,rfl⟩;exact⟨rfl,rfl,rfl,rfl⟩
theorem aON(he:EvOk P Γ e){f:FuncId}{args:List AVal}{k':Nat}{v:AVal}{H':aO}(h:aGI e P Γ f k args H=aA (k',v,H')):Tr P Γ f k args H (λ k1 r1 H1=>k1=k'/\r1=v/\H1=H'):=by
 unfold aGI at h;split at h;.cases h
 rename_i fn hfn;split at h;.cases h
 rename_i c hc;split at h;.cases h
 rename_i hn
 have main:∀ex k1 fr1 H1 r,(ex= .normal\/ex= .ret)->kO e P Γ fn.ntmps c k (vS 0 args) H=aA (ex,k1,fr1,H1)->KZ P fn fr1 H1=aA r→
  aA (k1,r,vX (pO H1 100000 (nm2 r++aAL k H1) []) H1)=aA (k',v,H')->Tr P Γ f k args H (λ k1 r1 H1=>k1=k'/\r1=v/\H1=H'):=by
  intro ex k1 fr1 H1 r hex hev hr hq
  cases hq
  refine(MR (Q:=λ k2 r2 H2=>k2=k'/\r2=v/\H2=H1) hfn hc (qY hn) (lI (JG he c _ _ _ _ _ _ _ hev) ?_)).weaken ?_
  · rintro e2 k2 fr2 H2 ⟨rfl,rfl,rfl,rfl⟩
    rcases hex with rfl|rfl
    · exact⟨_,hr,rfl,rfl,rfl⟩
    · exact⟨_,hr,rfl,rfl,rfl⟩
  · rintro k2 r2 H2 hk ⟨rfl,rfl,rfl⟩
    exact⟨_,_,_,hk,bJ _,λ id B hB=>⟨B,xP _ _ _ _ hB,pG B⟩,.inl rfl,rfl,rfl,rfl⟩
 split at h
 .rename_i k1 fr1 H1 hev;split at h;.rename_i r hr;exact main _ _ _ _ _ (.inl rfl) hev hr h
  cases h
 .rename_i k1 fr1 H1 hev;split at h;.rename_i r hr;exact main _ _ _ _ _ (.inr rfl) hev hr h
  cases h
 cases h
theorem aVJ:∀n,EvOk P Γ (ev P Γ n)
 |0=>⟨λ _ _ _ _ _ _ _ h=>(by simp[ev]at h),λ _ _ _ _ _ _ _ _ _ h=>(by simp[ev]at h)⟩
 |n+1=>⟨λ _ _ _ _ _ _ _ h=>aON (aVJ n) h,λ _ _ _ _ _ _ _ _ _ h _=>aOM (aVJ n) h⟩
theorem bFY(n:Nat){f:FuncId}{args:List AVal}{k':Nat}{v:AVal}{H':aO}(h:(ev P Γ n).call f k args H=aA (k',v,H')):Tr P Γ f k args H (λ k1 r1 H1=>k1=k'/\r1=v/\H1=H'):=(aVJ n).call _ _ _ _ _ _ _ h
end
theorem YF{P:Program}{Γ:dL}(n:Nat){f:FuncId}{args:List AVal}{v:AVal}{k':Nat}(ha:args.all (bd λ _=>aE)=aB)(hv:bd (λ _=>aE) v=aB)
 (h:(ev P Γ n).call f 0 args []=aA (k',v,[])):Pure P Γ f args v:=λ k=>by
 have hT:=bFY n h
 intro A hA w G ρ cargs hr hvs
 have hrel:∀A1 w1 G1 ρ1 A2,HRel Γ w1 G1 ρ1 (bK [] A1)->HRel Γ w1 G1 ρ1 (bK [] A2):=λ A1 w1 G1 ρ1 A2 h=>
  ⟨λ id _=>h.dom id rfl,λ id B A' hid=>by simp[bK,look]at hid,h.inj,h.ro,h.glob⟩
 have hno:∀w1 G1 ρ1 A1 A2 u cu,V w1 G1 ρ1 A1 u cu->bd (λ _=>aE) u=aB->V w1 G1 ρ1 A2 u cu:=λ w1 G1 ρ1 A1 A2 u cu h hb=>
  (aDF h hb).mono (λ _ h=>h) (λ _ _=>rfl) (λ _ _=>rfl) (λ i hi=>by simp at hi) (λ _ _=> .inr rfl)
 refine(hT cI (λ i hi=>hi.elim) w G ρ cargs (hrel _ _ _ _ _ hr) ⟨hvs.1,λ j u hj=>hno _ _ _ _ _ _ _ (hvs.2 j u hj) (iT ha hj)⟩).mono ?_
 rintro e w' ⟨cv,G',ρ',k1,r,H1,rfl,⟨rfl,rfl,rfl⟩,hk1,hrel1,hv1,hst⟩
 exact⟨cv,G',ρ',k,_,[],rfl,⟨rfl,rfl,rfl⟩,aF _,hrel _ _ _ _ _ hrel1,hno _ _ _ _ _ _ _ hv1 hv,
  ⟨hst.size,hst.keep,hst.shape,hst.g,hst.g',hst.own,λ id _=> .inl (hrel1.dom id rfl),hst.os,hst.tape,hst.output⟩⟩
section
variable{P:Program}{get:Nat->Option Blk}{k t:Nat}{op:BinOp}{z:AVal}
theorem bJJ{cs:List AVal}:XT P get k op t (aA (.agg cs)) (aA z)=match xR op with|some neg=>aEq P get k t neg (.agg cs) z|none=>aC:=by cases z<;>rfl
theorem bJI{i r c:Nat}:XT P get k op t (aA (.ptr i r c)) (aA z)=match xR op with|some neg=>aEq P get k t neg (.ptr i r c) z|none=>aC:=by cases z<;>rfl
theorem bJH{cs:List AVal}:XT P get k op t (aA (.rp cs)) (aA z)=match xR op with|some neg=>aEq P get k t neg (.rp cs) z|none=>aC:=by cases z<;>rfl
theorem bJG{i r n:Nat}:XT P get k op t (aA (.sl i r n)) (aA z)=match xR op with|some neg=>aEq P get k t neg (.sl i r n) z|none=>aC:=by cases z<;>rfl
theorem bJF{i n:Nat}{f:Nat->List AVal}:XT P get k op t (aA (.rd i n f)) (aA z)=match xR op with|some neg=>aEq P get k t neg (.rd i n f) z|none=>aC:=by cases z<;>rfl
theorem a2U{v:Value}{r:List AVal}:nE (.lit v::r)=(nE r).map (v:: ·):=by simp only[nE];cases nE r<;>rfl
theorem a2V:nE []=aA []:=rfl
end
section
variable{P:Program}{Γ:dL}{nt kb:Nat}{Q:AQ}{k:Nat}{fr:Fr}{H:aO}{c:Code}{p:List Nat}
theorem pN{id:Nat}{l:List Oper}(hc:hY c p= .region id l.toArray aE)(keep:List Nat)(_hn:(l.all λ o=> !uZ o&& !aIX o)=aB)(hd:mQ nt l.toArray=aB)
 (h:∀K:List Foot->Nat->Fr->aO->Prop,(∀tr k' fr' H',(kb<=k'->Q .normal k' (kU keep fr') H')->K tr k' fr' H')->FH P Γ l.toArray l [] k fr H K .mk):W P Γ nt kb (hY c p) Q k fr H:=a6N hc keep [] hd h
theorem bAM{id:Nat}{l:List Oper}(hc:hY c p= .region id l.toArray aB)(keep:List Nat)(_hn:(l.all λ o=> !uZ o&& !aIX o)=aB)(hm:P.follows .mixedOrders=aB)(hd:mQ nt l.toArray=aB)
 (h:∀K:List Foot->Nat->Fr->aO->Prop,(∀tr k' fr' H',kP l.toArray tr=aB->(kb<=k'->Q .normal k' (kU keep fr') H')->K tr k' fr' H')->FH P Γ l.toArray l [] k fr H K .mk):W P Γ nt kb (hY c p) Q k fr H:=a6O hc keep [] hm hd h
end
attribute [go_sem] bJJ bJI bJH bJG bJF a2U a2V QH tQ KJ rQ
def VLes:List AVal->List AVal->Prop
 |[],[]=>True
 |u::us,v::vs=>VLe u v/\VLes us vs
 |_,_=>False
theorem VLes.nil:VLes [] []:=trivial
theorem VLes.cons {u v:AVal}{us vs:List AVal}(h:VLe u v)(hr:VLes us vs):VLes (u::us) (v::vs):=⟨h,hr⟩
theorem VLes.spec:∀ {us vs:List AVal},VLes us vs->us.length=vs.length/\∀(j:Nat) u v,us[j]? =aA u->vs[j]? =aA v->VLe u v
 |[],[],_=>⟨rfl,λ j u v h=>by simp at h⟩
 |u::us,v::vs,⟨h1,h2⟩=>by
  obtain⟨h3,h4⟩:=VLes.spec h2;refine⟨by simp[h3],λ j a b ha hb=>?_⟩
  cases j with
  |zero=>cases ha;cases hb;exact h1
  |succ j=>exact h4 j a b (by simpa using ha) (by simpa using hb)
 |[],_::_,h=>h.elim
 |_::_,[],h=>h.elim
theorem DP {us vs:List AVal}(h:VLes us vs):VLe (.agg us) (.agg vs):=by obtain⟨h1,h2⟩:=h.spec;exact VLe.agg h1 h2
theorem VLe.copy (s n:Nat)(f:Nat->List AVal):VLe (.rd s n (λ j=>((aN n).map f).getD (0+j) [])) (.rd s n f):=VLe.rd λ i hi=>by simp[aR,hi]
theorem vW (s n:Nat)(f:Nat->List AVal):VLe (.rd s n (λ j=>((aN n).map f).getD j [])) (.rd s n f):=VLe.rd λ i hi=>by simp[aR,hi]
theorem wY{α:Type}(l:List (Nat×α))(i j:Nat)(x:α):look ((i,x)::del l i) j=if i=j then aA x else look l j:=by
 simp only[look];split;.rfl
 rename_i h
 induction l with
 |nil=>rfl
 |cons y ys ih=>
  obtain⟨a,b⟩:=y;simp only[del];split;.rename_i he;subst he;simp only[look,iN h];exact ih
  simp only[look];split;.rfl
  exact ih
theorem Mv.row {kb k:Nat}{fr:Fr}{H:aO}(id:Nat){s:Nat}{p:Bool}{l:List (List AVal)}{r:List AVal}(r':List AVal)(hH:look H id=aA ⟨s,p,l++[r]⟩)(hr:VLes r r')(hc:((l++[r']).all λ row=>row.all clean)=aB):
 Mv kb k fr H k fr ((id,⟨s,aB,l++[r']⟩)::del H id):=λ hk=>nV ⟨hk,λ t v h=>⟨v,h,bJ v⟩,λ i B hB=>by
 rw[wY]at hB
 split at hB
 · rename_i he
   subst he
   cases hB
   obtain⟨h1,h2⟩:=hr.spec
   refine⟨_,hH,rfl,λ q row' hq=>?_,λ _=> .inr hc⟩
   rw[dN]at hq
   split at hq
   · rename_i hlt
     exact⟨row',by rw[gP hlt];exact hq,rfl,λ c u v hu hv=>by rw[hu]at hv;cases hv;exact bJ _⟩
   · rename_i hge
     have hq0:q-l.length=0:=by have:=(aK.1 hq).1;simp at this;exact this
     rw[hq0]at hq
     cases hq
     exact⟨r,by rw[iK oO,hq0];rfl,h1,λ c u v hu hv=>h2 c u v hu hv⟩
 · exact⟨B,hB,pG B⟩,.inl rfl⟩ hk
theorem aPN{f:Nat->List AVal}{n:Nat}(h:∀i,(f i).all clean=aB):(((aN n).map f).all λ row=>row.all clean)=aB:=by simp only[List.all_map,aW,Function.comp];intro i _ v hv;exact aW.1 (h i) v hv
theorem aFS{id:Nat}{B:Blk}{v:AVal}(h:clean v=aB):kH id B v=v:=by cases v<;>simp_all [clean,kH]
theorem kC{id:Nat}{B:Blk}:∀ {l:List (List AVal)},(l.all λ row=>row.all clean)=aB->l.map (λ row=>row.map (kH id B))=l
 |[],_=>rfl
 |r::q,h=>by
  simp only[fU,aH]at h;rw[bI,kC h.2];congr 1
  have:∀ {m:List AVal},m.all clean=aB->m.map (kH id B)=m:=by
   intro m hm
   induction m with
   |nil=>rfl
   |cons a b ih=>simp only[fU,aH]at hm;rw[bI,aFS hm.1,ih hm.2]
  exact this h.1
def IU(id:Nat):Nat->Bool:=λ i=>decide (i≠id)
theorem aKN{id:Nat}{B:Blk}{v:AVal}(h:LJ (IU id) v=aB):frz id B v=v:=by
 have h0:∀u,iM (IU id) u=aB->kH id B u=u:=λ u hu=>by
  cases u with
  |ptr i r c=>simp only[iM,IU,dTt]at hu;simp[kH,hu]
  |sl i r c=>simp only[iM,IU,dTt]at hu;simp[kH,hu]
  |_=>rfl
 have hl:∀(cs:List AVal),cs.all (iM (IU id))=aB->cs.map (kH id B)=cs:=λ cs=>by
  induction cs with
  |nil=>intro _;rfl
  |cons a b ih=>intro hm;simp only[fU,aH]at hm;rw[bI,h0 _ hm.1,ih hm.2]
 cases v with
 |agg cs=>simp only[frz];rw[hl cs h]
 |fn f cs=>simp only[frz];rw[hl cs h]
 |ptr i r c=>exact h0 (.ptr i r c) h
 |sl i r c=>exact h0 (.sl i r c) h
 |_=>rfl
def aAX(fr:Fr)(id:Nat):Fr->Prop
 |[]=>True
 |(t,v)::r=>look fr t=aA v/\LJ (IU id) v=aB/\aAX fr id r
def aAW(H:aO)(id:Nat):aO->Prop
 |[]=>True
 |(i,B)::r=>i≠id/\look H i=aA B/\B.pure=aB/\aAW H id r
theorem uY{fr:Fr}{id:Nat}:∀ {fr1:Fr},aAX fr id fr1->∀t v,look fr1 t=aA v->look fr t=aA v/\LJ (IU id) v=aB
 |[],_,t,v,h=>by simp[look]at h
 |(t',v')::r,⟨h1,h2,h3⟩,t,v,h=>by
  simp only[look]at h;split at h;.rename_i he;subst he;cases h;exact⟨h1,h2⟩
  exact uY h3 t v h
theorem uX{H:aO}{id:Nat}:∀ {H1:aO},aAW H id H1->∀i B,look H1 i=aA B->i≠id/\look H i=aA B/\B.pure=aB
 |[],_,t,v,h=>by simp[look]at h
 |(t',v')::r,⟨h1,h2,h3,h4⟩,t,v,h=>by
  simp only[look]at h;split at h;.rename_i he;subst he;cases h;exact⟨h1,h2,h3⟩
  exact uX h4 t v h
theorem aDL {kb k:Nat}{fr:Fr}{H:aO}{id s:Nat}{l:List (List AVal)}(t:Nat)(v:AVal)(H1:aO)(hf:look fr t=aA (dG id l))(hH:lX H id s l)(hv:VLe (rows s l) v)(h1:aAX fr id (del fr t))(h2:aAW H id H1):
 Mv kb k fr H k ((t,v)::del fr t) H1:=by
 have hvle:∀u u',VLe u u'->VLe u' v->VLe u v:=λ u u' a b w G ρ A cv h=>b w G ρ A cv (a w G ρ A cv h)
 cases l with
 |nil=>
  refine λ hk=>nV ⟨hk,λ t' u hu=>?_,λ i B hB=>⟨B,(uX h2 i B hB).2.1,pG B⟩,.inl rfl⟩ hk;simp only[look]at hu;split at hu;.rename_i he;subst he;cases hu;exact⟨_,hf,hvle _ _ (VLe.nil s _) hv⟩
  exact⟨u,(uY h1 t' u hu).1,bJ u⟩
 |cons x r=>
  have h3:=hH (by simp);refine Mv.trans (gK id h3 rfl) (λ hk=>nV ⟨hk,λ t' u hu=>?_,λ i B hB=>?_,.inl rfl⟩ hk)
  .simp only[look]at hu;split at hu;.rename_i he;subst he;cases hu;refine⟨_,by unfold pS;rw[lQ,hf];rfl,?_⟩;simp only[dG,frz,kH,fH,aF,and_self,if_true];exact hv
   obtain⟨h4,h5⟩:=uY h1 t' u hu;refine⟨u,?_,bJ u⟩;unfold pS;rw[lQ,h4,bU,aKN h5]
  obtain⟨h4,h5,h6⟩:=uX h2 i B hB;refine⟨B,?_,pG B⟩;unfold yZ;rw[lQ,gU,iN h4,h5];simp[LG,h6]
attribute [go_sem] aAX aAW IU
theorem jA{id:Nat}{B:Blk}{l m:List (List AVal)}:rS (λ row=>rS (kH id B) row) (l++m)=rS (λ row=>rS (kH id B) row) l++rS (λ row=>rS (kH id B) row) m:=aM
theorem NS{f:Nat->List AVal}{n:Nat}:(aN (n+1)).map f=(aN n).map f++[f n]:=by rw[List.range_succ,aM];rfl
def shG(g:Nat->Nat)(f:Foot):List Nat×List Nat:=(f.rds.map g,f.mods.map g)
def zP(ops:Array Oper)(oj:Oper)(fj:List Nat×List Nat)(oi:Oper)(fi:List Nat×List Nat):Bool:=
 kL (GZ oj) (pC ops oi)||kL (GZ oj) (GZ oi)||kL (GZ oi) (pC ops oj)||kL fj.2 fi.1||kL fj.2 fi.2||kL fj.1 fi.2
def EK(ops:Array Oper)(tr:List (List Nat×List Nat)):Bool:=
 (aN ops.size).all λ i=>match ops[i]?,tr[i]? with
   |some oi,aA fi=>(oi.after.toList.all λ e=> !Region.binds .any e||decide (e.on<i))&&
      (aN i).all λ j=>match ops[j]?,tr[j]? with
        |some oj,aA fj=> !zP ops oj fj oi fi||aHI ops ops.size j i
        |_,_=>aE
   |_,_=>aE
theorem IW{g:Nat->Nat}{a b:List Nat}(h:kL (a.map g) (b.map g)=aE):kL a b=aE:=by
 cases hm:kL a b with
 |false=>rfl
 |true=>
  unfold kL at hm h;obtain⟨x,hx,hb⟩:=aLX.1 hm
  have:((a.map g).any λ y=>(b.map g).contains y)=aB:=aLX.2 ⟨g x,dB.2 ⟨x,hx,rfl⟩,by
   simp only[bKV]at hb⊢
   exact dB.2 ⟨x,hb,rfl⟩⟩
  rw[this]at h;cases h
theorem XO{g:Nat->Nat}{ops:Array Oper}{oj oi:Oper}{fj fi:Foot}(h:zP ops oj (shG g fj) oi (shG g fi)=aE):mR ops oj fj oi fi=aE:=by simp only[zP,fO,shG]at h;simp only[mR,fO];obtain⟨⟨⟨⟨⟨h1,h2⟩,h3⟩,h4⟩,h5⟩,h6⟩:=h;exact⟨⟨⟨⟨⟨h1,h2⟩,h3⟩,IW h4⟩,IW h5⟩,IW h6⟩
theorem HA{ops:Array Oper}{tr:List Foot}(g:Nat->Nat){L:List (List Nat×List Nat)}(hL:tr.map (shG g)=L)(h:EK ops L=aB)(hm:(tr.all λ f=>f.mods.all λ x=>decide (x<f.k'))=aB):kP ops tr=aB:=by
 subst hL;simp only[EK,aW]at h;simp only[kP,aW];intro i hi;have h1:=h i hi;rw[aP]at h1
 cases ho:ops[i]? with
 |none=>rw[ho]at h1;simp at h1
 |some oi=>
  cases ht:tr[i]? with
  |none=>rw[ho,ht]at h1;simp at h1
  |some fi=>
   rw[ho,ht]at h1;simp only[bU,aH,aW]at h1;simp only[aH,aW];refine⟨⟨h1.1,?_⟩,λ j hj=>?_⟩;.have:=aW.1 hm fi (iG ht);exact λ x hx=>aW.1 this x hx
   have h2:=h1.2 j hj;rw[aP]at h2
   cases hoj:ops[j]? with
   |none=>rw[hoj]at h2;simp at h2
   |some oj=>
    cases htj:tr[j]? with
    |none=>rw[hoj,htj]at h2;simp at h2
    |some fj=>
     rw[hoj,htj]at h2;simp only[bU,bL,bD]at h2;simp only[bL,bD];rcases h2 with h2|h2;.exact .inl (XO h2)
     exact .inr h2
theorem a4X{P:Program}{Γ:dL}{nt kb:Nat}{Q:AQ}{k:Nat}{fr:Fr}{H:aO}{c:Code}{p:List Nat}{x y:Code}(hc:hY c p= .seq x y)(keep:List Nat)(kx:Nat)(u:Fr)(Hx:aO)
 (h1:W P Γ nt kb (hY c (0::p)) (mX (λ k' fr' H'=>Mv kb k' fr' H' kx (IT keep u fr) Hx) Q) k fr H) (h2:W P Γ nt kb (hY c (1::p)) Q kx (IT keep u fr) Hx):W P Γ nt kb (hY c p) Q k fr H:=bAN hc kx _ Hx h1 h2
theorem lJ{P:Program}{Γ:dL}{nt kb:Nat}{Q:AQ}{k:Nat}{fr:Fr}{H:aO}{c:Code}(keep:List Nat)(kx:Nat)(u:Fr)(Hx:aO)
 (h1:W P Γ nt kb c (λ e k' fr' H'=>e= .normal/\Mv kb k' fr' H' kx (IT keep u fr) Hx) k fr H) (h2:Q .normal kx (IT keep u fr) Hx):W P Γ nt kb c Q k fr H:=
 pA (lI h1 λ e k' fr' H' h=>by obtain⟨rfl,hm⟩:=h;exact⟨_,_,_,hm,h2⟩)
section
variable{id j s:Nat}{l:List (List AVal)}{H H0:aO}{B:Blk}{u:List (Nat×Option Blk)}
def KS(H:aO)(id:Nat)(l:List (List AVal)):Prop:=l≠[]->(AM.look H id).isSome=aB
theorem vU:KS (cL id s l H) id l=True:=by
 simp only[KS,eq_iff_iff,iff_true]
 intro h;cases l with
 |nil=>exact absurd rfl h
 |cons a r=>simp[cL,AM.look]
theorem aHQ(h:j≠id):KS ((j,B)::H) id l=KS H id l:=by simp[KS,AM.look,h]
theorem aXQ(h:KS H0 id l):iM (eQ H0) (dG id l)=aB:=by
 cases l with
 |nil=>rfl
 |cons a r=>simp only[dG,iM,eQ];exact h (by simp)
theorem HL(h:KS H0 id l):bd (eQ H0) (dG id l)=aB:=by
 cases l with
 |nil=>rfl
 |cons a r=>simp only[dG,bd,LJ,iM,eQ];exact h (by simp)
theorem aXN(h:KS H0 id l):oM (eQ H0) (cL id s l H)=oM (eQ H0) H:=by
 cases l with
 |nil=>rfl
 |cons a r=>have h':=h (by simp);simp[cL,oM,eQ,h']
theorem aLZ(h:del (lK H u) id=lK H u):lK H (rS (λ x=>(x.1,aA x.2)) (cL id s l [])++u)=cL id s l (lK H u):=by
 cases l with
 |nil=>rfl
 |cons a r=>simp[cL,lK,h]
theorem aMA:lK H (rS (λ x=>(x.1,aC)) (cL id s l []))=lK H (vV id l):=by
 cases l with
 |nil=>rfl
 |cons a r=>rfl
theorem a2H:rS (λ x=>x.1) (cL id s l [])=pL id l:=by cases l<;>rfl
theorem aUV:rS (λ x:Nat×Option Blk=>x.1) (rS (λ x:Nat×Blk=>(x.1,aA x.2)) (cL id s l []))=pL id l:=by cases l<;>rfl
theorem aUW:rS (λ x:Nat×Option Blk=>x.1) (rS (λ x:Nat×Blk=>(x.1,(aC:Option Blk))) (cL id s l []))=pL id l:=by cases l<;>rfl
end
theorem a2G{a b:List (Nat×Option Blk)}:rS (λ x:Nat×Option Blk=>x.1) (a++b)=rS (λ x=>x.1) a++rS (λ x=>x.1) b:=aM
theorem aHP{id:Nat}{l:List (List AVal)}{p:Nat->Bool}(h:p id=aB):(pL id l).all p=aB:=by cases l<;>simp[pL,h]
section
variable{j:Nat}{B C:Blk}{H:aO}
theorem aUX:yZ j B []=[]:=rfl
theorem a2J:yZ j B ((j,C)::H)=yZ j B H:=by simp[yZ,del]
theorem a2I{i:Nat}(h:i≠j):yZ j B ((i,C)::H)=(i,LG j B C)::yZ j B H:=by simp[yZ,del,h]
theorem aUZ{id s:Nat}{l:List (List AVal)}(h:id≠j):yZ j B (cL id s l H)=cL id s l (yZ j B H):=by
 cases l with
 |nil=>rfl
 |cons a r=>simp[cL,yZ,del,h,LG]
theorem aOD{sz:Nat}{rows:List (List AVal)}:LG j B ⟨sz,aB,rows⟩=⟨sz,aB,rows⟩:=rfl
theorem aVA{sz:Nat}{rows:List (List AVal)}:LG j B ⟨sz,aE,rows⟩=⟨sz,aE,rows.map λ row=>row.map (kH j B)⟩:=rfl
theorem aVC{id:Nat}{l:List (List AVal)}(h:id≠j):kH j B (dG id l)=dG id l:=by cases l<;>simp[dG,kH,h]
theorem frz_acc{id:Nat}{l:List (List AVal)}(h:id≠j):frz j B (dG id l)=dG id l:=by cases l<;>simp[dG,frz,kH,h]
theorem z_1{v:Value}:kH j B (.lit v)= .lit v:=rfl
theorem z_2{i r n:Nat}:kH j B (.sl i r n)=if i=j/\r+n<=B.rows.length then .rd B.sz n (λ q=>B.rows.getD (r+q) [])else .sl i r n:=rfl
theorem z_3{i r c:Nat}:kH j B (.ptr i r c)=if i=j/\r<B.rows.length then .rp ((B.rows.getD r []).drop c)else .ptr i r c:=rfl
theorem z_4{s n:Nat}{f:Nat->List AVal}:kH j B (.rd s n f)= .rd s n f:=rfl
theorem z_5{cs:List AVal}:kH j B (.rp cs)= .rp cs:=rfl
theorem y_1{v:Value}:frz j B (.lit v)= .lit v:=rfl
theorem y_2{i r n:Nat}:frz j B (.sl i r n)=kH j B (.sl i r n):=rfl
theorem y_3{i r c:Nat}:frz j B (.ptr i r c)=kH j B (.ptr i r c):=rfl
theorem y_4{s n:Nat}{f:Nat->List AVal}:frz j B (.rd s n f)= .rd s n f:=rfl
theorem y_5{cs:List AVal}:frz j B (.rp cs)= .rp cs:=rfl
theorem y_7{f:FuncId}{cs:List AVal}:frz j B (.fn f cs)= .fn f (cs.map (kH j B)):=rfl
theorem y_8{cs:List AVal}:frz j B (.agg cs)= .agg (cs.map (kH j B)):=rfl
end
attribute [go_sem] aUX a2J a2I aUZ aOD aVA aVC frz_acc z_1 z_2 z_3 z_4 z_5 y_1 y_2 y_3 y_4 y_5 y_7 y_8 a2G aHP List.all_append
attribute [go_sem] vU aHQ aXQ HL aXN aLZ aMA a2H aUV aUW
theorem Mv.pure {kb k:Nat}{fr:Fr}{H:aO}(id:Nat){s:Nat}{p:Bool}{rows:List (List AVal)}(hH:look H id=aA ⟨s,p,rows⟩)(hc:(rows.all λ row=>row.all clean)=aB):
 Mv kb k fr H k fr ((id,⟨s,aB,rows⟩)::del H id):=λ hk=>nV ⟨hk,λ t v h=>⟨v,h,bJ v⟩,λ i B hB=>by
 rw[wY]at hB
 split at hB
 · rename_i he
   subst he
   cases hB
   exact⟨_,hH,rfl,λ q row hq=>⟨row,hq,rfl,λ c u v hu hv=>by rw[hu]at hv;cases hv;exact bJ _⟩,λ _=> .inr hc⟩
 · exact⟨B,hB,pG B⟩,.inl rfl⟩ hk
theorem fK{L k:Nat}(h:L<k):(∀c,(k+c=L)=False)/\(∀c,(L=k+c)=False)/\((k=L)=False)/\((L=k)=False)/\(∀c,(L<k+c)=True)/\((L<k)=True):=
 ⟨λ c=>by simp;omega,λ c=>by simp;omega,by simp;omega,by simp;omega,λ c=>by simp;omega,by simp[h]⟩
theorem iR{L F:Nat}(h:L≠F):((L=F)=False)/\((F=L)=False):=⟨eq_false h,eq_false (λ e=>h e.symm)⟩
theorem nf:(∀(p:Prop) [Decidable p],(decide p=aB)=p)/\(∀(p:Prop) [Decidable p],decide p=aE↔¬p)/\(∀(α:Type) [BEq α] [LawfulBEq α] (a b:α),(a !=b)=aB↔a≠b)/\(∀(α:Type) [BEq α] [LawfulBEq α] (a b:α),(a==b)=aB↔a=b)/\(∀(α:Type) [BEq α] [LawfulBEq α] (a:α),(a !=a)=aE)/\(∀(α:Type) [BEq α] [LawfulBEq α] (a:α),(a==a)=aB)/\(∀(α:Type) (a b:α),(a≠b)=¬(a=b))/\(∀b:Bool,((!b)=aB)=(b=aE))/\(∀b:Bool,((!b)=aE)=(b=aB))/\(∀b:Bool,(!!b)=b)/\(∀(α:Type) [BEq α] [LawfulBEq α] (a b:α),(a !=b)=aE↔a=b)/\(∀(α:Type) [BEq α] [LawfulBEq α] (a b:α),(a==b)=aE↔a≠b)/\((aE=aB)=False)/\((aB=aE)=False)/\(∀a b:Int,¬a<b↔b<=a)/\(∀a b:Int,¬a<=b↔b<a)/\((!aB)=aE)/\((!aE)=aB):=
 ⟨λ _ _=>dTt,λ _ _=>dFn,λ _ _ _ _ _=>bne_iff_ne,λ _ _ _ _ _=>beq_iff_eq,λ _ _ _ _=>bne_self_eq_false _,λ _ _ _ _=>beq_self_eq_true _,λ _ _ _=>rfl,λ b=>by cases b<;>simp,λ b=>by cases b<;>simp,Bool.not_not,λ _ _ _ _ _=>bne_eq_false_iff_eq,λ _ _ _ _ _=>beq_eq_false_iff_ne,aS,bX,λ _ _=>Int.not_lt,λ _ _=>Int.not_le,rfl,rfl⟩
theorem nfb:(∀(p:Prop) [Decidable p],(decide p=aB)=p)/\(∀(p:Prop) [Decidable p],decide p=aE↔¬p)/\(∀b:Bool,((!b)=aB)=(b=aE))/\(∀b:Bool,((!b)=aE)=(b=aB))/\(∀b:Bool,(!!b)=b)/\((!aB)=aE)/\((!aE)=aB):=
 ⟨λ _ _=>dTt,λ _ _=>dFn,λ b=>by cases b<;>simp,λ b=>by cases b<;>simp,Bool.not_not,rfl,rfl⟩
theorem nfe:(∀(α:Type) [BEq α] [LawfulBEq α] (a b:α),(a==b)=aB↔a=b)/\(∀(α:Type) [BEq α] [LawfulBEq α] (a b:α),(a==b)=aE↔a≠b)/\(∀(α:Type) [BEq α] [LawfulBEq α] (a b:α),(a !=b)=aB↔a≠b)/\(∀(α:Type) [BEq α] [LawfulBEq α] (a b:α),(a !=b)=aE↔a=b)/\(∀(α:Type) (a b:α),(a≠b)=¬(a=b))/\((aE=aB)=False)/\((aB=aE)=False):=
 ⟨λ _ _ _ _ _=>beq_iff_eq,λ _ _ _ _ _=>beq_eq_false_iff_ne,λ _ _ _ _ _=>bne_iff_ne,λ _ _ _ _ _=>bne_eq_false_iff_eq,λ _ _ _=>rfl,aS,bX⟩
attribute [go_sem] List.getD_cons_zero List.getD_cons_succ List.length_range aF rQ bP cX bM ne_eq gD List.range_zero Nat.lt_add_right_iff_pos Nat.add_lt_add_iff_left Nat.add_le_add_iff_left Nat.le_add_right Nat.left_eq_add Nat.add_eq_left Nat.add_left_cancel_iff Nat.lt_add_one reduceCtorEq Nat.reduceEqDiff YG Nat.reduceSub Nat.reduceMul Nat.reduceLeDiff Nat.reduceLT Nat.reduceBEq Int.reduceLT Int.reduceLE Int.reduceEq Int.reduceToNat Int.reduceNeg Int.reduceBEq Int.reduceAdd Int.reduceSub Int.reduceMul Nat.reduceMod Nat.reduceDiv
theorem iF{p:Prop}(h:p:=by kernel_rfl):p:=h
theorem iA{α:Type _}{a b:α}(h:a=b:=by kernel_rfl):aA a=aA b:=congrArg aA h
structure Hd (G:Prop):Prop where
 o:G
structure Mk:Prop where
 o:True
structure Kp (l:List Nat) (g:Nat->Nat):Prop where
 o:True
structure Os (l:List Orc):Prop where
theorem GC{G P1 P2 P3 P4 P5 P6 P7 P8 P9 P10 P11 P12:Prop}(a1:Hd P1)(a2:Hd P2)(a3:Hd P3)(a4:Hd P4)(a5:Hd P5)(a6:Hd P6)(a7:Hd P7)(a8:Hd P8)(a9:Hd P9)(a10:Hd P10)(a11:Hd P11)(a12:Hd P12)(h:Hd P1->Hd P2->Hd P3->Hd P4->Hd P5->Hd P6->Hd P7->Hd P8->Hd P9->Hd P10->Hd P11->Hd P12->G:=by intro a1 a2 a3 a4 a5 a6 a7 a8 a9 a10 a11 a12;first|((fail_if_success(fail_if_success(have zz:Hd Mk:=a1)));exact Hd.o a1)|((fail_if_success(fail_if_success(have zz:Hd Mk:=a2)));exact Hd.o a2)|((fail_if_success(fail_if_success(have zz:Hd Mk:=a3)));exact Hd.o a3)|((fail_if_success(fail_if_success(have zz:Hd Mk:=a4)));exact Hd.o a4)|((fail_if_success(fail_if_success(have zz:Hd Mk:=a5)));exact Hd.o a5)|((fail_if_success(fail_if_success(have zz:Hd Mk:=a6)));exact Hd.o a6)|((fail_if_success(fail_if_success(have zz:Hd Mk:=a7)));exact Hd.o a7)|((fail_if_success(fail_if_success(have zz:Hd Mk:=a8)));exact Hd.o a8)|((fail_if_success(fail_if_success(have zz:Hd Mk:=a9)));exact Hd.o a9)|((fail_if_success(fail_if_success(have zz:Hd Mk:=a10)));exact Hd.o a10)|((fail_if_success(fail_if_success(have zz:Hd Mk:=a11)));exact Hd.o a11)|((fail_if_success(fail_if_success(have zz:Hd Mk:=a12)));exact Hd.o a12)):G:=h a1 a2 a3 a4 a5 a6 a7 a8 a9 a10 a11 a12
theorem GB{P1 P2 P3 P4 P5 P6 P7 P8 P9 P10 P11 P12:Prop}(a1:Hd P1)(a2:Hd P2)(a3:Hd P3)(a4:Hd P4)(a5:Hd P5)(a6:Hd P6)(a7:Hd P7)(a8:Hd P8)(a9:Hd P9)(a10:Hd P10)(a11:Hd P11)(a12:Hd P12)(h:Hd P1->Hd P2->Hd P3->Hd P4->Hd P5->Hd P6->Hd P7->Hd P8->Hd P9->Hd P10->Hd P11->Hd P12->True:=by intro a1 a2 a3 a4 a5 a6 a7 a8 a9 a10 a11 a12;(try have zz:Hd True:=a1);(try have zz:Hd True:=a2);(try have zz:Hd True:=a3);(try have zz:Hd True:=a4);(try have zz:Hd True:=a5);(try have zz:Hd True:=a6);(try have zz:Hd True:=a7);(try have zz:Hd True:=a8);(try have zz:Hd True:=a9);(try have zz:Hd True:=a10);(try have zz:Hd True:=a11);(try have zz:Hd True:=a12);exact trivial):True:=h a1 a2 a3 a4 a5 a6 a7 a8 a9 a10 a11 a12
theorem zM{G:Prop}(h:G):Hd G:=⟨h⟩
theorem zN{G:Prop}(h:G):Hd (Hd G):=⟨⟨h⟩⟩
theorem zs{G:Prop}(h:G):Hd (Hd (Hd G)):=⟨⟨⟨h⟩⟩⟩
theorem zA{a b:Prop}(h:a)(k:b):a/\b:=⟨h,k⟩
theorem tZ{p0 p1 p2:Prop}(h0:p0)(h1:p1)(h2:p2):p0/\p1/\p2:=⟨h0,h1,h2⟩
theorem DR{p0 p1 p2 p3:Prop}(h0:p0)(h1:p1)(h2:p2)(h3:p3):p0/\p1/\p2/\p3:=⟨h0,h1,h2,h3⟩
theorem ID{p0 p1 p2 p3 p4:Prop}(h0:p0)(h1:p1)(h2:p2)(h3:p3)(h4:p4):p0/\p1/\p2/\p3/\p4:=⟨h0,h1,h2,h3,h4⟩
theorem rA{p0 p1 p2 p3 p4 p5:Prop}(h0:p0)(h1:p1)(h2:p2)(h3:p3)(h4:p4)(h5:p5):p0/\p1/\p2/\p3/\p4/\p5:=⟨h0,h1,h2,h3,h4,h5⟩
theorem xC{p0 p1 p2 p3 p4 p5 p6:Prop}(h0:p0)(h1:p1)(h2:p2)(h3:p3)(h4:p4)(h5:p5)(h6:p6):p0/\p1/\p2/\p3/\p4/\p5/\p6:=⟨h0,h1,h2,h3,h4,h5,h6⟩
theorem AO{p0 p1 p2 p3 p4 p5 p6 p7:Prop}(h0:p0)(h1:p1)(h2:p2)(h3:p3)(h4:p4)(h5:p5)(h6:p6)(h7:p7):p0/\p1/\p2/\p3/\p4/\p5/\p6/\p7:=⟨h0,h1,h2,h3,h4,h5,h6,h7⟩
theorem fP{p0 p1 p2 p3 p4 p5 p6 p7 p8:Prop}(h0:p0)(h1:p1)(h2:p2)(h3:p3)(h4:p4)(h5:p5)(h6:p6)(h7:p7)(h8:p8):p0/\p1/\p2/\p3/\p4/\p5/\p6/\p7/\p8:=⟨h0,h1,h2,h3,h4,h5,h6,h7,h8⟩
theorem gG:Hd True:=⟨trivial⟩
theorem uU:(aB&&aB)=aB:=rfl
theorem zq0:Hd True/\Hd True/\Hd True/\Hd True/\Hd True/\Hd True/\Hd True/\Hd True/\Hd True/\Hd True/\Hd True/\Hd True:=⟨gG,gG,gG,gG,gG,gG,gG,gG,gG,gG,gG,gG⟩
theorem oU{P0:Prop}(a0:Hd P0):Hd P0/\Hd True/\Hd True/\Hd True/\Hd True/\Hd True/\Hd True/\Hd True/\Hd True/\Hd True/\Hd True/\Hd True:=⟨a0,gG,gG,gG,gG,gG,gG,gG,gG,gG,gG,gG⟩
theorem SG{P0 P1:Prop}(a0:Hd P0)(a1:Hd P1):Hd P0/\Hd P1/\Hd True/\Hd True/\Hd True/\Hd True/\Hd True/\Hd True/\Hd True/\Hd True/\Hd True/\Hd True:=⟨a0,a1,gG,gG,gG,gG,gG,gG,gG,gG,gG,gG⟩
theorem jV{P0 P1 P2:Prop}(a0:Hd P0)(a1:Hd P1)(a2:Hd P2):Hd P0/\Hd P1/\Hd P2/\Hd True/\Hd True/\Hd True/\Hd True/\Hd True/\Hd True/\Hd True/\Hd True/\Hd True:=⟨a0,a1,a2,gG,gG,gG,gG,gG,gG,gG,gG,gG⟩
theorem CM{P0 P1 P2 P3:Prop}(a0:Hd P0)(a1:Hd P1)(a2:Hd P2)(a3:Hd P3):Hd P0/\Hd P1/\Hd P2/\Hd P3/\Hd True/\Hd True/\Hd True/\Hd True/\Hd True/\Hd True/\Hd True/\Hd True:=⟨a0,a1,a2,a3,gG,gG,gG,gG,gG,gG,gG,gG⟩
theorem zq5{P0 P1 P2 P3 P4:Prop}(a0:Hd P0)(a1:Hd P1)(a2:Hd P2)(a3:Hd P3)(a4:Hd P4):Hd P0/\Hd P1/\Hd P2/\Hd P3/\Hd P4/\Hd True/\Hd True/\Hd True/\Hd True/\Hd True/\Hd True/\Hd True:=⟨a0,a1,a2,a3,a4,gG,gG,gG,gG,gG,gG,gG⟩
theorem zq6{P0 P1 P2 P3 P4 P5:Prop}(a0:Hd P0)(a1:Hd P1)(a2:Hd P2)(a3:Hd P3)(a4:Hd P4)(a5:Hd P5):Hd P0/\Hd P1/\Hd P2/\Hd P3/\Hd P4/\Hd P5/\Hd True/\Hd True/\Hd True/\Hd True/\Hd True/\Hd True:=⟨a0,a1,a2,a3,a4,a5,gG,gG,gG,gG,gG,gG⟩
theorem zq7{P0 P1 P2 P3 P4 P5 P6:Prop}(a0:Hd P0)(a1:Hd P1)(a2:Hd P2)(a3:Hd P3)(a4:Hd P4)(a5:Hd P5)(a6:Hd P6):Hd P0/\Hd P1/\Hd P2/\Hd P3/\Hd P4/\Hd P5/\Hd P6/\Hd True/\Hd True/\Hd True/\Hd True/\Hd True:=⟨a0,a1,a2,a3,a4,a5,a6,gG,gG,gG,gG,gG⟩
theorem zq8{P0 P1 P2 P3 P4 P5 P6 P7:Prop}(a0:Hd P0)(a1:Hd P1)(a2:Hd P2)(a3:Hd P3)(a4:Hd P4)(a5:Hd P5)(a6:Hd P6)(a7:Hd P7):Hd P0/\Hd P1/\Hd P2/\Hd P3/\Hd P4/\Hd P5/\Hd P6/\Hd P7/\Hd True/\Hd True/\Hd True/\Hd True:=⟨a0,a1,a2,a3,a4,a5,a6,a7,gG,gG,gG,gG⟩
theorem zq9{P0 P1 P2 P3 P4 P5 P6 P7 P8:Prop}(a0:Hd P0)(a1:Hd P1)(a2:Hd P2)(a3:Hd P3)(a4:Hd P4)(a5:Hd P5)(a6:Hd P6)(a7:Hd P7)(a8:Hd P8):Hd P0/\Hd P1/\Hd P2/\Hd P3/\Hd P4/\Hd P5/\Hd P6/\Hd P7/\Hd P8/\Hd True/\Hd True/\Hd True:=⟨a0,a1,a2,a3,a4,a5,a6,a7,a8,gG,gG,gG⟩
theorem bLL{P0 P1 P2 P3 P4 P5 P6 P7 P8 P9:Prop}(a0:Hd P0)(a1:Hd P1)(a2:Hd P2)(a3:Hd P3)(a4:Hd P4)(a5:Hd P5)(a6:Hd P6)(a7:Hd P7)(a8:Hd P8)(a9:Hd P9):Hd P0/\Hd P1/\Hd P2/\Hd P3/\Hd P4/\Hd P5/\Hd P6/\Hd P7/\Hd P8/\Hd P9/\Hd True/\Hd True:=⟨a0,a1,a2,a3,a4,a5,a6,a7,a8,a9,gG,gG⟩
theorem bLK{P0 P1 P2 P3 P4 P5 P6 P7 P8 P9 P10:Prop}(a0:Hd P0)(a1:Hd P1)(a2:Hd P2)(a3:Hd P3)(a4:Hd P4)(a5:Hd P5)(a6:Hd P6)(a7:Hd P7)(a8:Hd P8)(a9:Hd P9)(a10:Hd P10):Hd P0/\Hd P1/\Hd P2/\Hd P3/\Hd P4/\Hd P5/\Hd P6/\Hd P7/\Hd P8/\Hd P9/\Hd P10/\Hd True:=⟨a0,a1,a2,a3,a4,a5,a6,a7,a8,a9,a10,gG⟩
theorem bBL{P0 P1 P2 P3 P4 P5 P6 P7 P8 P9 P10 P11:Prop}(a0:Hd P0)(a1:Hd P1)(a2:Hd P2)(a3:Hd P3)(a4:Hd P4)(a5:Hd P5)(a6:Hd P6)(a7:Hd P7)(a8:Hd P8)(a9:Hd P9)(a10:Hd P10)(a11:Hd P11):Hd P0/\Hd P1/\Hd P2/\Hd P3/\Hd P4/\Hd P5/\Hd P6/\Hd P7/\Hd P8/\Hd P9/\Hd P10/\Hd P11:=⟨a0,a1,a2,a3,a4,a5,a6,a7,a8,a9,a10,a11⟩
theorem cA{G:Prop}(h:G):Hd (Hd (Hd G))/\Hd True/\Hd True/\Hd True/\Hd True/\Hd True/\Hd True/\Hd True/\Hd True/\Hd True/\Hd True/\Hd True:=oU (zs h)
theorem dI{X:Sort _}{G:X->Prop}(h:∀t,G t):Hd (∀t,Hd (Hd (G t)))/\Hd True/\Hd True/\Hd True/\Hd True/\Hd True/\Hd True/\Hd True/\Hd True/\Hd True/\Hd True/\Hd True:=oU ⟨λ t=>zN (h t)⟩
theorem iE{G F:Prop}(h:G)(f:F):Hd (Hd (Hd G))/\Hd (Hd (Hd F))/\Hd True/\Hd True/\Hd True/\Hd True/\Hd True/\Hd True/\Hd True/\Hd True/\Hd True/\Hd True:=SG (zs h) (zs f)
theorem oT{X Y:Sort _}{G:X->Prop}{F:Y->Prop}(h:∀t,G t)(f:∀t,F t):Hd (∀t,Hd (Hd (G t)))/\Hd (∀t,Hd (Hd (F t)))/\Hd True/\Hd True/\Hd True/\Hd True/\Hd True/\Hd True/\Hd True/\Hd True/\Hd True/\Hd True:=SG ⟨λ t=>zN (h t)⟩ ⟨λ t=>zN (f t)⟩
theorem two{Q:Prop}(x:Q)(_:True):Q:=x
theorem jZ{l:List Nat}{g:Nat->Nat}:Kp l g:=⟨trivial⟩
theorem gZ(k:Nat)(L:List Nat):Kp L (λ i=>i-k):=jZ
theorem kpb(k h:Nat)(L:List Nat):Kp L (λ i=>if h<=i then i-h+10 else i-k):=jZ
section
variable{P:Program}{Γ:dL}{nt kb:Nat}{Q:AQ}{k:Nat}{fr:Fr}{H:aO}{c:Code}{p:List Nat}{keep:List Nat}{g:Nat->Nat}
theorem YD(_:Kp keep g){id:Nat}{l:List Oper}(hc:hY c p= .region id l.toArray aE)(hn:(l.all λ o=> !uZ o&& !aIX o)=aB)(hd:mQ nt l.toArray=aB)
 (h:∀K:List Foot->Nat->Fr->aO->Prop,(∀tr k' fr' H',(kb<=k'->Q .normal k' (kU keep fr') H')->K tr k' fr' H')->FH P Γ l.toArray l [] k fr H K .mk):W P Γ nt kb (hY c p) Q k fr H:=pN hc keep hn hd h
theorem YE(_:Kp keep g){id:Nat}{l:List Oper}(hc:hY c p= .region id l.toArray aB)(hn:(l.all λ o=> !uZ o&& !aIX o)=aB)(hm:P.follows .mixedOrders=aB)(hd:mQ nt l.toArray=aB)
 (h:∀K:List Foot->Nat->Fr->aO->Prop,(∀tr k' fr' H',kP l.toArray tr=aB->(kb<=k'->Q .normal k' (kU keep fr') H')->K tr k' fr' H')->FH P Γ l.toArray l [] k fr H K .mk):W P Γ nt kb (hY c p) Q k fr H:=bAM hc keep hn hm hd h
theorem aIA(_:Kp keep g){cs:List Orc}(_:Os cs){id:Nat}{l:List Oper}(hc:hY c p= .region id l.toArray aE)(hd:mQ nt l.toArray=aB)
 (h:∀K:List Foot->Nat->Fr->aO->Prop,(∀tr k' fr' H',(kb<=k'->Q .normal k' (kU keep fr') H')->K tr k' fr' H')->FH P Γ l.toArray l cs k fr H K .mk):W P Γ nt kb (hY c p) Q k fr H:=KT hc keep cs hd h
theorem aIB(_:Kp keep g){cs:List Orc}(_:Os cs){id:Nat}{l:List Oper}(hc:hY c p= .region id l.toArray aB)(hm:P.follows .mixedOrders=aB)(hd:mQ nt l.toArray=aB)
 (h:∀K:List Foot->Nat->Fr->aO->Prop,(∀tr k' fr' H',kP l.toArray tr=aB->(kb<=k'->Q .normal k' (kU keep fr') H')->K tr k' fr' H')->FH P Γ l.toArray l cs k fr H K .mk):W P Γ nt kb (hY c p) Q k fr H:=aLT hc keep cs hm hd h
end
theorem aVU{keep:List Nat}{g:Nat->Nat}(_:Kp keep g){ops:Array Oper}{tr:List Foot}{L:List (List Nat×List Nat)}(hL:tr.map (shG g)=L)(h:EK ops L=aB)(hm:(tr.all λ f=>f.mods.all λ x=>decide (x<f.k'))=aB):kP ops tr=aB:=HA g hL h hm
theorem wl{Q P1 P2 P3 P4 P5 P6 P7 P8 P9 P10 P11 P12:Prop}(p:Hd P1/\Hd P2/\Hd P3/\Hd P4/\Hd P5/\Hd P6/\Hd P7/\Hd P8/\Hd P9/\Hd P10/\Hd P11/\Hd P12)
 (h:Hd P1->Hd P2->Hd P3->Hd P4->Hd P5->Hd P6->Hd P7->Hd P8->Hd P9->Hd P10->Hd P11->Hd P12->Q:=by
 intro a1 a2 a3 a4 a5 a6 a7 a8 a9 a10 a11 a12;refine two ?_ ?_;·(repeat'(first|(refine gW rfl ?_)|(refine AC rfl ?_)|(refine AB rfl ?_;(try simp-dsimp-implicitDefEqProofs only[go_sem,uU,eq_self,↓reduceIte]))|(refine FK rfl ?_;(try simp-dsimp-implicitDefEqProofs only[go_sem,uU,eq_self,↓reduceIte]))|(refine tK rfl _ rfl (λ zt=>?_) (λ zt=>?_)<;>(try(simp only[nf]at zt))<;>(try(exfalso;omega)))|((first|(refine YD kp rfl rfl rfl (λ zK hK=>?_))|(refine YE kp rfl rfl iF rfl (λ zK hK=>?_)));simp-dsimp-implicitDefEqProofs only[go_sem,uU,eq_self,↓reduceIte];(repeat'(first|(refine And.intro ?_ ?_)|(refine kY (λ hb=>?_) (λ hb=>?_)<;>(have zg:=hb;(try simp only[nfb]at zg);simp-dsimp-implicitDefEqProofs only[go_sem,uU,hb,zg,eq_self,↓reduceIte];clear hb;(try simp only[nfe]at zg)))));any_goals ((first|refine hK _ _ _ _ (λ hx=>?_)|refine hK _ _ _ _ (aVU kp (by simp only[bI,bQ,shG,uU,↓reduceIte,lE,RX];rfl) (by decide+kernel) (sV @uU)) (λ hx=>?_)|refine hK _ _ _ _ (JI iF (sV @uU)) (λ hx=>?_));clear hx hK;simp-dsimp-implicitDefEqProofs only[go_sem,uU,eq_self,↓reduceIte];(try simp(disch:=omega)only[wrap_i64,wrap_u64,wrap_u32,nX])))|omega));all_goals(refine Hd.o ?_;(repeat revert zg);refine Hd.o ?_;(repeat revert zt);exact GC a1 a2 a3 a4 a5 a6 a7 a8 a9 a10 a11 a12)
 exact GB a1 a2 a3 a4 a5 a6 a7 a8 a9 a10 a11 a12):Q:=h p.1 p.2.1 p.2.2.1 p.2.2.2.1 p.2.2.2.2.1 p.2.2.2.2.2.1 p.2.2.2.2.2.2.1 p.2.2.2.2.2.2.2.1 p.2.2.2.2.2.2.2.2.1 p.2.2.2.2.2.2.2.2.2.1 p.2.2.2.2.2.2.2.2.2.2.1 p.2.2.2.2.2.2.2.2.2.2.2
theorem cl(os:List Orc){Q P1 P2 P3 P4 P5 P6 P7 P8 P9 P10 P11 P12:Prop}(p:Hd P1/\Hd P2/\Hd P3/\Hd P4/\Hd P5/\Hd P6/\Hd P7/\Hd P8/\Hd P9/\Hd P10/\Hd P11/\Hd P12)
 (h:Os os->Hd P1->Hd P2->Hd P3->Hd P4->Hd P5->Hd P6->Hd P7->Hd P8->Hd P9->Hd P10->Hd P11->Hd P12->Q:=by
 intro oo a1 a2 a3 a4 a5 a6 a7 a8 a9 a10 a11 a12;refine two ?_ ?_;·(refine aIA kp oo rfl rfl (λ zK hK=>?_));simp-dsimp-implicitDefEqProofs only[go_sem,uU,eq_self,↓reduceIte];(repeat'(first|(refine And.intro ?_ ?_)|(refine kY (λ hb=>?_) (λ hb=>?_)<;>(have zg:=hb;(try simp only[nfb]at zg);simp-dsimp-implicitDefEqProofs only[go_sem,uU,hb,zg,eq_self,↓reduceIte];clear hb;(try simp only[nfe]at zg)))));(any_goals ((refine hK _ _ _ _ (λ hx=>?_));clear hx hK;simp-dsimp-implicitDefEqProofs only[go_sem,uU,eq_self,↓reduceIte];(try simp(disch:=omega)only[wrap_i64,wrap_u64,wrap_u32,nX])));(all_goals(try omega));all_goals(refine Hd.o ?_;(repeat revert zg);refine Hd.o ?_;(repeat revert zt);exact GC a1 a2 a3 a4 a5 a6 a7 a8 a9 a10 a11 a12)
 exact GB a1 a2 a3 a4 a5 a6 a7 a8 a9 a10 a11 a12):Q:=h ⟨⟩ p.1 p.2.1 p.2.2.1 p.2.2.2.1 p.2.2.2.2.1 p.2.2.2.2.2.1 p.2.2.2.2.2.2.1 p.2.2.2.2.2.2.2.1 p.2.2.2.2.2.2.2.2.1 p.2.2.2.2.2.2.2.2.2.1 p.2.2.2.2.2.2.2.2.2.2.1 p.2.2.2.2.2.2.2.2.2.2.2
theorem dl(os:List Orc){Q P1 P2 P3 P4 P5 P6 P7 P8 P9 P10 P11 P12:Prop}(p:Hd P1/\Hd P2/\Hd P3/\Hd P4/\Hd P5/\Hd P6/\Hd P7/\Hd P8/\Hd P9/\Hd P10/\Hd P11/\Hd P12)
 (h:Os os->Hd P1->Hd P2->Hd P3->Hd P4->Hd P5->Hd P6->Hd P7->Hd P8->Hd P9->Hd P10->Hd P11->Hd P12->Q:=by
 intro oo a1 a2 a3 a4 a5 a6 a7 a8 a9 a10 a11 a12;refine two ?_ ?_;·(refine aIB kp oo rfl iF rfl (λ zK hK=>?_));simp-dsimp-implicitDefEqProofs only[go_sem,uU,eq_self,↓reduceIte];(repeat'(first|(refine And.intro ?_ ?_)|(refine kY (λ hb=>?_) (λ hb=>?_)<;>(have zg:=hb;(try simp only[nfb]at zg);simp-dsimp-implicitDefEqProofs only[go_sem,uU,hb,zg,eq_self,↓reduceIte];clear hb;(try simp only[nfe]at zg)))));(any_goals ((first|refine hK _ _ _ _ (aVU kp (by simp only[bI,bQ,shG,uU,↓reduceIte,lE,RX];rfl) (by decide+kernel) (sV @uU)) (λ hx=>?_)|refine hK _ _ _ _ (JI iF (sV @uU)) (λ hx=>?_));clear hx hK;simp-dsimp-implicitDefEqProofs only[go_sem,uU,eq_self,↓reduceIte];(try simp(disch:=omega)only[wrap_i64,wrap_u64,wrap_u32,nX])));(all_goals(try omega));all_goals(refine Hd.o ?_;(repeat revert zg);refine Hd.o ?_;(repeat revert zt);exact GC a1 a2 a3 a4 a5 a6 a7 a8 a9 a10 a11 a12)
 exact GB a1 a2 a3 a4 a5 a6 a7 a8 a9 a10 a11 a12):Q:=h ⟨⟩ p.1 p.2.1 p.2.2.1 p.2.2.2.1 p.2.2.2.2.1 p.2.2.2.2.2.1 p.2.2.2.2.2.2.1 p.2.2.2.2.2.2.2.1 p.2.2.2.2.2.2.2.2.1 p.2.2.2.2.2.2.2.2.2.1 p.2.2.2.2.2.2.2.2.2.2.1 p.2.2.2.2.2.2.2.2.2.2.2
theorem cR{A B:Prop}(b:Hd (Hd B))(h:Hd (Hd B)->A:=by intro b1;refine bV rfl ?_;simp-dsimp-implicitDefEqProofs only[go_sem,uU,eq_self,↓reduceIte];refine⟨_,rfl,?_⟩;exact Hd.o (Hd.o b1)):A:=h b
theorem rR{A B:Prop}(b:Hd B)(h:Hd B->A:=by
 intro b1;refine two ?_ ?_;·(simp-dsimp-implicitDefEqProofs only[go_sem,uU,eq_self,↓reduceIte])<;>exact Hd.o (Hd.o b1)
 (try have zz:Hd True:=b1);exact trivial):A:=h b
end Go.AM
end
section
namespace Go.AM
open Go
def deS:AVal->AVal
 | .slc id r m _=> .sl id r m
 |v=>v
theorem PQ{w:World}{G:Nat->Prop}{ρ:cY}{A:bZ}{v:AVal}{cv:Value}(h:V w G ρ A v cv):V w G ρ A (deS v) cv:=by
 cases h with
 |dangc h1 h2=>exact .dangs h1 h2
 |slc h1 h2 h3 h4 h5 h6 h7=>exact .sl h1 h2 h3 h4 h5 h6 h7
 |junk=>exact .junk
 |lit=>exact .lit
 |dang h1 h2=>exact .dang h1 h2
 |dangs h1 h2=>exact .dangs h1 h2
 |ptr h1 h2 h3=>exact .ptr h1 h2 h3
 |dangm h1 h2=>exact .dangm h1 h2
 |mp h1 h2 h3=>exact .mp h1 h2 h3
 |dangi h1 h2=>exact .dangi h1 h2
 |it h1 h2 h3=>exact .it h1 h2 h3
 |sl h1 h2 h3 h4 h5 h6 h7=>exact .sl h1 h2 h3 h4 h5 h6 h7
 |sl0 h1 h2=>exact .sl0 h1 h2
 |rp g h1 h2 h3=>exact .rp g h1 h2 h3
 |rd0=>exact .rd0
 |rd g h1 h2 h3 h4 h5 h6=>exact .rd g h1 h2 h3 h4 h5 h6
 |agg h1 h2=>exact .agg h1 h2
 |tup h1 h2=>exact .tup h1 h2
 |fn h1 h2=>exact .fn h1 h2
 |nn=>exact .nn
 |bfn h=>exact .bfn h
theorem VLe.slc (id r n c:Nat):VLe (.slc id r n c) (.sl id r n):=λ _ _ _ _ _ h=>PQ h
section
variable{P:Program}{Γ:dL}{nt kb:Nat}{Q:AQ}{k:Nat}{fr:Fr}{H:aO}{c:Code}
theorem aLP(t:Nat){id r n:Nat}{B:Blk}(hf:look fr t=aA (.sl id r n))(hB:look H id=aA B)(h0:n=0->W P Γ nt kb c Q k ((t,.lit (.slice aC 0 0))::del fr t) H)(h:∀cap,n<=cap->cap<=9223372036854775807->W P Γ nt kb c Q k ((t,.slc id r n cap)::del fr t) H):
 W P Γ nt kb c Q k fr H:=λ A0 hA0 hk w G ρ a hi=>by
 have hv:=hi.frm t _ hf
 obtain⟨_,b,hb,_⟩:=hi.rel.blk id B (kS A0 kb k) (by simp[bK,hB])
 generalize hev:a.tmps.getD t undef=cv at hv
 cases hv with
 |dangs _ hn=>rw[hb]at hn;cases hn
 | sl0 h1 h2=>
   refine h0 rfl A0 hA0 hk w G ρ a ⟨hi.rel,hi.size,hi.defers,λ t' v hv'=>?_⟩
   simp only[look]at hv'
   split at hv'
   · rename_i he;subst he;cases hv';rw[hev];exact .lit
   · rw[gU]at hv'
     split at hv'
     · cases hv'
     · exact hi.frm t' v hv'
 | sl h1 h2 h3 h4 h5 h6 h7=>
   refine h _ h5 h6 A0 hA0 hk w G ρ a ⟨hi.rel,hi.size,hi.defers,λ t' v hv'=>?_⟩
   simp only[look]at hv'
   split at hv'
   · rename_i he;subst he;cases hv';rw[hev];exact .slc h1 h2 h3 h4 h5 h6 h7
   · rw[gU]at hv'
     split at hv'
     · cases hv'
     · exact hi.frm t' v hv'
end
def gC(rows new:List (List AVal))(r:Nat):List (List AVal):=rows.take r++new++rows.drop (r+new.length)
theorem JX{rows new:List (List AVal)}{r:Nat}(hr:r<=rows.length){q:Nat}{row:List AVal}(h:(gC rows new r)[q]? =aA row):
 (q<r/\rows[q]? =aA row)\/(r<=q/\q<r+new.length/\new[q-r]? =aA row)\/(r+new.length<=q/\rows[q]? =aA row):=by
 unfold gC at h;rw[cM,dN]at h;have hl:(rows.take r).length=r:=by simp;omega
 rw[hl]at h;split at h;.rename_i hlt;rw[fE,iP hlt]at h;exact .inl ⟨hlt,h⟩
 rename_i hge;rw[dN]at h;split at h;.rename_i h2;exact .inr (.inl ⟨oO,oO,h⟩)
 rename_i h2;rw[dW]at h;have e:r+new.length+(q-r-new.length)=q:=oO;rw[e]at h;exact .inr (.inr ⟨oO,h⟩)
section
variable{P:Program}{Γ:dL}{o:Oper}{ev:Operand->Option AVal}{get:Nat->Option Blk}{k:Nat}
theorem IH{w:World}{G:Nat->Prop}{ρ:cY}{H:lU}{A A':bZ}(hr:HRel Γ w G ρ H){id b:Nat}{B:Blk}{C:Array Value}{ty:TypeId}(hAid:A id)(hAA:∀i,A' i->A i)(hb:ρ id=aA (b,B.sz))(hC:w.heap[b]? =aA (.cells C ty (0,0)))
 (hrows:∀r row c v,B.rows[r]? =aA row->row[c]? =aA v->∃cv,C[r*B.sz+c]? =aA cv/\V w G (if B.pure then bS else ρ) (if B.pure then cI else A') v cv) (hlen:∀(r:Nat) row,B.rows[r]? =aA row->row.length=B.sz)
 (r m:Nat) (src:List (List AVal)) (ps:Bool) (gv:Nat->Nat->Value) (hsl:src.length=m) (hsrl:∀(q:Nat) row,src[q]? =aA row->row.length=B.sz)
 (hgv:∀q row c v,src[q]? =aA row->row[c]? =aA v->V w G (if ps then bS else ρ) (if ps then cI else A) v (gv q c)) (hr0:r<=B.rows.length) (hfit:(r+m)*B.sz<=C.size):
 HRel Γ (w.setRow b (C.toList.take (r*B.sz)++news B.sz m gv++C.toList.drop (r*B.sz+(news B.sz m gv).length)).toArray) G ρ (jD H (λ i=>A i\/(k<=i/\i<k)) [(id,aA ⟨B.sz,B.pure&&ps,gC B.rows src r⟩)])∧
   Step (λ i=>¬(k<=i/\i<k)) w G ρ (w.setRow b (C.toList.take (r*B.sz)++news B.sz m gv++C.toList.drop (r*B.sz+(news B.sz m gv).length)).toArray) G ρ:=by
 have hnl:=uR B.sz m gv;have hfit':r*B.sz+m*B.sz<=C.size:=by rw[<-cQ];exact hfit
 have hseg:=CW (l:=C.toList) (vs:=news B.sz m gv) (o:=r*B.sz) (by rw[hnl];simpa using hfit');have hl2:(C.toList.take (r*B.sz)++news B.sz m gv++C.toList.drop (r*B.sz+(news B.sz m gv).length)).toArray.size=C.size:=by simp only[fZ,bM,sU,aLW,pU];omega
 have hold:∀(v:AVal) (cv:Value),V w G (if B.pure then bS else ρ) (if B.pure then cI else A') v cv->V w G (if(B.pure&&ps)then bS else ρ) (if(B.pure&&ps)then cI else A) v cv:=λ v cv h=>by
  cases hp:B.pure with
  |true=>
   rw[hp]at h;simp only[if_true]at h
   cases ps with
   |true=>simpa using h
   |false=>simp only[KV,aS,if_false];exact h.weaken
  |false=>
   rw[hp]at h;simp only[KU,aS,if_false]at h⊢
   exact h.mono (λ _ h=>h) (λ _ _=>rfl) (λ _ _=>rfl) hAA (λ _ _=> .inr rfl)
 have hnew:∀(v:AVal) (cv:Value),V w G (if ps then bS else ρ) (if ps then cI else A) v cv->V w G (if(B.pure&&ps)then bS else ρ) (if(B.pure&&ps)then cI else A) v cv:=λ v cv h=>by
  cases ps with
  |true=>
   simp only[if_true]at h
   cases B.pure with
   |true=>simpa using h
   |false=>simp only[KU,aS,if_false];exact h.weaken
  |false=>simpa using h
 have hrw:=sX hr hb id (.inl rfl) ⟨B.sz,B.pure&&ps,gC B.rows src r⟩ rfl
  (C.toList.take (r*B.sz)++news B.sz m gv++C.toList.drop (r*B.sz+(news B.sz m gv).length)).toArray ty A (λ i=>A i\/(k<=i/\i<k)) (.inl rfl) (λ _ h=> .inl h) (.inl hAid)
  (w.setRow b (C.toList.take (r*B.sz)++news B.sz m gv++C.toList.drop (r*B.sz+(news B.sz m gv).length)).toArray)
  (setRow_heap w b C _ ty _ hC) (λ j hj=>setRow_other w b j _ hj) (size_setRow _ _ _)
  (by unfold World.shape?;rw[setRow_heap w b C _ ty _ hC,hC];simp only[hl2])
  rfl rfl rfl (λ q row h=>by
    rcases JX hr0 h with⟨_,h⟩|⟨_,_,h⟩|⟨_,h⟩;.exact hlen q row h
    .exact hsrl _ row h
    exact hlen q row h)
  (λ q row c v h1 h2=>by
    show ∃cv,(C.toList.take (r*B.sz)++news B.sz m gv++C.toList.drop (r*B.sz+(news B.sz m gv).length)).toArray[q*B.sz+c]? =aA cv/\V w G (if(B.pure&&ps)then bS else ρ) (if(B.pure&&ps)then cI else A) v cv;rw[cJ,hseg];rcases JX hr0 h1 with⟨hq,h⟩|⟨hq,hq',h⟩|⟨hq,h⟩
    .obtain⟨cu,h3,h4⟩:=hrows q row c v h h2;have hc:c<B.sz:=by have:=(aK.1 h2).1;have:=hlen q row h;omega
     have h6:q*B.sz+c<r*B.sz:=by have:(q+1)*B.sz<=r*B.sz:=cC _ hq;rw[cQ]at this;omega
     rw[iP h6];exact⟨cu,by rw[bF];exact h3,hold v cu h4⟩
    .have hc:c<B.sz:=by have:=(aK.1 h2).1;have:=hsrl _ row h;omega
     have h9:=pZ (gv:=gv) (by omega:q-r<m) hc;have h10:=(aK.1 h9).1
     have e1:q*B.sz+c=r*B.sz+((q-r)*B.sz+c):=by
      have:q*B.sz=r*B.sz+(q-r)*B.sz:=by rw[<-cQ];congr 1;omega
      omega
     rw[e1,iN oO,iP oO];have e2:r*B.sz+((q-r)*B.sz+c)-r*B.sz=(q-r)*B.sz+c:=oO;rw[e2];exact⟨_,h9,hnew v _ (hgv _ row c v h h2)⟩
    obtain⟨cu,h3,h4⟩:=hrows q row c v h h2;have h6:r*B.sz+(news B.sz m gv).length<=q*B.sz+c:=by have:(r+m)*B.sz<=q*B.sz:=cC _ oO;rw[cQ]at this;omega
    rw[iN oO,iN oO];exact⟨cu,by rw[bF];exact h3,hold v cu h4⟩)
 obtain⟨hrel,hst⟩:=hrw
 have hnm:fF (fF ρ id aC) id (aA (b,B.sz))=ρ:=funext λ i=>by
  simp only[fF];split;.rename_i he;rw[he,hb]
  rfl
 rw[hnm]at hrel hst;have hup:jD H (λ i=>A i\/(k<=i/\i<k)) [(id,aA ⟨B.sz,B.pure&&ps,gC B.rows src r⟩),(id,aC)]=jD H (λ i=>A i\/(k<=i/\i<k)) [(id,aA ⟨B.sz,B.pure&&ps,gC B.rows src r⟩)]:=funext λ i=>by simp only[jD];split<;>rfl
 rw[hup]at hrel;exact⟨hrel,⟨hst.size,hst.keep,hst.shape,hst.g,hst.g',hst.own,λ i _=>hst.ids i (.inr rfl),hst.os,hst.tape,hst.output⟩⟩
end
section
variable{P:Program}{Γ:dL}{o:Oper}{ev:Operand->Option AVal}{get:Nat->Option Blk}{k:Nat}
theorem rX{w:World}{G:Nat->Prop}{ρ:cY}{H:lU}{A A':bZ}(hr:HRel Γ w G ρ H){id r n c:Nat}{B:Blk}(hH:H id=aA (B,A')){cv:Value}(hv:V w G ρ A (.slc id r n c) cv):
 ∃ b off C ty,cv= .slice (aA ⟨b,off,aC⟩) n c/\A id/\ρ id=aA (b,B.sz)/\w.heap[b]? =aA (.cells C ty (0,0))/\(r+c)*B.sz<=C.size/\n<=c/\c<=maxLen/\(c=0\/off=r*B.sz)∧
   (∀r row c v,B.rows[r]? =aA row->row[c]? =aA v->∃cv,C[r*B.sz+c]? =aA cv/\V w G (if B.pure then bS else ρ) (if B.pure then cI else A') v cv)/\(∀(r:Nat) row,B.rows[r]? =aA row->row.length=B.sz):=by
 obtain⟨_,b,hb,_,hBR⟩:=hr.blk id B A' hH
 cases hv with
 |dangc _ hn=>rw[hb]at hn;cases hn
 |slc h1 h2 h3 h4 h5 h6 h7=>rw[hb]at h2;cases h2;obtain⟨⟨C,ty,hC,hrows⟩,hlen⟩:=hBR.old h3;have e:=h3;unfold World.shape? at e;rw[hC]at e;simp at e;obtain⟨rfl,rfl⟩:=e;exact⟨_,_,C,_,rfl,h1,hb,hC,h4,h5,h6,h7,hrows,hlen⟩
theorem aXB{x:Operand}{t id r n c:Nat}{B:Blk}(ho:o.op= .call {callee:= .builtin .cap,args:= #[x],argTypes:= #[t]})(ht:fX P t=aB)(hx:ev x=aA (.slc id r n c))(hB:get id=aA B):
 Good P Γ o ev get k ⟨.lit (.int .i64 c),k,[],[id]⟩:=by
 refine⟨cF λ w G ρ H A a hr hrd hop=>?_,λ id' hid=>by simp at hid;rw[hid,hB];rfl,aF _⟩;have hvx:=hop x (by simp[ho,Op.operands,Call.operands]) _ hx;obtain⟨B',A',h3,hH,_⟩:=hrd id sS;rw[hB]at h3;cases h3;obtain⟨b,off,C,ty,hev,_⟩:=rX hr hH hvx;unfold fX at ht;split at ht;.rename_i e hu;refine⟨.int .i64 c,?_,.lit⟩;simp[execOp,ho,resolve,invoke,builtin,Builtin.cap_,hev,underlying,hu,goInt]
 cases ht
theorem QW{t s:Nat}(ht:CC P t=aA s)(lo hi:Option Value)(base:Option Addr)(len cap:Nat)(l h:Int)(hl:lo=aC/\l=0\/∃kk,lo=aA (.int kk l))(hh:hi=aC/\h=len\/∃kk,hi=aA (.int kk h))
 (h0:0<=l) (h1:l<=h) (h2:h<=cap) (w:World):
 (Instr.sliceAt t (.slice base len cap) lo hi aC).run P w= .ok (.slice (if cap=l.toNat then base else base.map (·.add (l.toNat*s))) (h.toNat-l.toNat) (cap-l.toNat)) w:=by
 obtain⟨e,i,hu,hi',rfl⟩:=GW ht
 have hb:(Instr.sliceBounds aB len cap lo hi aC).run P w= .ok (l.toNat,h.toNat,cap) w:=by
  have q1:(0:Int)<=h/\h<=(cap:Int):=⟨oO,oO⟩;have q3:(0:Int)<=l/\l<=(h.toNat:Int):=⟨h0,oO⟩;rcases hl with⟨rfl,rfl⟩|⟨kl,rfl⟩<;>rcases hh with⟨rfl,rfl⟩|⟨kh,rfl⟩;.simp[Instr.sliceBounds]
  .simp[Instr.sliceBounds,Instr.sliceBound,asIntOf,q1]
  .have q2:(0:Int)<=l/\l<=(len:Int):=⟨h0,h1⟩;simp[Instr.sliceBounds,Instr.sliceBound,asIntOf,q2]
  simp only[Instr.sliceBounds,Instr.sliceBound,asIntOf,bN,dE,bG,q1,and_self,if_true,q3]
 simp only[Instr.sliceAt,underlying,bN,run_program,bG,hu,dE,Instr.slice,hb,sizeOf,typeInfo,hi']
theorem aIQ{t id r n c:Nat}{x:Operand}{lo hi:Option Operand}{B:Blk}{l h:Int}(ho:o.op= .slice t x lo hi aC)(ht:CC P t=aA B.sz)(hx:ev x=aA (.slc id r n c))
 (hl:bound ev lo 0=aA l) (hh:bound ev hi n=aA h) (h0:0<=l) (h1:l<=h) (h2:h<=c) {w:World} {G:Nat->Prop} {ρ:cY} {H:lU} {A A':bZ} {a:Act} (hr:HRel Γ w G ρ H) (hH:H id=aA (B,A'))
 (hop:∀x,x∈o.op.operands->∀v,ev x=aA v->V w G ρ A v (a.eval x)):
 ∃cv,(execOp a.eval o).run P w= .ok (.value cv) w/\V w G ρ A (.slc id (r+l.toNat) (h.toNat-l.toNat) (c-l.toNat)) cv:=by
 have hvx:=hop x (by simp[ho,Op.operands]) _ hx;have el:=nH (w:=w) (G:=G) (ρ:=ρ) (A:=A) (a:=a) hl (λ y hy v hv=>hop y (by simp[ho,Op.operands,hy]) v hv);have eh:=nH (w:=w) (G:=G) (ρ:=ρ) (A:=A) (a:=a) hh (λ y hy v hv=>hop y (by simp[ho,Op.operands,hy]) v hv);obtain⟨b,off,C,ty,hev,hA,hb,hC,hm,hn,hmx,hoff,_⟩:=rX hr hH hvx;have hrun:=QW ht (lo.map a.eval) (hi.map a.eval) (aA ⟨b,off,aC⟩) n c l h el eh h0 h1 h2 w;have hsh:w.shape? b=aA (ty,C.size):=by unfold World.shape?;rw[hC]
 have hm':(r+l.toNat+(c-l.toNat))*B.sz<=C.size:=by have:r+l.toNat+(c-l.toNat)=r+c:=oO;rw[this];exact hm
 refine⟨_,by simp only[execOp,ho,hev,oB,bN,hrun,bG,dE];rfl,?_⟩;by_cases hcl:c=l.toNat;.rw[iP hcl];exact .slc hA hb hsh hm' oO oO (.inl oO)
 rw[iN hcl,bU,Addr.add_mid];refine .slc hA hb hsh hm' oO oO (.inr ?_);rcases hoff with h4|h4;.omega
 rw[h4,cQ]
theorem aRK{t id r n c:Nat}{x:Operand}{lo hi:Option Operand}{B:Blk}{l h:Int}(ho:o.op= .slice t x lo hi aC)(hB:get id=aA B)(ht:CC P t=aA B.sz)(hx:ev x=aA (.slc id r n c))
 (hl:bound ev lo 0=aA l) (hh:bound ev hi n=aA h) (h0:0<=l) (h1:l<=h) (h2:h<=c):Good P Γ o ev get k ⟨.slc id (r+l.toNat) (h.toNat-l.toNat) (c-l.toNat),k,[],[id]⟩:=by refine⟨cF λ w G ρ H A a hr hrd hop=>?_,λ id' hid=>by simp at hid;rw[hid,hB];rfl,aF _⟩;obtain⟨B',A',h3,hH,_⟩:=hrd id sS;rw[hB]at h3;cases h3;exact aIQ ho ht hx hl hh h0 h1 h2 hr hH hop
theorem aRJ{t id r n c e:Nat}{x:Operand}{lo hi:Option Operand}{B:Blk}{l h:Int}(ho:o.op= .slice t x lo hi aC)(hB:get id=aA B)(ht:CC P t=aA B.sz)(hx:ev x=aA (.slc id r n c))
 (hl:bound ev lo 0=aA l) (hh:bound ev hi n=aA h) (h0:0<=l) (h1:l<=h) (h2:h<=c) (he:B.rows.length+e<=r+c):
 Good P Γ o ev get k ⟨.slc id (r+l.toNat) (h.toNat-l.toNat) (c-l.toNat),k,[(id,aA ⟨B.sz,B.pure,B.rows++bE e (bE B.sz .junk)⟩)],[id]⟩:=by
 refine⟨?_,λ id' hid=>by simp at hid;rw[hid,hB];rfl,aF _⟩;intro w G ρ H A a hr hA hf hrd hop next Q hn
 obtain⟨B',A',h3,hH,hAA⟩:=hrd id sS;rw[hB]at h3;cases h3;obtain⟨cv,hrun,hV⟩:=aIQ ho ht hx hl hh h0 h1 h2 hr hH hop;have hvx:=hop x (by simp[ho,Op.operands]) _ hx;obtain⟨b,off,C,ty,_,hAid,hb,hC,hm,_,_,_,hrows,hlen⟩:=rX hr hH hvx;unfold Oper.wp;rw[hrun]
 have hw:∀(q:Nat) row,(B.rows++bE e (bE B.sz AVal.junk))[q]? =aA row->B.rows[q]? =aA row\/(q<r+c/\row=bE B.sz AVal.junk):=λ q row h=>by
  rw[dN]at h;split at h;.exact .inl h
  right;obtain⟨h4,h5⟩:=aK.1 h;rw[gI]at h4;rw[bBJ]at h5;exact⟨oO,h5.symm⟩
 have hrw:=sX hr hb id (.inl rfl) ⟨B.sz,B.pure,B.rows++bE e (bE B.sz .junk)⟩ rfl C ty A (λ i=>A i\/(k<=i/\i<k)) (.inl rfl) (λ _ h=> .inl h) (.inl hAid) w hC (λ _ _=>rfl) rfl rfl rfl rfl rfl
  (λ q row h=>by
    rcases hw q row h with h|⟨_,rfl⟩;.exact hlen q row h
    simp)
  (λ q row c v h4 h5=>by
    rcases hw q row h4 with h|⟨hq,rfl⟩
    .obtain⟨cu,h6,h7⟩:=hrows q row c v h h5;refine⟨cu,h6,?_⟩
     cases hp:B.pure with
     |true=>rw[hp]at h7;simpa using h7
     |false=>
      rw[hp]at h7;simp only[aS,if_false]at h7⊢
      exact h7.mono (λ _ h=>h) (λ _ _=>rfl) (λ _ _=>rfl) hAA (λ _ _=> .inr rfl)
    have hc:c<B.sz:=by simpa using(aK.1 h5).1
    have hv:v= .junk:=by have:=(aK.1 h5).2;rw[bBJ]at this;exact this.symm
    have hlt:q*B.sz+c<C.size:=by have:(q+1)*B.sz<=(r+_)*B.sz:=cC _ hq;rw[cQ]at this;omega
    subst hv;exact⟨C[q*B.sz+c],aQ hlt,.junk⟩)
 obtain⟨hrel,hst⟩:=hrw
 have hnm:fF (fF ρ id aC) id (aA (b,B.sz))=ρ:=funext λ i=>by
  simp only[fF];split;.rename_i he;rw[he,hb]
  rfl
 rw[hnm]at hrel hst;have hup:jD H (λ i=>A i\/(k<=i/\i<k)) [(id,aA ⟨B.sz,B.pure,B.rows++bE e (bE B.sz .junk)⟩),(id,aC)]=jD H (λ i=>A i\/(k<=i/\i<k)) [(id,aA ⟨B.sz,B.pure,B.rows++bE e (bE B.sz .junk)⟩)]:=funext λ i=>by simp only[jD];split<;>rfl
 rw[hup]at hrel;exact hn w G ρ cv hrel (hV.mono (λ _ h=>h) (λ _ _=>rfl) (λ _ _=>rfl) (λ _ h=> .inl h) (λ _ _=> .inr rfl)) ⟨hst.size,hst.keep,hst.shape,hst.g,hst.g',hst.own,λ i _=>hst.ids i (.inr rfl),hst.os,hst.tape,hst.output⟩
theorem ZG{t id r n m:Nat}{x:Operand}{lo hi mx:Option Operand}{B:Blk}{l h q:Int}(ho:o.op= .slice t x lo hi mx)(hB:get id=aA B)(ht:CC P t=aA B.sz)(hx:ev x=aA (.slc id r n m))
 (hl:∃y kk,lo=aA y/\ev y=aA (.lit (.int kk l))) (hh:∃y kk,hi=aA y/\ev y=aA (.lit (.int kk h))) (hq:∃y kk,mx=aA y/\ev y=aA (.lit (.int kk q)))
 (h0:0<=l) (h1:l<=h) (h2:h<=q) (h3:q<=m):Good P Γ o ev get k ⟨.junk,k,[],[id]⟩:=by
 refine⟨cF λ w G ρ H A a hr hrd hop=>?_,λ id' hid=>by simp at hid;rw[hid,hB];rfl,aF _⟩;obtain⟨B',A',h4,hH,_⟩:=hrd id sS;rw[hB]at h4;cases h4;have hvx:=hop x (by simp[ho,Op.operands]) _ hx;obtain⟨b,off,C,ty,hev,_⟩:=rX hr hH hvx;obtain⟨y1,k1,rfl,e1⟩:=hl;obtain⟨y2,k2,rfl,e2⟩:=hh;obtain⟨y3,k3,rfl,e3⟩:=hq;have v1:=gO (hop y1 (by simp[ho,Op.operands]) _ e1);have v2:=gO (hop y2 (by simp[ho,Op.operands]) _ e2);have v3:=gO (hop y3 (by simp[ho,Op.operands]) _ e3);obtain⟨e,i,hu,hi',hsz⟩:=GW ht;have q1:(0:Int)<=q/\q<=(m:Int):=⟨oO,oO⟩;have q2:(0:Int)<=h/\h<=(q.toNat:Int):=⟨oO,oO⟩;have q3:(0:Int)<=l/\l<=(h.toNat:Int):=⟨oO,oO⟩;have hb:(Instr.sliceBounds aB n m (aA (.int k1 l)) (aA (.int k2 h)) (aA (.int k3 q))).run P w= .ok (l.toNat,h.toNat,q.toNat) w:=by simp only[Instr.sliceBounds,Instr.sliceBound,asIntOf,bN,dE,bG,q1,q2,q3,and_self,if_true]
 obtain⟨cv,hcv⟩:∃cv,(execOp a.eval o).run P w= .ok (.value cv) w:=⟨_,by simp only[execOp,ho,hev,v1,v2,v3,bU,Instr.sliceAt,underlying,bN,run_program,bG,hu,dE,Instr.slice,hb,sizeOf,typeInfo,hi'];rfl⟩
 exact⟨cv,hcv,.junk⟩
end
section
variable{P:Program}{Γ:dL}{o:Oper}{ev:Operand->Option AVal}{get:Nat->Option Blk}{k:Nat}
theorem QX(w:World)(dT sT ty elem:TypeId)(g o dLen dCap:Nat)(a:Addr)(sLen sCap:Nat)(cur:Array Value)(t:TypeId)(cs:List Value)(i:TypeInfo)(n:Nat)
 (hu:P.underlying dT=aA (.slice elem)) (hi:P.info? elem=aA i) (hg:w.heap[g]? =aA (.cells cur t (0,0))) (hn:n=Nat.min sLen dLen) (hl:cs.length=n*i.size)
 (hsrc:∀j v,cs[j]? =aA v->w.cell? (a.add j)=aA v) (hfit:o+cs.length<=cur.size) (h1:∀v∈cs,v.oneCell'=aB):
 (Builtin.copy_ #[dT,sT] ty #[.slice (aA ⟨g,o,aC⟩) dLen dCap,.slice (aA a) sLen sCap]).run P w=
   .ok (goInt n) (w.setRow g (cur.toList.take o++cs++cur.toList.drop (o+cs.length)).toArray):=by have hld:=run_firstCells_some (P:=P) w i.size n a sLen sCap cs hl hsrc;have hst:=run_storeCells_at P g o t cs 0 cur w hg (by simpa using hfit) h1;simp only[jL]at hst;simp[Builtin.copy_,run_underlying hu,Builtin.lenOf,sizeOf,typeInfo,hi,<-hn,hld,hst]
theorem aMJ{w:World}{G:Nat->Prop}{ρ:cY}{A:bZ}{s m:Nat}{rows:List (List AVal)}{p:Bool}(hs:0<s){cnt:Nat}(hcnt:cnt<=m){b off:Nat}{gv:Nat->Nat->Value}(hl:rows.length=m)(hrl:∀(r:Nat) row,rows[r]? =aA row->row.length=s)
 (hgv:∀r row c v,rows[r]? =aA row->row[c]? =aA v->w.cell? ⟨b,off+r*s+c,aC⟩=aA (gv r c)/\V w G (if p then bS else ρ) (if p then cI else A) v (gv r c)) (hone:LS rows):
 (∀j u,(news s cnt gv)[j]? =aA u->w.cell? ((⟨b,off,aC⟩:Addr).add j)=aA u)/\(∀u∈news s cnt gv,u.oneCell'=aB):=by
 refine⟨λ j u hj=>?_,λ u hu=>?_⟩
 .obtain⟨h1,h2,rfl⟩:=sA hj hs;obtain⟨row,v,h3,h4⟩:=wM hrl (by omega:j/s<rows.length) h2;have h5:=(hgv _ row _ v h3 h4).1;rw[Addr.add_mid,<-h5];have:off+j=off+j/s*s+j%s:=by have:=EB j s;rw[iW]at this;omega
  rw[this]
 obtain⟨j,hj⟩:=oN hu;obtain⟨h1,h2,rfl⟩:=sA hj hs;obtain⟨row,v,h3,h4⟩:=wM hrl (by omega:j/s<rows.length) h2;exact ZZ (hgv _ row _ v h3 h4).2 (hone _ row _ v h3 h4)
theorem AX{α:Type}{l:List α}{n q:Nat}{x:α}(h:(l.take n)[q]? =aA x):q<n/\l[q]? =aA x:=by
 rw[fE]at h;split at h;.exact⟨‹_›,h⟩
 cases h
theorem SrcA.some {v:AVal}{s m:Nat}{rows:List (List AVal)}{p:Bool}{ids:List Nat}(h:SrcA get v s m rows p ids):∀i,i∈ids->(get i).isSome=aB:=λ i hi=>by
 cases h with
 |rd=>simp at hi
 |nil=>simp at hi
 |sl h1 _=>rw[MU]at hi;rw[hi,h1];rfl
theorem NQ{id:Nat}{B:Blk}{ids:List Nat}(hB:get id=aA B)(h:∀i,i∈ids->(get i).isSome=aB):∀i,i∈id::ids->(get i).isSome=aB:=λ i hi=>by
 rcases eY.1 hi with e|e;.rw[e,hB];rfl
 exact h i e
theorem aHM{x y:Operand}{t id n c m s by':Nat}{zrow:List AVal}{B:Blk}{v:AVal}{rows:List (List AVal)}{p:Bool}{ids:List Nat}
 (ho:o.op= .call {callee:= .builtin .append,args:= #[x,y],argTypes:= #[t,t]}) (hz:gV P t=aA (s,by',zrow)) (hx:ev x=aA (.slc id 0 n c)) (hB:get id=aA B) (hBs:B.sz=s) (hy:ev y=aA v) (hs:SrcA get (deS v) s m rows p ids)
 (hone:(rows.all λ row=>row.all one)=aB) (hm:0<m) (hroom:n+m<=c) (hr:n<=B.rows.length):
 Good P Γ o ev get k ⟨.slc id 0 (n+m) c,k,[(id,aA ⟨B.sz,B.pure&&p,gC B.rows rows n⟩)],id::ids⟩:=by
 refine⟨?_,NQ hB hs.some,aF _⟩;intro w G ρ H A a hrl hA hf hrd hop next Q hn
 unfold gV at hz;split at hz;case h_2=>cases hz
 rename_i e hu;split at hz;case h_2=>cases hz
 rename_i i hi;split at hz;case h_2=>cases hz
 rename_i z hzz;split at hz;case isFalse=>cases hz
 rename_i hsz;cases hz;obtain⟨B',A',h3,hH,hAA⟩:=hrd id sS;rw[hB]at h3;cases h3;have hvx:=hop x (by simp[ho,Op.operands,Call.operands]) _ hx;have hvy:=PQ (hop y (by simp[ho,Op.operands,Call.operands]) _ hy);obtain⟨hsl,hsrl,hsex⟩:=hs.src hrl (λ id' hid=>hrd id' (dM _ hid)) hvy;obtain⟨sb,soff,scap,hsv,gv,hgv⟩:=hsex oO;obtain⟨hcell,h1⟩:=aMJ (cnt:=m) hsz.2 (aF _) hsl hsrl hgv (wO hone);obtain⟨b,off,C,ty,hev,h4,hb,hC,h7,h8,h9,h10,hrows,hlen⟩:=rX hrl hH hvx;have hoff:=h10.resolve_left oO;rw[qW]at hoff;subst hoff;rw[fH]at h7;have hfit:(n+m)*B.sz<=C.size:=qX (cC _ oO) h7;have hnl:=uR i.size m gv;have hrun:=xG (P:=P) w t o.type e i hu hi b n c C ty hC ⟨sb,soff,aC⟩ m scap (news i.size m gv) hnl hcell h1 hroom (by rw[hnl,<-cQ,<-hBs];exact hfit);have hrun':(execOp a.eval o).run P w= .ok (.value (.slice (aA ⟨b,0,aC⟩) (n+m) c)) (w.setRow b (C.toList.take (n*i.size)++news i.size m gv++C.toList.drop (n*i.size+(news i.size m gv).length)).toArray):=by simp only[execOp,ho,resolve,invoke,builtin];simp only[yH,bI,bQ,bN,dE,bG,hev,hsv,hrun]
 unfold Oper.wp;rw[hrun'];rw[<-hBs];have hw:=IH (k:=k) hrl h4 hAA hb hC hrows hlen n m rows p gv hsl (λ q row h=>by rw[hBs];exact hsrl q row h) (λ q row c v h h'=>(hgv q row c v h h').2) hr hfit;refine hn _ G ρ _ hw.1 (.slc (b:=b) (s:=B.sz) (ty:=ty) (m:=C.size) (.inl h4) hb ?_ (by rw[fH];exact h7) hroom h9 (.inr sS)) hw.2;unfold World.shape?;rw[setRow_heap w b C _ ty _ hC];have hl2:(C.toList.take (n*B.sz)++news B.sz m gv++C.toList.drop (n*B.sz+(news B.sz m gv).length)).toArray.size=C.size:=by rw[cQ]at hfit;simp only[fZ,bM,sU,aLW,pU,uR];omega
 simp only[hl2]
end
section
variable{P:Program}{Γ:dL}{o:Oper}{ev:Operand->Option AVal}{get:Nat->Option Blk}{k:Nat}
theorem SH(z:Array Value)(n:Nat):(Builtin.zeroCells z n).toList=news z.size n (λ _ c=>z[c]!):=by simp[Builtin.zeroCells,news]
theorem aQL{z:Array Value}{n q c:Nat}(hq:q<n)(hc:c<z.size):(Builtin.zeroCells z n)[q*z.size+c]? =aA z[c]:=by rw[<-bF,SH,pZ hq hc];simp[hc]
theorem FY{α:Type}{n q:Nat}{x y:α}(h:(bE n x)[q]? =aA y):q<n/\y=x:=by obtain⟨h1,h2⟩:=aK.1 h;rw[gI]at h1;rw[bBJ]at h2;exact⟨h1,h2.symm⟩
theorem PH{t s by':Nat}{zrow:List AVal}(hz:gV P t=aA (s,by',zrow)):∃e i z,P.underlying t=aA (.slice e)/\P.info? e=aA i/\i.zero=aA z/\z.cells.size=i.size/\0<i.size/\s=i.size/\by'=i.bytes/\zrow=z.cells.toList.map .lit:=by
 unfold gV at hz;split at hz;case h_2=>cases hz
 rename_i e hu;split at hz;case h_2=>cases hz
 rename_i i hi;split at hz;case h_2=>cases hz
 rename_i z hzz;split at hz;case isFalse=>cases hz
 rename_i hsz;cases hz;exact⟨e,i,z,hu,hi,hzz,hsz.1,hsz.2,rfl,rfl,rfl⟩
theorem aHC{x:Operand}{t id r n c s by':Nat}{zrow:List AVal}{B:Blk}
 (ho:o.op= .call {callee:= .builtin .clear,args:= #[x],argTypes:= #[t]}) (hz:gV P t=aA (s,by',zrow)) (hz1:zrow.all one=aB) (hx:ev x=aA (.slc id r n c)) (hB:get id=aA B) (hBs:B.sz=s) (hn0:0<n) (hr:r+n<=B.rows.length):
 Good P Γ o ev get k ⟨.junk,k,[(id,aA ⟨B.sz,B.pure&&aB,gC B.rows (bE n zrow) r⟩)],[id]⟩:=by
 refine⟨?_,λ id' hid=>by simp at hid;rw[hid,hB];rfl,aF _⟩;intro w G ρ H A a hrl hA hf hrd hop next Q hn
 obtain⟨e,i,z,hu,hi,hzz,hsz,hs0,rfl,rfl,rfl⟩:=PH hz;obtain⟨B',A',h3,hH,hAA⟩:=hrd id sS;rw[hB]at h3;cases h3;have hvx:=hop x (by simp[ho,Op.operands,Call.operands]) _ hx;obtain⟨b,off,C,ty,hev,h4,hb,hC,h7,h8,h9,h10,hrows,hlen⟩:=rX hrl hH hvx;have hoff:=h10.resolve_left oO;subst hoff;have hfit:(r+n)*B.sz<=C.size:=qX (cC _ oO) h7;have hnl:=uR i.size n (λ _ c=>z.cells[c]!);have hzl:=SH z.cells n;rw[hsz]at hzl;have hone:∀u∈news i.size n (λ _ c=>z.cells[c]!),u.oneCell'=aB:=λ u hu=>by obtain⟨j,hj⟩:=oN hu;obtain⟨h1,h2,rfl⟩:=sA hj hs0;have:j%i.size<z.cells.size:=oO;have hm:(AVal.lit z.cells[j%i.size])∈z.cells.toList.map AVal.lit:=dB.2 ⟨_,sS,rfl⟩;have:=aW.1 hz1 _ hm;simpa [one, *]using this
 have hst:=run_storeCells_at P b (r*B.sz) ty (news i.size n (λ _ c=>z.cells[c]!)) 0 C w hC (by rw[hnl,<-hBs];simp only[jL];rw[<-cQ];exact hfit) hone;simp only[jL]at hst;have hrun':(execOp a.eval o).run P w= .ok (.value (.tuple #[])) (w.setRow b (C.toList.take (r*B.sz)++news i.size n (λ _ c=>z.cells[c]!)++C.toList.drop (r*B.sz+(news i.size n (λ _ c=>z.cells[c]!)).length)).toArray):=by obtain⟨m,rfl⟩:∃m,n=m+1:=⟨n-1,oO⟩;simp only[execOp,ho,resolve,invoke,builtin,Builtin.clear_];simp[hev,run_underlying hu,zeroValue,typeInfo,hi,hzz,hzl,hst]
 unfold Oper.wp;rw[hrun'];rw[<-hBs]
 have hw:=IH (k:=k) hrl h4 hAA hb hC hrows hlen r n (bE n (z.cells.toList.map .lit)) aB (λ _ c=>z.cells[c]!) sS (λ q row h=>by rw[(FY h).2];simp;omega)
  (λ q row c v h h'=>by
    obtain⟨_,rfl⟩:=FY h;rw[aP,aG]at h';obtain⟨u,hu',rfl⟩:=h';rw[bF]at hu';have:z.cells[c]! =u:=by obtain⟨hc,hue⟩:=dA.1 hu';rw[getElem!_pos z.cells c hc];exact hue
    show V w G (if aB then bS else ρ) (if aB then cI else A) (.lit u) z.cells[c]!;rw[this];exact .lit) oO hfit
 exact hn _ G ρ _ hw.1 .junk hw.2
theorem aPG{x y:Operand}{t tn id r n c m s by':Nat}{kn kq:IntKind}{zrow:List AVal}{B:Blk}
 (ho:o.op= .call {callee:= .builtin .append,args:= #[x,y],argTypes:= #[t,tn]}) (hz:gV P t=aA (s,by',zrow)) (htn:P.underlying tn=aA (.int kn)) (hx:ev x=aA (.slc id r n c)) (hB:get id=aA B) (hBs:B.sz=s)
 (hy:ev y=aA (.lit (.int kq (m:Int)))) (hm:0<m) (hroom:c<n+m) (hby:(n+m)*by'<=140737488355328) (hlen0:n+m<=9223372036854775807) (hr:r+n<=B.rows.length):
 Good P Γ o ev get k ⟨.sl k 0 (n+m),k+1,[(k,aA ⟨s,B.pure&&aB,(B.rows.drop r).take n++bE m zrow⟩)],[id]⟩:=by
 refine⟨?_,λ id' hid=>by simp at hid;rw[hid,hB];rfl,mF _⟩;intro w G ρ H A a hrl hA hf hrd hop next Q hn
 obtain⟨e,i,z,hu,hi,hzz,hsz,hs0,rfl,rfl,rfl⟩:=PH hz;obtain⟨B',A',h3,hH,hAA⟩:=hrd id sS;rw[hB]at h3;cases h3;have hkA:¬A k:=λ hk=>qR _ (hA k hk);obtain⟨hρk,hfr⟩:=hf k (aF _) (cW _);have hvx:=hop x (by simp[ho,Op.operands,Call.operands]) _ hx;have hvy:=gO (hop y (by simp[ho,Op.operands,Call.operands]) _ hy);obtain⟨b,off,C,ty,hev,h4,hb,hC,h7,h8,h9,h10,hrows,hlen⟩:=rX hrl hH hvx;have hget:∀(q:Nat) row,((B.rows.drop r).take n)[q]? =aA row->q<n/\B.rows[r+q]? =aA row:=λ q row h=>by obtain⟨h1,h2⟩:=AX h;rw[dW]at h2;exact⟨h1,h2⟩
 have hfit:(r+n)*B.sz<=C.size:=qX (cC _ oO) h7;have hnl:=uR i.size n (λ q c=>C.getD ((r+q)*B.sz+c) undef)
 have holds:∀j v,(news i.size n (λ q c=>C.getD ((r+q)*B.sz+c) undef))[j]? =aA v->w.cell? ((⟨b,off,aC⟩:Addr).add j)=aA v:=λ j v hj=>by
  obtain⟨h1,h2,rfl⟩:=sA hj hs0;have hn0:0<n:=Nat.lt_of_le_of_lt (aZ _) h1;have hoff:=h10.resolve_left oO;subst hoff;rw[Addr.add_mid,cell_of_row w b _ C ty (0,0) hC];have e1:r*B.sz+j=(r+j/i.size)*B.sz+j%i.size:=by have:=EB j i.size;rw[cQ,hBs];rw[iW]at this;omega
  have e2:(r+j/i.size)*B.sz+j%i.size<C.size:=by have:(r+j/i.size+1)*B.sz<=(r+n)*B.sz:=cC _ oO;rw[cQ (r+j/i.size)]at this;omega
  rw[e1,aQ e2,aI,aQ e2];rfl
 have hfirst:(Builtin.firstCells i.size n (.slice (aA ⟨b,off,aC⟩) n c)).run P w.drew= .ok (news i.size n (λ q c=>C.getD ((r+q)*B.sz+c) undef)).toArray w.drew:=
  run_firstCells_some (P:=P) w.drew i.size n ⟨b,off,aC⟩ n c _ hnl (λ j v hj=>holds j v hj)
 have hrun:=Lib.run_append_grow_zeros (P:=P) w t tn o.type e i z kq kn hu htn hi hzz (aA ⟨b,off,aC⟩) n c _ hfirst m hm hs0 hroom oO (by have:m*i.bytes<=(n+m)*i.bytes:=cC _ oO;omega) (growslice_fits hroom hby)
 have hge:=grownCap_ge w (n+m) c e;have hcm:=grownCap_le_maxLen w (n+m) c e (by unfold maxLen;omega);have hrun':(execOp a.eval o).run P w= .ok (.value (.slice (aA ⟨w.heap.size,0,aC⟩) (n+m) (grownCap w (n+m) c e))) (w.drew.alloc (.cells ((news i.size n (λ q c=>C.getD ((r+q)*B.sz+c) undef)).toArray++Builtin.zeroCells z.cells m++Builtin.zeroCells z.cells (grownCap w (n+m) c e-(n+m))) e)):=by simp only[execOp,ho,resolve,invoke,builtin];simp only[yH,bI,bQ,bN,dE,bG,hev,hvy,hrun]
 unfold Oper.wp;rw[hrun']
 have hV:∀(v:AVal) (cv:Value),V w G (if B.pure then bS else ρ) (if B.pure then cI else A') v cv->V w G (if(B.pure&&aB)then bS else ρ) (if(B.pure&&aB)then cI else A) v cv:=λ v cv h=>by
  rw[iC]
  cases hp:B.pure with
  |true=>rw[hp]at h;simpa using h
  |false=>rw[hp]at h;simp only[aS,if_false]at h⊢;exact h.mono (λ _ h=>h) (λ _ _=>rfl) (λ _ _=>rfl) hAA (λ _ _=> .inr rfl)
 have hl1:((B.rows.drop r).take n).length=n:=by simp;omega
 have hrel:=hrl.alloc k hρk hfr ⟨i.size,B.pure&&aB,(B.rows.drop r).take n++bE m (z.cells.toList.map .lit)⟩
  ((news i.size n (λ q c=>C.getD ((r+q)*B.sz+c) undef)).toArray++Builtin.zeroCells z.cells m++Builtin.zeroCells z.cells (grownCap w (n+m) c e-(n+m))) e A (λ i=>A i\/(k<=i/\i<k+1)) hkA (λ _ h=> .inl h) (.inr ⟨aF _,cW _⟩)
  (λ q row h=>by
    have h':((B.rows.drop r).take n++bE m (z.cells.toList.map .lit))[q]? =aA row:=h;rw[dN]at h';split at h';.rw[<-hBs];exact hlen _ row (hget q row h').2
    rw[(FY h').2];simp;omega)
  (λ q row cc v h h2=>by
    have h':((B.rows.drop r).take n++bE m (z.cells.toList.map .lit))[q]? =aA row:=h;show ∃cv,((news i.size n (λ q c=>C.getD ((r+q)*B.sz+c) undef)).toArray++Builtin.zeroCells z.cells m++Builtin.zeroCells z.cells (grownCap w (n+m) c e-(n+m)))[q*i.size+cc]? =aA cv/\V w G (if(B.pure&&aB)then bS else ρ) (if(B.pure&&aB)then cI else A) v cv;rw[dN]at h';split at h'
    .obtain⟨hq,h5⟩:=hget q row h';obtain⟨cu,h6,h7⟩:=hrows _ row cc v h5 h2;have hc:cc<i.size:=by have:=(aK.1 h2).1;have:=hlen _ row h5;omega
     have hlt:=(aK.1 (pZ (gv:=λ q c=>C.getD ((r+q)*B.sz+c) undef) hq hc)).1;refine⟨cu,?_,hV v cu h7⟩;rw[a5F,fV (by simpa using hlt),cJ,pZ hq hc,aI,h6];rfl
    rename_i hge';rw[hl1]at h' hge';obtain⟨hq,rfl⟩:=FY h';rw[aP,aG]at h2;obtain⟨u,hu',rfl⟩:=h2;rw[bF]at hu';obtain⟨hc,hue⟩:=dA.1 hu';refine⟨u,?_,.lit⟩;have hsz1:(news i.size n (λ q c=>C.getD ((r+q)*B.sz+c) undef)).toArray.size=n*i.size:=by rw[fZ];exact hnl
    have hz1:(Builtin.zeroCells z.cells m).size=m*i.size:=by rw[size_zeroCells,hsz]
    have e1:q*i.size+cc-n*i.size=(q-n)*i.size+cc:=by
     have:q*i.size=n*i.size+(q-n)*i.size:=by rw[<-cQ];congr 1;omega
     omega
    have e2:(q-n)*i.size+cc<m*i.size:=by have:(q-n+1)*i.size<=m*i.size:=cC _ hq;rw[cQ]at this;omega
    have e3:n*i.size<=q*i.size+cc:=by have:n*i.size<=q*i.size:=cC _ oO;omega
    rw[a5F,SF (by rw[hsz1];exact e3),hsz1,e1,fV (by rw[hz1];exact e2)];have:=aQL (z:=z.cells) hq hc;rw[hsz]at this;rw[this,hue])
  w.drew rfl rfl rfl rfl
 have hst:=lY (w:=w) (G:=G) (ρ:=ρ) k i.size (.cells ((news i.size n (λ q c=>C.getD ((r+q)*B.sz+c) undef)).toArray++Builtin.zeroCells z.cells m++Builtin.zeroCells z.cells (grownCap w (n+m) c e-(n+m))) e) w.drew rfl rfl rfl rfl;refine hn _ G _ _ hrel ?_ ⟨hst.size,hst.keep,hst.shape,hst.g,hst.g',hst.own,λ id hid=>hst.ids id (λ he=>hid (oO:k<=id/\id<k+1)),hst.os,hst.tape,hst.output⟩;refine .sl (b:=w.heap.size) (s:=i.size) (ty:=e) (m:=((news i.size n (λ q c=>C.getD ((r+q)*B.sz+c) undef)).toArray++Builtin.zeroCells z.cells m++Builtin.zeroCells z.cells (grownCap w (n+m) c e-(n+m))).size) (.inr ⟨aF _,cW _⟩) (by simp[fF]) ?_ ?_ hge hcm (.inr sS);.have:=iU w.drew (.cells ((news i.size n (λ q c=>C.getD ((r+q)*B.sz+c) undef)).toArray++Builtin.zeroCells z.cells m++Builtin.zeroCells z.cells (grownCap w (n+m) c e-(n+m))) e);have e1:w.drew.heap.size=w.heap.size:=rfl;rw[e1]at this;unfold World.shape?;rw[this]
 rw[ED,ED,fZ,hnl,size_zeroCells,size_zeroCells,hsz,<-cQ,<-cQ];exact cC _ oO
end
section
variable{P:Program}{Γ:dL}{o:Oper}{ev:Operand->Option AVal}{get:Nat->Option Blk}{k:Nat}
theorem ZH{w:World}{G:Nat->Prop}{ρ:cY}{H:lU}{A A':bZ}(hr:HRel Γ w G ρ H){id r n:Nat}{B:Blk}(hH:H id=aA (B,A')){cv:Value}(h0:0<n)(hv:V w G ρ A (.sl id r n) cv):
 ∃b off c C ty,cv= .slice (aA ⟨b,off,aC⟩) n c/\ρ id=aA (b,B.sz)/\w.heap[b]? =aA (.cells C ty (0,0))/\B.rows.length*B.sz<=C.size:=by
 obtain⟨_,b,hb,_,hBR⟩:=hr.blk id B A' hH
 cases hv with
 |dangs _ hn=>rw[hb]at hn;cases hn
 |sl0=>omega
 |sl h1 h2 h3 h4 h5 h6 h7=>rw[hb]at h2;cases h2;obtain⟨⟨C,ty,hC,hrows⟩,hlen⟩:=hBR.old h3;exact⟨b,_,_,C,ty,rfl,hb,hC,NL hrows hlen⟩
theorem RD{f x y:Operand}{ty:Array TypeId}{g tS tR e s:Nat}{fn:Func}{i1 r1 n1 i2 r2 n2:Nat}{v:AVal}{B1 B2:Blk}
 (ho:o.op= .call {callee:= .value f,args:= #[x,y],argTypes:=ty}) (hf:ev f=aA (.fn g [])) (hfn:P.funcs[g]? =aA fn) (hname:(fn.name== "runtime.NumGoroutine")=aE) (hb:fn.body.isNone=aB) (hn:Extern.findNext fn=aC)
 (he:Extern.find fn=aA (Extern.SlicesOverlaps.overlaps #[tS,tS] #[tR])) (hu:P.underlying tS=aA (.slice e)) (hs:oP P e=aA s)
 (hx:ev x=aA (.sl i1 r1 n1)) (hy:ev y=aA v) (hv:deS v= .sl i2 r2 n2) (hne:i1≠i2) (hB1:get i1=aA B1) (hB2:get i2=aA B2) (hn1:0<n1) (hn2:0<n2) (h2:0<B2.rows.length) (h3:0<B2.sz):
 Good P Γ o ev get k ⟨.lit (.bool aE),k,[],[i1,i2]⟩:=by
 refine⟨cF λ w G ρ H A a hr hrd hop=>⟨.bool aE,?_,.lit⟩,λ id hid=>by
  simp only[eY,oS,or_false]at hid;rcases hid with rfl|rfl;.rw[hB1];rfl
  rw[hB2];rfl,aF _⟩
 obtain⟨C1,A1,h4,hH1,_⟩:=hrd i1 sS;rw[hB1]at h4;cases h4;obtain⟨C2,A2,h4,hH2,_⟩:=hrd i2 sS;rw[hB2]at h4;cases h4;have hvx:=hop x (by simp[ho,Op.operands,Call.operands]) _ hx;have hvy:=PQ (hop y (by simp[ho,Op.operands,Call.operands]) _ hy);rw[hv]at hvy;have hvf:=hop f (by simp[ho,Op.operands,Call.operands]) _ hf;obtain⟨b1,o1,c1,D1,t1,e1,g1,w1,_⟩:=ZH hr hH1 hn1 hvx;obtain⟨b2,o2,c2,D2,t2,e2,g2,w2,k2⟩:=ZH hr hH2 hn2 hvy;have hbne:b1≠b2:=λ hh=>hne (by subst hh;exact hr.inj _ _ _ _ _ g1 g2);have hfz:∀q,w.frozen? ⟨b1,q,aC⟩=aE:=λ q=>by unfold World.frozen?;simp[w1]
 have hov:=Lib.run_overlaps_apart (P:=P) w tS tR e hu s (λ w=>by simp only[oP,aG]at hs;obtain⟨i,hi,rfl⟩:=hs;simp[sizeOf,typeInfo,hi]) ⟨b1,o1,aC⟩ ⟨b2,o2,aC⟩ n1 c1 n2 c2 hbne t1 t2 D1.size D2.size (by unfold World.shape?;rw[w1]) (by unfold World.shape?;rw[w2]) (λ h0=>by have:1*1<=B2.rows.length*B2.sz:=Nat.mul_le_mul h2 h3;omega) (hfz _) (hfz _)
 have hcall:(callFunc g #[.slice (aA ⟨b1,o1,aC⟩) n1 c1,.slice (aA ⟨b2,o2,aC⟩) n2 c2]).run P w= .ok (.value (.bool aE)) w:=by rw[run_callFunc_extern hfn hname hb hn he,hov];rfl
 generalize hev:a.eval f=cv at hvf
 cases hvf with
 |fn h5 h6=>rename_i cs;have:cs= #[]:=jN (by simpa using h5.symm);subst this;simp only[execOp,ho,resolve,hev,Deferred.ofValue,bN,dE,bG,invoke,yH,bI,bQ,e1,e2,Array.append_empty,Array.empty_append];exact hcall
end
theorem gY{a b:Nat}(h:a≠b):(a=b)=False:=eq_false h
def mE(f s:Nat):Nat->(Nat->List (List AVal))->aO
 |0,_=>[]
 |n+1,R=>(f,⟨s,aB,R 0⟩)::mE (f+1) s n (λ j=>R (j+1))
section
variable{f s n g i:Nat}{R R':Nat->List (List AVal)}
theorem uV(h:g<n):AM.look (mE f s n R) (f+g)=aA ⟨s,aB,R g⟩:=by
 induction n generalizing f g R with
 |zero=>omega
 |succ n ih=>
  simp only[mE,AM.look]
  cases g with
  |zero=>simp
  |succ g=>rw[iN oO];have:=ih (f:=f+1) (g:=g) (R:=λ j=>R (j+1)) oO;rw[<-this];congr 1;omega
theorem TM(h:i<f\/f+n<=i):AM.look (mE f s n R) i=aC:=by
 induction n generalizing f R with
 |zero=>rfl
 |succ n ih=>simp only[mE,AM.look];rw[iN oO];exact ih oO
theorem IZ{B:Blk}(h:AM.look (mE f s n R) i=aA B):f<=i/\i<f+n:=by
 by_cases hc:i<f\/f+n<=i;.rw[TM hc]at h;cases h
 omega
theorem PO(h:i<f\/f+n<=i):del (mE f s n R) i=mE f s n R:=by
 induction n generalizing f R with
 |zero=>rfl
 |succ n ih=>simp only[mE,del];rw[iN oO,ih oO]
theorem NK{rows:List (List AVal)}(h:g<n):xF (mE f s n R) (f+g) ⟨s,aB,rows⟩=mE f s n (λ j=>if j=g then rows else R j):=by
 induction n generalizing f g R with
 |zero=>omega
 |succ n ih=>
  simp only[mE,xF]
  cases g with
  |zero=>simp
  |succ g=>rw[iN oO];have:=ih (f:=f+1) (g:=g) (R:=λ j=>R (j+1)) oO;have e:f+1+g=f+(g+1):=oO;rw[e]at this;rw[this];simp
theorem fam_congr(h:∀g,g<n->R g=R' g):mE f s n R=mE f s n R':=by
 induction n generalizing f R R' with
 |zero=>rfl
 |succ n ih=>simp only[mE];rw[h 0 oO,ih (λ g hg=>h (g+1) oO)]
def xW(H:aO)(f s n:Nat)(R:Nat->List (List AVal)):Prop:=∀g,g<n->AM.look H (f+g)=aA ⟨s,aB,R g⟩
theorem PG{H:aO}{B:Blk}(h:i<f\/f+n<=i):xW ((i,B)::H) f s n R=xW H f s n R:=by
 unfold xW;refine propext ⟨λ h1 g hg=>?_,λ h1 g hg=>?_⟩;.have:=h1 g hg;simp only[AM.look]at this;rwa [iN oO]at this
 simp only[AM.look];rw[iN oO];exact h1 g hg
theorem aGC:xW (mE f s n R) f s n R=True:=eq_true λ g hg=>uV hg
theorem a1V{H:aO}:QS H (mE f s n R)=xW H f s n R:=by
 unfold xW
 induction n generalizing f R with
 |zero=>simp[mE,QS]
 |succ n ih=>
  simp only[mE,QS];rw[ih];refine propext ⟨λ⟨h1,h2⟩ g hg=>?_,λ h=>⟨h 0 oO,λ g hg=>?_⟩⟩
  .cases g with
   |zero=>exact h1
   |succ g=>have:=h2 g oO;rw[<-this];congr 1;omega
  have:=h (g+1) oO;rw[<-this];congr 1;omega
theorem zR{k:Nat}(h:f+n<=k):oM (jS k) (mE f s n R)=aB:=by
 induction n generalizing f R with
 |zero=>rfl
 |succ n ih=>simp only[mE,oM,fU,AD,iC,aH];refine⟨by simp[jS];omega,?_⟩;exact ih oO
theorem aZQ{a b:Nat}(h:(a<f\/f+n<=a)/\(b<f\/f+n<=b)):swH a b (mE f s n R)=mE f s n R:=by
 induction n generalizing f R with
 |zero=>rfl
 |succ n ih=>have h1:sw a b f=f:=YZ oO oO;simp only[mE];have e:swH a b ((f,⟨s,aB,R 0⟩)::mE (f+1) s n λ j=>R (j+1))=(sw a b f,swB a b ⟨s,aB,R 0⟩)::swH a b (mE (f+1) s n λ j=>R (j+1)):=rfl;rw[e,h1,ih oO];rfl
end
attribute [go_sem] uV TM PO NK PG aGC a1V zR aZQ
section
variable{P:Program}{Γ:dL}{nt kb:Nat}{Q:AQ}{k:Nat}{fr:Fr}{H:aO}{c:Code}
theorem UZ (id s:Nat){B:Blk}(hB:AM.look H id=aA B)(hk:id<k):Mv kb k fr H (k+1) fr ((k,⟨s,aB,[]⟩)::del H id):=λ hkb=>⟨oO,λ Γ nt A0 w G ρ ac hA hi=>by
 have hAk:¬kS A0 kb k k:=λ h=>by
  rcases h with h|h;.have:=hA _ h;omega
  omega
 have hal:∀i,kS A0 kb k i->kS A0 kb (k+1) i:=λ i h=>h.imp (λ h=>h) (λ h=>⟨h.1,oO⟩);obtain⟨hAid,b,hb,hg,hBR⟩:=hi.rel.blk id B (kS A0 kb k) (by simp[bK,hB]);have hne:id≠k:=oO
 have hρk:ρ k=aC:=by
  cases hl:look H k with
  |none=>exact hi.rel.dom k (by simp[bK,hl])
  |some B=>exact absurd (hi.rel.blk k B (kS A0 kb k) (by simp only[bK,hl,bU])).1 hAk
 have hρ:∀i,kS A0 kb k i->fF (fF ρ id aC) k (aA (b,s)) i=aC\/fF (fF ρ id aC) k (aA (b,s)) i=ρ i:=λ i h=>by
  simp only[fF];by_cases h1:i=k;.subst h1;exact absurd h hAk
  rw[iN h1];split;.exact .inl rfl
  exact .inr rfl
 have hV:∀v cv,V w G ρ (kS A0 kb k) v cv->V w G (fF (fF ρ id aC) k (aA (b,s))) (kS A0 kb (k+1)) v cv:=λ v cv h=>
  h.mono (λ _ h=>h) (λ _ _=>rfl) (λ _ _=>rfl) hal hρ
 refine⟨G,fF (fF ρ id aC) k (aA (b,s)),⟨⟨λ i h=>?_,λ i B' A h=>?_,λ i j x y z h1 h2=>?_,hi.rel.ro,hi.rel.glob⟩,hi.size,hi.defers,λ t v hv=>hV v _ (hi.frm t v hv)⟩,⟨aF _,λ _ _ _=>rfl,λ _ _=>rfl,λ _ h=>h,λ _ h=> .inl h,?_,λ i h=>?_,rfl,rfl,rfl⟩⟩
 .simp only[bK,dO,look]at h;split at h;.cases h
  rename_i h1;simp only[fF];rw[iN (λ e=>h1 e.symm)];split;.rfl
  rename_i h2;rw[gU,iN h2]at h;exact hi.rel.dom i (by simp[bK,h])
 .simp only[bK,aG,look]at h;obtain⟨B1,h,he⟩:=h;cases he;split at h;.rename_i h1;subst h1;cases h;obtain⟨C,ty,hC,_⟩:=hBR.ex;refine⟨.inr ⟨hkb,cW _⟩,b,by simp[fF],hg,⟨⟨C,ty,hC,λ r row c v h1 _=>by simp at h1⟩,λ r row h1=>by simp at h1⟩⟩
  rename_i h1;rw[gU]at h;split at h;.cases h
  rename_i h2;obtain⟨h3,x,h4,h5,⟨⟨C,ty,hC,hrows⟩,hlen⟩⟩:=hi.rel.blk i B' (kS A0 kb k) (by simp[bK,h]);refine⟨hal i h3,x,by simp only[fF];rw[iN (λ e=>h1 e.symm),iN h2];exact h4,h5,⟨⟨C,ty,hC,λ r row c v h6 h7=>?_⟩,hlen⟩⟩;obtain⟨cv,h8,h9⟩:=hrows r row c v h6 h7;refine⟨cv,h8,?_⟩;by_cases hp:B'.pure=aB;.simp only[hp,if_true]at h9⊢;exact h9
  simp only[hp]at h9⊢;exact hV _ _ h9
 .have side:∀i s',fF (fF ρ id aC) k (aA (b,s)) i=aA (x,s')->(i=k/\x=b)\/(i≠k/\i≠id/\ρ i=aA (x,s')):=λ i s' h=>by
   simp only[fF]at h;split at h;.rename_i hq;cases h;exact .inl ⟨hq,rfl⟩
   rename_i hq;split at h;.cases h
   rename_i hq2;exact .inr ⟨hq,hq2,h⟩
  rcases side i y h1 with⟨e1,e2⟩|⟨e1,e2,e3⟩<;>rcases side j z h2 with⟨f1,f2⟩|⟨f1,f2,f3⟩;.rw[e1,f1]
  .subst e2;exact absurd (hi.rel.inj j id _ _ _ f3 hb) f2
  .subst f2;exact absurd (hi.rel.inj i id _ _ _ e3 hb) e2
  exact hi.rel.inj i j x y z e3 f3
 .rintro x ⟨i,s',hx⟩;simp only[fF]at hx;split at hx;.cases hx;exact .inl ⟨id,_,hb⟩
  split at hx;.cases hx
  exact .inl ⟨i,s',hx⟩
 have h':i<kb:=h;simp only[fF];rw[iN oO];split;.exact .inl rfl
 exact .inr rfl⟩
end
theorem nq3{a b:Nat}(h:a<=b):(a<=b)=True:=eq_true h
theorem nq4{a b:Nat}(h:b<a):(a<=b)=False:=eq_false oO
theorem RE{a b:Nat}(h:a<b):(a<b)=True:=eq_true h
theorem ltB_iff{k i:Nat}:jS k i=decide (i<k):=rfl
theorem gM{kb k:Nat}{fr:Fr}{H:aO}{k1:Nat}{fr1:Fr}{H1:aO}(hb:kb<=k1:=by omega)(hf:leF fr fr1:=by simp-dsimp-implicitDefEqProofs (disch:=omega)only[go_sem,gY,aM,eq_self,↓reduceIte])(hH:QS H H1:=by simp-dsimp-implicitDefEqProofs (disch:=omega)only[go_sem,gY,aM,eq_self,↓reduceIte])(h:bdF (jS k1) fr1=aB:=by simp-dsimp-implicitDefEqProofs (disch:=omega)only[go_sem,gY,RE,ltB_iff,aM,eq_self,↓reduceIte])(h':oM (jS k1) H1=aB:=by simp-dsimp-implicitDefEqProofs (disch:=omega)only[go_sem,gY,RE,ltB_iff,aM,eq_self,↓reduceIte]):Mv kb k fr H k1 fr1 H1:=
 nV (pH hb hf hH h h')
theorem bFG{ops:Array Oper}{tr:List Foot}(g:Nat->Nat){L:List (List Nat×List Nat)}(hL:tr.map (shG g)=L:=by(simp-dsimp (disch:=omega)only[bI,bQ,shG,gY,nq3,nq4,eq_self,↓reduceIte,lE,RX];rfl))(h:EK ops L=aB:=by decide+kernel)(hm:(tr.all λ f=>f.mods.all λ x=>decide (x<f.k'))=aB:=by simp-dsimp-implicitDefEqProofs (disch:=omega)only[go_sem,gY,RE,ltB_iff,aM,eq_self,↓reduceIte]):kP ops tr=aB:=HA g hL h hm
theorem a6B{ops:Array Oper}{tr:List Foot}(h:aVT ops (tr.map sh)=aB:=by kernel_rfl)(hm:(tr.all λ f=>f.mods.all λ x=>decide (x<f.k'))=aB:=by simp-dsimp-implicitDefEqProofs (disch:=omega)only[go_sem,gY,RE,ltB_iff,aM,eq_self,↓reduceIte]):kP ops tr=aB:=JI h hm
section
variable{P:Program}{Γ:dL}{nt kb:Nat}{Q:AQ}{k:Nat}{fr:Fr}{H:aO}{c:Code}
theorem aDK (id j tk r n:Nat){B T:Blk}{row:List AVal}(hB:AM.look H id=aA B)(hT:AM.look H tk=aA T)(hne:tk≠id)(hp:B.pure=aE)(hrow:B.rows[r]? =aA row)(hj:row[j]? =aA (.lit (.slice aC 0 0))):
 Mv kb k fr H k fr ((id,⟨B.sz,aE,B.rows.set r (row.set j (.sl tk n 0))⟩)::del H id):=λ hkb=>⟨hkb,λ Γ nt A0 w G ρ ac hA hi=>by
 obtain⟨hAid,b,hb,hg,hBR⟩:=hi.rel.blk id B (kS A0 kb k) (by simp[bK,hB])
 obtain⟨hAt,bt,hbt,_,_⟩:=hi.rel.blk tk T (kS A0 kb k) (by simp[bK,hT])
 obtain⟨⟨C,ty,hC,hrows⟩,hlen⟩:=hBR
 refine⟨G,ρ,⟨⟨λ i h=>?_,λ i B' A h=>?_,hi.rel.inj,hi.rel.ro,hi.rel.glob⟩,hi.size,hi.defers,hi.frm⟩,kQ _ _ _ _⟩
 · simp only[bK,dO,look]at h
   split at h
   · cases h
   · rename_i h1
     rw[gU,iN (λ e=>h1 e.symm)]at h
     exact hi.rel.dom i (by simp[bK,h])
 · simp only[bK,aG,look]at h
   obtain⟨B1,h,he⟩:=h
   cases he
   split at h
   · rename_i h1
     subst h1
     cases h
     refine⟨hAid,b,hb,hg,⟨⟨C,ty,hC,λ q row' cc v h1 h2=>?_⟩,λ q row' h1=>?_⟩⟩
     · have h1':(B.rows.set r (row.set j (.sl tk n 0)))[q]? =aA row':=h1
       rw[dD]at h1'
       simp only[aS,if_false]
       split at h1'
       · rename_i hq
         subst hq
         split at h1'
         · cases h1'
           rw[dD]at h2
           split at h2
           · rename_i hc
             subst hc
             split at h2
             · cases h2
               obtain⟨cv,h3,h4⟩:=hrows r row j _ hrow hj
               rw[hp]at h4
               cases h4
               exact⟨_,h3,.sl0 hAt hbt⟩
             · cases h2
           · obtain⟨cv,h3,h4⟩:=hrows r row cc v hrow h2
             rw[hp]at h4
             exact⟨cv,h3,by simpa using h4⟩
         · cases h1'
       · obtain⟨cv,h3,h4⟩:=hrows q row' cc v h1' h2
         rw[hp]at h4
         exact⟨cv,h3,by simpa using h4⟩
     · have h1':(B.rows.set r (row.set j (.sl tk n 0)))[q]? =aA row':=h1
       rw[dD]at h1'
       split at h1'
       · split at h1'
         · cases h1';rw[oE];exact hlen r row hrow
         · cases h1'
       · exact hlen q row' h1'
   · rename_i h1
     rw[gU]at h
     split at h
     · cases h
     · exact hi.rel.blk i B' (kS A0 kb k) (by simp[bK,h])⟩
theorem dR{f:FuncId}{k kk:Nat}{args:List AVal}{H RH:aO}{V:AVal}(hk:k<=kk)(hb:bd (jS kk) V=aB)(hB:oM (jS kk) RH=aB)(h:Tr P Γ f k args H (λ _ r1 H1=>r1=V/\QS H1 RH)):
 Tr P Γ f k args H (λ k1 r1 H1=>k1=kk/\r1=V/\H1=RH):=
 Tr.weaken h λ k' r H' _ hq=>⟨kk,V,RH,hk,hq.1▸bJ _,λ id B hid=>⟨B,OM hq.2 id B hid,pG B⟩,.inr ⟨hb,hB⟩,rfl,rfl,rfl⟩
end
end Go.AM
end
section
namespace Go.AM
theorem apN{α:Type}(l:List α):l++[]=l:=cZ l
theorem ssN{α:Type}(l:List α)(i:Nat)(a b:α):(l.set i a).set i b=l.set i b:=List.set_set ..
theorem lrN{α:Type}{n:Nat}{a:α}:(bE n a).length=n:=gI
theorem lcN{α:Type}{a:α}{l:List α}:(a::l).length=l.length+1:=gS
theorem XF{keep:List Nat}{g:Nat->Nat}(_:Kp keep g){ops:Array Oper}{tr:List Foot}{L:List (List Nat×List Nat)}(hL:tr.map (shG g)=L:=by(simp-dsimp (disch:=omega)only[bI,bQ,shG,gY,nq3,nq4,eq_self,↓reduceIte,lE,RX];rfl))(h:EK ops L=aB:=by decide+kernel)(hm:(tr.all λ f=>f.mods.all λ x=>decide (x<f.k'))=aB:=by simp-dsimp-implicitDefEqProofs (disch:=omega)only[go_sem,gY,RE,ltB_iff,aM,bI,bQ,eq_self,↓reduceIte]):kP ops tr=aB:=bFG g hL h hm
theorem fC{Q P1 P2 P3 P4 P5 P6 P7 P8 P9 P10 P11 P12:Prop}(p:Hd P1/\Hd P2/\Hd P3/\Hd P4/\Hd P5/\Hd P6/\Hd P7/\Hd P8/\Hd P9/\Hd P10/\Hd P11/\Hd P12)
 (h:Hd P1->Hd P2->Hd P3->Hd P4->Hd P5->Hd P6->Hd P7->Hd P8->Hd P9->Hd P10->Hd P11->Hd P12->Q:=by
 intro a1 a2 a3 a4 a5 a6 a7 a8 a9 a10 a11 a12;refine two ?_ ?_;·(repeat'(first|(refine gW rfl ?_)|(refine AC rfl ?_)|(refine AB rfl ?_;(try simp-dsimp-implicitDefEqProofs (disch:=omega)only[go_sem,gY,uU,eq_self,↓reduceIte]))|(refine FK rfl ?_;(try simp-dsimp-implicitDefEqProofs (disch:=omega)only[go_sem,gY,uU,eq_self,↓reduceIte]))|(refine tK rfl _ rfl (λ zt=>?_) (λ zt=>?_)<;>(try(simp only[nf]at zt))<;>(try(exfalso;omega)))|((first|(refine YD kp rfl rfl rfl (λ zK hK=>?_))|(refine YE kp rfl rfl iF rfl (λ zK hK=>?_)));simp-dsimp-implicitDefEqProofs (disch:=omega)only[go_sem,gY,uU,eq_self,↓reduceIte];(repeat'(first|(refine And.intro ?_ ?_)|(refine kY (λ hb=>?_) (λ hb=>?_)<;>(have zg:=hb;(try simp only[nfb]at zg);simp-dsimp-implicitDefEqProofs (disch:=omega)only[go_sem,gY,uU,hb,zg,eq_self,↓reduceIte];clear hb;(try simp only[nfe]at zg)))));any_goals ((first|refine hK _ _ _ _ (λ hx=>?_)|refine hK _ _ _ _ (XF kp) (λ hx=>?_)|refine hK _ _ _ _ a6B (λ hx=>?_));clear hx hK;simp-dsimp-implicitDefEqProofs (disch:=omega)only[go_sem,gY,uU,eq_self,↓reduceIte];(try simp(disch:=omega)only[wrap_i64,wrap_u64,wrap_u32,nX])))|omega));all_goals(refine Hd.o ?_;(repeat revert zg);refine Hd.o ?_;(repeat revert zt);exact GC a1 a2 a3 a4 a5 a6 a7 a8 a9 a10 a11 a12)
 exact GB a1 a2 a3 a4 a5 a6 a7 a8 a9 a10 a11 a12):Q:=h p.1 p.2.1 p.2.2.1 p.2.2.2.1 p.2.2.2.2.1 p.2.2.2.2.2.1 p.2.2.2.2.2.2.1 p.2.2.2.2.2.2.2.1 p.2.2.2.2.2.2.2.2.1 p.2.2.2.2.2.2.2.2.2.1 p.2.2.2.2.2.2.2.2.2.2.1 p.2.2.2.2.2.2.2.2.2.2.2
theorem pP(os:List Orc){Q P1 P2 P3 P4 P5 P6 P7 P8 P9 P10 P11 P12:Prop}(p:Hd P1/\Hd P2/\Hd P3/\Hd P4/\Hd P5/\Hd P6/\Hd P7/\Hd P8/\Hd P9/\Hd P10/\Hd P11/\Hd P12)
 (h:Os os->Hd P1->Hd P2->Hd P3->Hd P4->Hd P5->Hd P6->Hd P7->Hd P8->Hd P9->Hd P10->Hd P11->Hd P12->Q:=by
 intro oo a1 a2 a3 a4 a5 a6 a7 a8 a9 a10 a11 a12;refine two ?_ ?_;·(refine aIA kp oo rfl rfl (λ zK hK=>?_));simp-dsimp-implicitDefEqProofs (disch:=omega)only[go_sem,gY,uU,eq_self,↓reduceIte];(repeat'(first|(refine And.intro ?_ ?_)|(refine kY (λ hb=>?_) (λ hb=>?_)<;>(have zg:=hb;(try simp only[nfb]at zg);simp-dsimp-implicitDefEqProofs (disch:=omega)only[go_sem,gY,uU,hb,zg,eq_self,↓reduceIte];clear hb;(try simp only[nfe]at zg)))));(any_goals ((refine hK _ _ _ _ (λ hx=>?_));clear hx hK;simp-dsimp-implicitDefEqProofs (disch:=omega)only[go_sem,gY,uU,eq_self,↓reduceIte];(try simp(disch:=omega)only[wrap_i64,wrap_u64,wrap_u32,nX])));(all_goals(try omega));all_goals(refine Hd.o ?_;(repeat revert zg);refine Hd.o ?_;(repeat revert zt);exact GC a1 a2 a3 a4 a5 a6 a7 a8 a9 a10 a11 a12)
 exact GB a1 a2 a3 a4 a5 a6 a7 a8 a9 a10 a11 a12):Q:=h ⟨⟩ p.1 p.2.1 p.2.2.1 p.2.2.2.1 p.2.2.2.2.1 p.2.2.2.2.2.1 p.2.2.2.2.2.2.1 p.2.2.2.2.2.2.2.1 p.2.2.2.2.2.2.2.2.1 p.2.2.2.2.2.2.2.2.2.1 p.2.2.2.2.2.2.2.2.2.2.1 p.2.2.2.2.2.2.2.2.2.2.2
theorem YO(os:List Orc){Q P1 P2 P3 P4 P5 P6 P7 P8 P9 P10 P11 P12:Prop}(p:Hd P1/\Hd P2/\Hd P3/\Hd P4/\Hd P5/\Hd P6/\Hd P7/\Hd P8/\Hd P9/\Hd P10/\Hd P11/\Hd P12)
 (h:Os os->Hd P1->Hd P2->Hd P3->Hd P4->Hd P5->Hd P6->Hd P7->Hd P8->Hd P9->Hd P10->Hd P11->Hd P12->Q:=by
 intro oo a1 a2 a3 a4 a5 a6 a7 a8 a9 a10 a11 a12;refine two ?_ ?_;·(refine aIB kp oo rfl iF rfl (λ zK hK=>?_));simp-dsimp-implicitDefEqProofs (disch:=omega)only[go_sem,gY,uU,eq_self,↓reduceIte];(repeat'(first|(refine And.intro ?_ ?_)|(refine kY (λ hb=>?_) (λ hb=>?_)<;>(have zg:=hb;(try simp only[nfb]at zg);simp-dsimp-implicitDefEqProofs (disch:=omega)only[go_sem,gY,uU,hb,zg,eq_self,↓reduceIte];clear hb;(try simp only[nfe]at zg)))));(any_goals ((first|refine hK _ _ _ _ (XF kp) (λ hx=>?_)|refine hK _ _ _ _ a6B (λ hx=>?_));clear hx hK;simp-dsimp-implicitDefEqProofs (disch:=omega)only[go_sem,gY,uU,eq_self,↓reduceIte];(try simp(disch:=omega)only[wrap_i64,wrap_u64,wrap_u32,nX])));(all_goals(try omega));all_goals(refine Hd.o ?_;(repeat revert zg);refine Hd.o ?_;(repeat revert zt);exact GC a1 a2 a3 a4 a5 a6 a7 a8 a9 a10 a11 a12)
 exact GB a1 a2 a3 a4 a5 a6 a7 a8 a9 a10 a11 a12):Q:=h ⟨⟩ p.1 p.2.1 p.2.2.1 p.2.2.2.1 p.2.2.2.2.1 p.2.2.2.2.2.1 p.2.2.2.2.2.2.1 p.2.2.2.2.2.2.2.1 p.2.2.2.2.2.2.2.2.1 p.2.2.2.2.2.2.2.2.2.1 p.2.2.2.2.2.2.2.2.2.2.1 p.2.2.2.2.2.2.2.2.2.2.2
theorem kJ{A B:Prop}(b:Hd (Hd B))(h:Hd (Hd B)->A:=by intro b1;refine bV rfl ?_;simp-dsimp-implicitDefEqProofs (disch:=omega)only[go_sem,gY,uU,eq_self,↓reduceIte];refine⟨_,rfl,?_⟩;exact Hd.o (Hd.o b1)):A:=h b
theorem fJ{A B:Prop}(b:Hd B)(h:Hd B->A:=by
 intro b1;refine two ?_ ?_;·(simp-dsimp-implicitDefEqProofs (disch:=omega)only[go_sem,gY,uU,eq_self,↓reduceIte])<;>exact Hd.o (Hd.o b1)
 (try have zz:Hd True:=b1);exact trivial):A:=h b
end Go.AM
end
section
namespace Go.AM
open Go
def QB(Hc:aO)(ρ:cY)(b:Nat):Prop:=∃id B s,AM.look Hc id=aA B/\ρ id=aA (b,s)
def Holds(Hc:aO)(H:lU)(A:bZ):Prop:=∀id B,AM.look Hc id=aA B->∃A',H id=aA (B,A')/\∀i,A' i->A i
def Bor(Γ:dL)(Hc:aO)(v v':AVal):Prop:=
 ∀w G ρ H A cv,HRel Γ w G ρ H->Holds Hc H A->V w G ρ A v cv->V w (λ b=>G b\/QB Hc ρ b) bS cI v' cv
inductive BorL (Γ:dL) (Hc:aO):List AVal->List AVal->Prop
 |nil:BorL Γ Hc [] []
 |cons {v v' vs vs'}:Bor Γ Hc v v'->BorL Γ Hc vs vs'->BorL Γ Hc (v::vs) (v'::vs')
theorem BorL.len {Γ:dL}{Hc:aO}{vs vs':List AVal}(h:BorL Γ Hc vs vs'):vs.length=vs'.length:=by
 induction h with
 |nil=>rfl
 |cons _ _ ih=>simp[ih]
theorem BorL.get {Γ:dL}{Hc:aO}{vs vs':List AVal}(h:BorL Γ Hc vs vs'):∀(j:Nat) v',vs'[j]? =aA v'->∃v,vs[j]? =aA v/\Bor Γ Hc v v':=by
 induction h with
 |nil=>intro j v' hj;simp at hj
 |cons h1 _ ih=>
  intro j v' hj
  cases j with
  |zero=>simp only[lF,aA.injEq]at hj;subst hj;exact⟨_,rfl,h1⟩
  |succ j=>simp only[fM]at hj⊢;exact ih j v' hj
theorem QR {Γ:dL}{Hc:aO}{v:AVal}(h:clean v=aB):Bor Γ Hc v v:=λ w G ρ H A cv _ _ hv=>
 (HH hv h).mono (λ _ h=> .inl h) (λ _ _=>rfl) (λ _ _=>rfl) (λ _ h=>h) (λ _ h=>h.elim)
def aTW:AVal->Bool
 | .lit _=>aB
 | .agg cs=>cs.all λ v=>match v with| .lit _=>aB|_=>aE
 |_=>aE
def a8H:AVal->Bool
 | .tup vs=>vs.all aTW
 |v=>aTW v
theorem aJW{w w':World}{G G':Nat->Prop}{ρ ρ':cY}{A A':bZ}{v:AVal}{cv:Value}(h:V w G ρ A v cv)(hl:aTW v=aB):V w' G' ρ' A' v cv:=by
 cases v with
 |lit u=>cases h;exact .lit
 |agg cs=>
  cases h with
  |agg h1 h2=>
   refine .agg h1 λ j u hj=>?_;have h3:=iT hl hj;have h4:=h2 j u hj
   cases u with
   |lit x=>have e:=gO h4;rw[e];exact .lit
   |_=>cases h3
 |_=>cases hl
theorem aTV{w w':World}{G G':Nat->Prop}{ρ ρ':cY}{A A':bZ}{v:AVal}{cv:Value}(h:V w G ρ A v cv)(hl:a8H v=aB):V w' G' ρ' A' v cv:=by
 cases v with
 |tup vs=>
  cases h with
  |tup h1 h2=>exact .tup h1 λ j u hj=>aJW (h2 j u hj) (iT hl hj)
 |_=>exact aJW h hl
section
variable{P:Program}{Γ:dL}{o:Oper}{ev:Operand->Option AVal}{get:Nat->Option Blk}{k:Nat}
theorem aIS{f:Operand}{args:Array Operand}{ty:Array TypeId}{g:FuncId}{vs vs':List AVal}{Hc:aO}{r:AVal}
 (ho:o.op= .call {callee:= .value f,args:=args,argTypes:=ty}) (hg:aT P g=aB) (hf:ev f=aA (.fn g [])) (ha:pJ ev args.toList=aA vs)
 (hb:BorL Γ Hc vs vs') (hin:∀id B,AM.look Hc id=aA B->get id=aA B) (hr:a8H r=aB) (hp:Pure P Γ g vs' r):Good P Γ o ev get k ⟨r,k,[],Hc.map (·.1)⟩:=by
 refine⟨?_,λ id hid=>by simp only[dB]at hid;obtain⟨x,hx,rfl⟩:=hid;obtain⟨y,hy⟩:=BR hx;rw[hin _ y hy];rfl,aF _⟩
 intro w G ρ H A a hrl hA hfr hrd hop next Q hn
 have hvf:=hop f (by simp[ho,Op.operands,Call.operands]) _ hf;have hVs:=XV (a:=a) (w:=w) (G:=G) (ρ:=ρ) (A:=A) ha λ x hx v hv=>hop x (by simp[ho,Op.operands,Call.operands,hx]) v hv;have hHc:Holds Hc H A:=λ id B hB=>by obtain⟨B',A',h1,h2,h3⟩:=hrd id (by simp only[dB];exact⟨(id,B),GI hB,rfl⟩);rw[hin id B hB]at h1;cases h1;exact⟨A',h2,h3⟩
 obtain⟨cs,hcv,hcs⟩:∃cs,a.eval f= .func (.func g) #[] cs/\cs= #[]:=by
  generalize a.eval f=cv at hvf
  cases hvf with
  |fn h1 h2=>exact⟨_,rfl,jN (by simpa using h1.symm)⟩
 subst hcs;have hlt:∀b,QB Hc ρ b->b<w.heap.size/\¬G b:=λ b ⟨id,B,s,h1,h2⟩=>⟨hrl.owned_lt ⟨id,s,h2⟩,hrl.owned_not_ro ⟨id,s,h2⟩⟩
 have hrel1:HRel Γ w (λ b=>G b\/QB Hc ρ b) bS (bK [] cI):=
  ⟨λ _ _=>rfl,(λ id B A' hid=>by simp[bK,look]at hid),(λ i j b s t h=>by cases h),λ b hb=>hb.elim (hrl.ro b) (λ h=>(hlt b h).1),(λ g' cells hg'=>by obtain⟨h1,h2,h3⟩:=hrl.glob g' cells hg';exact⟨h1.mono (λ _ h=> .inl h) (λ _ _=>rfl) (λ _ _=>rfl) (λ _ h=>h) (λ _ h=>h.elim),.inl h2,h3⟩)⟩
 have hVs1:Vs w (λ b=>G b\/QB Hc ρ b) bS cI vs' (args.map a.eval):=⟨by rw[<-hb.len];exact hVs.1,λ j v' hj=>by obtain⟨v,h1,h2⟩:=hb.get j v' hj;exact h2 w G ρ H A _ hrl hHc (hVs.2 j v h1)⟩
 have hcall:=hp k cI (λ i hi=>hi.elim) w _ bS (args.map a.eval) hrel1 hVs1;unfold Oper.wp;rw[ZL ho hg a #[] hcv w,Array.append_empty];refine hcall.mono λ e w' hq=>?_;obtain⟨cv,G',ρ',k',r',H',rfl,⟨rfl,rfl,rfl⟩,_,hrel',hV',hst'⟩:=hq;have hkeep:∀b,b<w.heap.size->w'.heap[b]? =w.heap[b]? :=λ b hb=>hst'.keep b hb (λ⟨i,s,h⟩=>by cases h)
 have hst:Step (λ i=>¬(k'<=i/\i<k')) w G ρ w' (λ b=>G b\/(w.heap.size<=b/\G' b)) ρ:=
  ⟨hst'.size,λ b hb _=>hkeep b hb,hst'.shape,λ _ h=> .inl h,λ b h=>h.elim .inl (λ h=> .inr (.inr h.1)),λ _ h=> .inl h,λ _ _=> .inr rfl,hst'.os,hst'.tape,hst'.output⟩
 refine hn w' _ ρ cv ?_ (aTV hV' hr) hst;refine hrl.after hst H hrl.dom (λ id B A1 hid=>?_) hrl.inj (λ b hb=>hb.elim (λ h=>oD (hrl.ro b h) hst'.size) (λ h=>hrel'.ro b h.2));obtain⟨h1,b,h2,h3,_⟩:=hrl.blk id B A1 hid;have hbl:=hrl.owned_lt ⟨id,_,h2⟩;exact⟨h1,.inl ⟨A1,b,hid,λ _ h=>h,λ i _ hc=>oO,rfl,h2,hkeep b hbl,λ h=>h.elim h3 (λ h=>oO)⟩⟩
theorem Bor.ptr {Hc:aO}{id r:Nat}{B:Blk}{row:List AVal}{cells:List AVal}(hB:AM.look Hc id=aA B)(hrow:B.rows[r]? =aA row)(hl:cells.length=row.length)(h:∀(j:Nat) v v',row[j]? =aA v->cells[j]? =aA v'->Bor Γ Hc v v'):Bor Γ Hc (.ptr id r 0) (.rp cells):=λ w G ρ H A cv hr hh hv=>by
 obtain⟨A',hH,hAA⟩:=hh id B hB;obtain⟨_,b,hb,_,hBR⟩:=hr.blk id B A' hH
 cases hv with
 |dang _ hn=>rw[hb]at hn;cases hn
 |ptr ha hρ hsh=>
  rw[hb]at hρ;cases hρ;obtain⟨⟨C,ty,hC,hrows⟩,hlen⟩:=hBR.old hsh
  have key:∀(j:Nat) v',cells[j]? =aA v'->∃v cu,row[j]? =aA v/\C[r*B.sz+j]? =aA cu/\V w G ρ A v cu:=λ j v' hj=>by
   have hlt:=(aK.1 hj).1;have hu:row[j]? =aA row[j]:=aJ oO;obtain⟨cu,h3,h4⟩:=hrows r row j _ hrow hu;refine⟨_,cu,hu,h3,?_⟩;by_cases hp:B.pure=aB;.simp only[hp,if_true]at h4;exact h4.weaken
   simp only[hp]at h4;exact h4.mono (λ _ h=>h) (λ _ _=>rfl) (λ _ _=>rfl) hAA (λ _ _=> .inr rfl)
  refine .rp (λ j=>C.getD (r*B.sz+j) undef) (.inr ⟨id,B,_,hB,hb⟩) (λ j v' hj=>?_) (λ j v' hj=>?_);.obtain⟨v,cu,_,h3,_⟩:=key j v' hj;rw[jL,cell_of_row w b _ C ty (0,0) hC,h3,aI,h3];rfl
  obtain⟨v,cu,h2,h3,h4⟩:=key j v' hj;have e:C.getD (r*B.sz+j) undef=cu:=by rw[aI,h3];rfl
  rw[e];exact h j v v' h2 hj w G ρ H A cu hr hh h4
theorem Bor.sl {Hc:aO}{id r n:Nat}{B:Blk}{F:Nat->List AVal}(hB:AM.look Hc id=aA B)(hn:r+n<=B.rows.length)(hl:∀i,i<n->(F i).length=B.sz)
 (h:∀(i:Nat) row (j:Nat) v v',i<n->B.rows[r+i]? =aA row->row[j]? =aA v->(F i)[j]? =aA v'->Bor Γ Hc v v'):Bor Γ Hc (.sl id r n) (.rd B.sz n F):=λ w G ρ H A cv hr hh hv=>by
 obtain⟨A',hH,hAA⟩:=hh id B hB
 obtain⟨_,b,hb,_,hBR⟩:=hr.blk id B A' hH
 cases hv with
 |dangs _ hn=>rw[hb]at hn;cases hn
 |sl0=>exact .rd0
 | sl ha hρ hsh hm hn1 hc hoff=>
   rw[hb]at hρ;cases hρ
   rename_i cap off
   obtain⟨⟨C,ty,hC,hrows⟩,hlen⟩:=hBR.old hsh
   by_cases h0:n=0
   · subst h0;exact .rd0
   have hoff':off=r*B.sz:=hoff.resolve_left oO
   subst hoff'
   have key:∀(i j:Nat) v',i<n->(F i)[j]? =aA v'->∃row v cu,B.rows[r+i]? =aA row/\row[j]? =aA v/\C[(r+i)*B.sz+j]? =aA cu/\V w G ρ A v cu:=λ i j v' hi hj=>by
    have hrow:B.rows[r+i]? =aA B.rows[r+i]:=aJ oO;have hlr:=hlen _ _ hrow;have hlt:=(aK.1 hj).1;rw[hl i hi]at hlt;have hu:B.rows[r+i][j]? =aA (B.rows[r+i][j]'oO):=aJ oO;obtain⟨cu,h3,h4⟩:=hrows (r+i) _ j _ hrow hu;refine⟨_,_,cu,hrow,hu,h3,?_⟩;by_cases hp:B.pure=aB;.simp only[hp,if_true]at h4;exact h4.weaken
    simp only[hp]at h4;exact h4.mono (λ _ h=>h) (λ _ _=>rfl) (λ _ _=>rfl) hAA (λ _ _=> .inr rfl)
   refine .rd (λ i j=>C.getD ((r+i)*B.sz+j) undef) (.inr ⟨id,B,_,hB,hb⟩) hn1 oO hl (λ i j v' hi hj=>?_) (λ i j v' hi hj=>?_)
   · obtain⟨row,v,cu,_,_,h3,_⟩:=key i j v' hi hj
     have e:r*B.sz+i*B.sz+j=(r+i)*B.sz+j:=by rw[cQ]
     rw[e,cell_of_row w b _ C ty (0,0) hC,h3,aI,h3];rfl
   · obtain⟨row,v,cu,h1,h2,h3,h4⟩:=key i j v' hi hj
     have e:C.getD ((r+i)*B.sz+j) undef=cu:=by rw[aI,h3];rfl
     rw[e]
     exact h i row j v v' hi h1 h2 hj w G ρ H A cu hr hh h4
end
def YM:List Nat->List Nat
 |[]=>[]
 |a::r=>if(YM r).contains a then YM r else a::YM r
theorem mem_nub{x:Nat}:∀ {l:List Nat},x∈YM l↔x∈l
 |[]=>Iff.rfl
 |a::r=>by
  have ih:=mem_nub (x:=x) (l:=r);rw[YM];split
  .rename_i h;rw[bKV]at h;rw[ih,eY];constructor;.exact .inr
   rintro(rfl|h2);.exact mem_nub.1 h
   exact h2
  rw[eY,eY,ih]
theorem aAB{g:Nat->Nat}{y:Nat}:∀ {l:List Nat},l≠[]->(∀x,x∈l->g x=y)->YM (l.map g)=[y]
 |[],h,_=>absurd rfl h
 |[a],_,h=>by simp[YM,h a]
 |a::b::r,_,h=>by have ih:=aAB (g:=g) (y:=y) (l:=b::r) sS (λ x hx=>h x (dM _ hx));rw[bI,YM,ih,h a (List.mem_cons_self ..)];simp
def shN(g:Nat->Nat)(f:Foot):List Nat×List Nat:=(YM (f.rds.map g),f.mods.map g)
theorem xM{a a' b b':List Nat}(ha:∀x,x∈a->x∈a')(hb:∀x,x∈b->x∈b')(h:kL a' b'=aE):kL a b=aE:=by
 cases hm:kL a b with
 |false=>rfl
 |true=>
  unfold kL at hm h;obtain⟨x,hx,hxb⟩:=aLX.1 hm
  have:(a'.any λ y=>b'.contains y)=aB:=aLX.2 ⟨x,ha x hx,by
   rw[bKV]at hxb⊢
   exact hb x hxb⟩
  rw[this]at h;cases h
theorem a3R{g:Nat->Nat}{ops:Array Oper}{oj oi:Oper}{fj fi:Foot}(h:zP ops oj (shN g fj) oi (shN g fi)=aE):mR ops oj fj oi fi=aE:=by refine XO (g:=g) ?_;simp only[zP,fO,shN]at h;simp only[zP,fO,shG];obtain⟨⟨⟨⟨⟨h1,h2⟩,h3⟩,h4⟩,h5⟩,h6⟩:=h;exact⟨⟨⟨⟨⟨h1,h2⟩,h3⟩,xM (λ _ h=>h) (λ _ h=>mem_nub.2 h) h4⟩,h5⟩,xM (λ _ h=>mem_nub.2 h) (λ _ h=>h) h6⟩
theorem bFF{ops:Array Oper}{tr:List Foot}(g:Nat->Nat){L:List (List Nat×List Nat)}(hL:tr.map (shN g)=L)(h:EK ops L=aB:=by decide+kernel)(hm:(tr.all λ f=>f.mods.all λ x=>decide (x<f.k'))=aB:=by simp-dsimp-implicitDefEqProofs (disch:=omega)only[go_sem,gY,RE,ltB_iff,aM,eq_self,↓reduceIte]):kP ops tr=aB:=by
 subst hL;simp only[EK,aW]at h;simp only[kP,aW];intro i hi;have h1:=h i hi;rw[aP]at h1
 cases ho:ops[i]? with
 |none=>rw[ho]at h1;simp at h1
 |some oi=>
  cases ht:tr[i]? with
  |none=>rw[ho,ht]at h1;simp at h1
  |some fi=>
   rw[ho,ht]at h1;simp only[bU,aH,aW]at h1;simp only[aH,aW];refine⟨⟨h1.1,?_⟩,λ j hj=>?_⟩;.have:=aW.1 hm fi (iG ht);exact λ x hx=>aW.1 this x hx
   have h2:=h1.2 j hj;rw[aP]at h2
   cases hoj:ops[j]? with
   |none=>rw[hoj]at h2;simp at h2
   |some oj=>
    cases htj:tr[j]? with
    |none=>rw[hoj,htj]at h2;simp at h2
    |some fj=>
     rw[hoj,htj]at h2;simp only[bU,bL,bD]at h2;simp only[bL,bD];rcases h2 with h2|h2;.exact .inl (a3R h2)
     exact .inr h2
end Go.AM
end
section
namespace Go.AM
theorem aVV{keep:List Nat}{g:Nat->Nat}(_:Kp keep g){ops:Array Oper}{tr:List Foot}{L:List (List Nat×List Nat)}(hL:tr.map (shN g)=L)(h:EK ops L=aB:=by decide+kernel)(hm:(tr.all λ f=>f.mods.all λ x=>decide (x<f.k'))=aB:=by simp-dsimp-implicitDefEqProofs (disch:=omega)only[go_sem,gY,RE,ltB_iff,aM,bI,bQ,eq_self,↓reduceIte]):kP ops tr=aB:=bFF g hL h hm
theorem dJ{Q P1 P2 P3 P4 P5 P6 P7 P8 P9 P10 P11 P12:Prop}(p:Hd P1/\Hd P2/\Hd P3/\Hd P4/\Hd P5/\Hd P6/\Hd P7/\Hd P8/\Hd P9/\Hd P10/\Hd P11/\Hd P12)
 (h:Hd P1->Hd P2->Hd P3->Hd P4->Hd P5->Hd P6->Hd P7->Hd P8->Hd P9->Hd P10->Hd P11->Hd P12->Q:=by
 intro a1 a2 a3 a4 a5 a6 a7 a8 a9 a10 a11 a12;refine two ?_ ?_;·(repeat'(first|(refine gW rfl ?_)|(refine AC rfl ?_)|(refine AB rfl ?_;(try simp-dsimp-implicitDefEqProofs (disch:=omega)only[go_sem,gY,uU,eq_self,↓reduceIte]))|(refine FK rfl ?_;(try simp-dsimp-implicitDefEqProofs (disch:=omega)only[go_sem,gY,uU,eq_self,↓reduceIte]))|(refine tK rfl _ rfl (λ zt=>?_) (λ zt=>?_)<;>(try(simp only[nf]at zt))<;>(try(exfalso;omega)))|((first|(refine YD kp rfl rfl rfl (λ zK hK=>?_))|(refine YE kp rfl rfl iF rfl (λ zK hK=>?_)));simp-dsimp-implicitDefEqProofs (disch:=omega)only[go_sem,gY,uU,eq_self,↓reduceIte];(repeat'(first|(refine And.intro ?_ ?_)|(refine kY (λ hb=>?_) (λ hb=>?_)<;>(have zg:=hb;(try simp only[nfb]at zg);simp-dsimp-implicitDefEqProofs (disch:=omega)only[go_sem,gY,uU,hb,zg,eq_self,↓reduceIte];clear hb;(try simp only[nfe]at zg)))));any_goals ((first|refine hK _ _ _ _ (λ hx=>?_)|refine hK _ _ _ _ (XF kp) (λ hx=>?_)|refine hK _ _ _ _ (aVV kp (by(simp-dsimp (disch:=omega)only[bI,bQ,shN,gY,nq3,nq4,lE,RX,uU,eq_self,↓reduceIte];rfl))) (λ hx=>?_));clear hx hK;simp-dsimp-implicitDefEqProofs (disch:=omega)only[go_sem,gY,uU,eq_self,↓reduceIte];(try simp(disch:=omega)only[wrap_i64,wrap_u64,wrap_u32,nX])))|omega));all_goals(refine Hd.o ?_;(repeat revert zg);refine Hd.o ?_;(repeat revert zt);exact GC a1 a2 a3 a4 a5 a6 a7 a8 a9 a10 a11 a12)
 exact GB a1 a2 a3 a4 a5 a6 a7 a8 a9 a10 a11 a12):Q:=h p.1 p.2.1 p.2.2.1 p.2.2.2.1 p.2.2.2.2.1 p.2.2.2.2.2.1 p.2.2.2.2.2.2.1 p.2.2.2.2.2.2.2.1 p.2.2.2.2.2.2.2.2.1 p.2.2.2.2.2.2.2.2.2.1 p.2.2.2.2.2.2.2.2.2.2.1 p.2.2.2.2.2.2.2.2.2.2.2
theorem jR(os:List Orc){Q P1 P2 P3 P4 P5 P6 P7 P8 P9 P10 P11 P12:Prop}(p:Hd P1/\Hd P2/\Hd P3/\Hd P4/\Hd P5/\Hd P6/\Hd P7/\Hd P8/\Hd P9/\Hd P10/\Hd P11/\Hd P12)
 (h:Os os->Hd P1->Hd P2->Hd P3->Hd P4->Hd P5->Hd P6->Hd P7->Hd P8->Hd P9->Hd P10->Hd P11->Hd P12->Q:=by
 intro oo a1 a2 a3 a4 a5 a6 a7 a8 a9 a10 a11 a12;refine two ?_ ?_;·(refine aIA kp oo rfl rfl (λ zK hK=>?_));simp-dsimp-implicitDefEqProofs (disch:=omega)only[go_sem,gY,uU,eq_self,↓reduceIte];(repeat'(first|(refine And.intro ?_ ?_)|(refine kY (λ hb=>?_) (λ hb=>?_)<;>(have zg:=hb;(try simp only[nfb]at zg);simp-dsimp-implicitDefEqProofs (disch:=omega)only[go_sem,gY,uU,hb,zg,eq_self,↓reduceIte];clear hb;(try simp only[nfe]at zg)))));(any_goals ((refine hK _ _ _ _ (λ hx=>?_));clear hx hK;simp-dsimp-implicitDefEqProofs (disch:=omega)only[go_sem,gY,uU,eq_self,↓reduceIte];(try simp(disch:=omega)only[wrap_i64,wrap_u64,wrap_u32,nX])));(all_goals(try omega));all_goals(refine Hd.o ?_;(repeat revert zg);refine Hd.o ?_;(repeat revert zt);exact GC a1 a2 a3 a4 a5 a6 a7 a8 a9 a10 a11 a12)
 exact GB a1 a2 a3 a4 a5 a6 a7 a8 a9 a10 a11 a12):Q:=h ⟨⟩ p.1 p.2.1 p.2.2.1 p.2.2.2.1 p.2.2.2.2.1 p.2.2.2.2.2.1 p.2.2.2.2.2.2.1 p.2.2.2.2.2.2.2.1 p.2.2.2.2.2.2.2.2.1 p.2.2.2.2.2.2.2.2.2.1 p.2.2.2.2.2.2.2.2.2.2.1 p.2.2.2.2.2.2.2.2.2.2.2
theorem AI(os:List Orc){Q P1 P2 P3 P4 P5 P6 P7 P8 P9 P10 P11 P12:Prop}(p:Hd P1/\Hd P2/\Hd P3/\Hd P4/\Hd P5/\Hd P6/\Hd P7/\Hd P8/\Hd P9/\Hd P10/\Hd P11/\Hd P12)
 (h:Os os->Hd P1->Hd P2->Hd P3->Hd P4->Hd P5->Hd P6->Hd P7->Hd P8->Hd P9->Hd P10->Hd P11->Hd P12->Q:=by
 intro oo a1 a2 a3 a4 a5 a6 a7 a8 a9 a10 a11 a12;refine two ?_ ?_;·(refine aIB kp oo rfl iF rfl (λ zK hK=>?_));simp-dsimp-implicitDefEqProofs (disch:=omega)only[go_sem,gY,uU,eq_self,↓reduceIte];(repeat'(first|(refine And.intro ?_ ?_)|(refine kY (λ hb=>?_) (λ hb=>?_)<;>(have zg:=hb;(try simp only[nfb]at zg);simp-dsimp-implicitDefEqProofs (disch:=omega)only[go_sem,gY,uU,hb,zg,eq_self,↓reduceIte];clear hb;(try simp only[nfe]at zg)))));(any_goals ((first|refine hK _ _ _ _ (XF kp) (λ hx=>?_)|refine hK _ _ _ _ (aVV kp (by(simp-dsimp (disch:=omega)only[bI,bQ,shN,gY,nq3,nq4,lE,RX,uU,eq_self,↓reduceIte];rfl))) (λ hx=>?_));clear hx hK;simp-dsimp-implicitDefEqProofs (disch:=omega)only[go_sem,gY,uU,eq_self,↓reduceIte];(try simp(disch:=omega)only[wrap_i64,wrap_u64,wrap_u32,nX])));(all_goals(try omega));all_goals(refine Hd.o ?_;(repeat revert zg);refine Hd.o ?_;(repeat revert zt);exact GC a1 a2 a3 a4 a5 a6 a7 a8 a9 a10 a11 a12)
 exact GB a1 a2 a3 a4 a5 a6 a7 a8 a9 a10 a11 a12):Q:=h ⟨⟩ p.1 p.2.1 p.2.2.1 p.2.2.2.1 p.2.2.2.2.1 p.2.2.2.2.2.1 p.2.2.2.2.2.2.1 p.2.2.2.2.2.2.2.1 p.2.2.2.2.2.2.2.2.1 p.2.2.2.2.2.2.2.2.2.1 p.2.2.2.2.2.2.2.2.2.2.1 p.2.2.2.2.2.2.2.2.2.2.2
theorem fR{A B:Prop}(b:Hd B)(h:Hd B->A:=by
 intro b1;refine two ?_ ?_;·(simp-dsimp-implicitDefEqProofs (disch:=omega)only[go_sem,gY,uU,eq_self,↓reduceIte])<;>exact Hd.o (Hd.o b1)
 (try have zz:Hd True:=b1);exact trivial):A:=h b
end Go.AM
end
