import Derived.Calls
import Derived.Orders
import Derived.Laws.AppendOwn
import Derived.Laws.Rows
import Derived.Deep.LoopGhost
import Derived.Deep.MidRow
import Derived.Laws.Slices
import Derived.Laws.MakeOwn
import Derived.Laws.CopyRow
set_option linter.unusedVariables false
set_option linter.unusedSimpArgs false
set_option maxHeartbeats 0
set_option maxRecDepth 100000
theorem Go.iN {c : Prop} {h : Decidable c} (hc : ¬c) {α : Sort _} {t e : α} : ite c t e = e := if_neg hc
theorem Go.iP {c : Prop} {h : Decidable c} (hc : c) {α : Sort _} {t e : α} : ite c t e = t := if_pos hc
theorem Go.sS {p : Prop} (h : p := by simp) : p := h
theorem Go.dTt {p : Prop} [Decidable p] : (decide p = true) = p := decide_eq_true_eq
theorem Go.dFn {p : Prop} [Decidable p] : decide p = false ↔ ¬p := decide_eq_false_iff_not
theorem Go.oO {p : Prop} (h : p := by omega) : p := h
theorem Go.bB {a b : Nat} (h : Nat.ble a b = true := by exact rfl) : a ≤ b := Nat.le_of_ble_eq_true h
open Array renaming append_assoc->a5F,eq_empty_of_size_eq_zero->jN,ext->aIG,getD_eq_getD_getElem?->aI,getElem?_append_left->fV,getElem?_append_right->SF,getElem?_eq_getElem->aQ,getElem?_eq_none->iD,getElem?_eq_some_iff->dA,getElem?_setIfInBounds_ne->lH,getElem?_setIfInBounds_self_of_lt->qZ,getElem?_toList->bF,length_toList->pU,mem_of_getElem?->SD,size_append->ED
open Bool renaming and_eq_true->aH,and_false->KV,false->aE,false_and->KU,false_eq_true->aS,true->aB
open List renaming all_cons->fU,all_eq_true->aW,append_assoc->cM,ext_getElem?->dZ,getD->oH,getD_eq_getElem?_getD->aR,getElem?_append->dN,getElem?_append_left->gP,getElem?_append_right->iK,getElem?_cons_succ->fM,getElem?_cons_zero->lF,getElem?_drop->dW,getElem?_eq_getElem->aJ,getElem?_eq_none->aX,getElem?_eq_some_iff->aK,getElem?_map->aP,getElem?_of_mem->oN,getElem?_range->mG,getElem?_replicate->oG,getElem?_set->dD,getElem?_take->fE,getElem?_toArray->cJ,getElem_mem->JR,length_append->bM,length_drop->aLW,length_eq_zero_iff->a5B,length_map->cX,length_take->sU,map->rS,map_append->aM,map_cons->bI,map_map->jM,map_nil->bQ,map_toArray->yH,mem_map->dB,mem_of_getElem?->iG,nil_append->aU,range->aN,replicate->bE,size_toArray->fZ
open Nat renaming add_assoc->gD,add_comm->bKT,add_mul->cQ,add_sub_cancel->a4V,add_sub_cancel_left->lE,add_zero->jL,div_add_mod->EB,div_lt_of_lt_mul->aDJ,le_refl->aF,le_trans->qX,lt_irrefl->qR,lt_of_lt_of_le->oD,lt_succ_self->cW,mod_eq_of_lt->JP,mul_comm->iW,mul_le_mul_right->cC,mul_one->HW,pos_of_ne_zero->a4T,sub_self->RX,sub_zero->iV,zero_add->fH,zero_mul->qW
open Option renaming bind_eq_some_iff->cE,isNone->oC,map_eq_some_iff->aG,map_some->bU,none->aC,some->aA
open Go.Result renaming andThen->aID,andThen_ok->bG
open Go.Sem renaming run_bind->bN,run_pure->dE
open Go.Value renaming int->bA
section
namespace Go.AM
inductive AVal where
 |junk
 |lit (v:Value)
 |ptr (id row col:Nat)
 |sl (id row len:Nat)
 |rp (cells:List AVal)
 |rd (sz n:Nat) (f:Nat->List AVal)
 |agg (cells:List AVal)
 |tup (vs:List AVal)
 |fn (f:FuncId) (caps:List AVal)
 |nn
 |slc (id row len cap:Nat)
 |bfn (f:FuncId) (id row col:Nat)
 |mp (id:Nat)
 |it (id:Nat)
abbrev dL:=List (Nat×List AVal)
instance:Inhabited AVal:=⟨.junk⟩
structure Blk where
 sz:Nat
 pure:Bool
 rows:List (List AVal)
abbrev aO:=List (Nat×Blk)
abbrev Fr:=List (Nat×AVal)
def look{α:Type}:List (Nat×α)->Nat->Option α
 |[],_=>aC
 |(a,x)::r,k=>if a=k then aA x else look r k
abbrev cY:=Nat->Option (Nat×Nat)
abbrev bZ:=Nat->Prop
def bS:cY:=λ _=>aC
def cI:bZ:=λ _=>False
def shp(w:World)(b:Nat):Option (Option (TypeId×Nat)):=(w.heap[b]?).map λ o=>match o with
 | .cells c e _=>aA (e,c.size)
 |_=>aC
theorem CS{w:World}{b:Nat}:w.shape? b=(shp w b).bind id:=by
 unfold World.shape? shp
 cases w.heap[b]? with
 |none=>rfl
 |some o=>cases o<;>rfl
theorem aRO{w:World}{b:Nat}{x:Option (TypeId×Nat)}(h:shp w b=aA x):b<w.heap.size:=by
 unfold shp at h;by_cases hb:b<w.heap.size;.exact hb
 rw[iD oO]at h;cases h
theorem shp_of{w w':World}{b b':Nat}(h:w'.heap[b']? =w.heap[b]?):shp w' b'=shp w b:=by unfold shp;rw[h]
inductive V (w:World) (G:Nat->Prop):cY->bZ->AVal->Value->Prop
 |junk {ρ A cv}:V w G ρ A .junk cv
 |lit {ρ A v}:V w G ρ A (.lit v) v
 |dang {ρ A id r c x}:A id->ρ id=aC->V w G ρ A (.ptr id r c) (.pointer x)
 |dangs {ρ A id r n x m c}:A id->ρ id=aC->V w G ρ A (.sl id r n) (.slice x m c)
 |ptr {ρ A id r c b s ty m}:A id->ρ id=aA (b,s)->w.shape? b=aA (ty,m)->V w G ρ A (.ptr id r c) (.pointer (aA ⟨b,r*s+c,aC⟩))
 |sl {ρ A id r n b s ty m cap off}:A id->ρ id=aA (b,s)->w.shape? b=aA (ty,m)->(r+cap)*s<=m->n<=cap->cap<=maxLen->(cap=0\/off=r*s)→
    V w G ρ A (.sl id r n) (.slice (aA ⟨b,off,aC⟩) n cap)
 |sl0 {ρ A id r b s}:A id->ρ id=aA (b,s)->V w G ρ A (.sl id r 0) (.slice aC 0 0)
 |rp {ρ A cells b o} (g:Nat->Value):G b->(∀j v,cells[j]? =aA v->w.cell? ⟨b,o+j,aC⟩=aA (g j))->(∀j v,cells[j]? =aA v->V w G bS cI v (g j))→
    V w G ρ A (.rp cells) (.pointer (aA ⟨b,o,aC⟩))
 |rd0 {ρ A sz f a cap}:V w G ρ A (.rd sz 0 f) (.slice a 0 cap)
 |rd {ρ A sz n f b o cap} (g:Nat->Nat->Value):G b->n<=cap->n<=maxLen->(∀i,i<n->(f i).length=sz)->(∀i j v,i<n->(f i)[j]? =aA v->w.cell? ⟨b,o+i*sz+j,aC⟩=aA (g i j))→
    (∀i j v,i<n->(f i)[j]? =aA v->V w G bS cI v (g i j))->V w G ρ A (.rd sz n f) (.slice (aA ⟨b,o,aC⟩) n cap)
 |agg {ρ A cells cs}:cells.length=cs.size->(∀j v,cells[j]? =aA v->V w G ρ A v (cs.getD j undef))->V w G ρ A (.agg cells) (.agg cs)
 |tup {ρ A vs cs}:vs.length=cs.size->(∀j v,vs[j]? =aA v->V w G ρ A v (cs.getD j undef))->V w G ρ A (.tup vs) (.tuple cs)
 |fn {ρ A f caps cs}:caps.length=cs.size->(∀j v,caps[j]? =aA v->V w G ρ A v (cs.getD j undef))->V w G ρ A (.fn f caps) (.func (.func f) #[] cs)
 |nn {ρ A t v}:V w G ρ A .nn (.iface t v)
 |dangc {ρ A id r n q x m c}:A id->ρ id=aC->V w G ρ A (.slc id r n q) (.slice x m c)
 |slc {ρ A id r n b s ty m cap off}:A id->ρ id=aA (b,s)->w.shape? b=aA (ty,m)->(r+cap)*s<=m->n<=cap->cap<=maxLen->(cap=0\/off=r*s)→
    V w G ρ A (.slc id r n cap) (.slice (aA ⟨b,off,aC⟩) n cap)
 |bfn {ρ A f id r c cv}:V w G ρ A (.ptr id r c) cv->V w G ρ A (.bfn f id r c) (.func (.func f) #[cv] #[])
 |dangm {ρ A id x}:A id->ρ id=aC->V w G ρ A (.mp id) (.map x)
 |mp {ρ A id b s}:A id->ρ id=aA (b,s)->shp w b=aA aC->V w G ρ A (.mp id) (.map (aA b))
 |dangi {ρ A id x}:A id->ρ id=aC->V w G ρ A (.it id) (.pointer x)
 |it {ρ A id b s}:A id->ρ id=aA (b,s)->shp w b=aA aC->V w G ρ A (.it id) (.pointer (aA ⟨b,0,aC⟩))
def mZ(ρ:cY)(b:Nat):Prop:=∃id s,ρ id=aA (b,s)
structure Step (A:bZ) (w:World) (G:Nat->Prop) (ρ:cY) (w':World) (G':Nat->Prop) (ρ':cY):Prop where
 size:w.heap.size<=w'.heap.size
 keep:∀b,b<w.heap.size->¬mZ ρ b->w'.heap[b]? =w.heap[b]?
 shape:∀b,b<w.heap.size->shp w' b=shp w b
 g:∀b,G b->G' b
 g':∀b,G' b->G b\/mZ ρ b\/w.heap.size<=b
 own:∀b,mZ ρ' b->mZ ρ b\/w.heap.size<=b
 ids:∀id,A id->ρ' id=aC\/ρ' id=ρ id
 os:w'.os=w.os
 tape:w'.tape=w.tape
 output:w'.output=w.output
theorem kQ (A:bZ)(w:World)(G:Nat->Prop)(ρ:cY):Step A w G ρ w G ρ:=
 ⟨aF _,λ _ _ _=>rfl,λ _ _=>rfl,λ _ h=>h,λ _ h=> .inl h,λ _ h=> .inl h,λ _ _=> .inr rfl,rfl,rfl,rfl⟩
theorem Step.trans {A A':bZ}{w w1 w2:World}{G G1 G2:Nat->Prop}{ρ ρ1 ρ2:cY}(h:Step A w G ρ w1 G1 ρ1)(k:Step A' w1 G1 ρ1 w2 G2 ρ2)(hA:∀i,A i->A' i):
 Step A w G ρ w2 G2 ρ2 where
 size:=qX h.size k.size
 keep:=λ b hb ho=>by rw[k.keep b (oD hb h.size) (λ ho1=>(h.own b ho1).elim ho (λ hc=>absurd hb (Nat.not_lt.2 hc)))];exact h.keep b hb ho
 shape:=λ b hb=>by rw[k.shape b (oD hb h.size),h.shape b hb]
 g:=λ b hb=>k.g b (h.g b hb)
 g':=λ b hb=>by
  rcases k.g' b hb with h1|h1|h1;.exact h.g' b h1
  .exact .inr (h.own b h1)
  exact .inr (.inr (qX h.size h1))
 own:=λ b hb=>by
  rcases k.own b hb with h1|h1;.exact h.own b h1
  exact .inr (qX h.size h1)
 ids:=λ id ha=>by
  rcases k.ids id (hA id ha)with h1|h1;.exact .inl h1
  rcases h.ids id ha with h2|h2;.exact .inl (h1.trans h2)
  exact .inr (h1.trans h2)
 os:=k.os.trans h.os
 tape:=k.tape.trans h.tape
 output:=k.output.trans h.output
theorem aRP{w:World}{b:Nat}{x:TypeId×Nat}(h:w.shape? b=aA x):b<w.heap.size:=by
 unfold World.shape? at h;by_cases hb:b<w.heap.size;.exact hb
 rw[iD oO]at h;simp at h
theorem PZ{w w':World}{b o:Nat}(h:w'.heap[b]? =w.heap[b]?):w'.cell? ⟨b,o,aC⟩=w.cell? ⟨b,o,aC⟩:=World.cell?_of_block (w:=w) h
theorem EN{w w':World}(hs:∀b,b<w.heap.size->shp w' b=shp w b){b:Nat}{x:TypeId×Nat}(h:w.shape? b=aA x):w'.shape? b=aA x:=by rw[CS,hs b (aRP h),<-CS];exact h
theorem V.mono {w w':World}{G G':Nat->Prop}(hG:∀b,G b->G' b)(hk:∀b,G b->w'.heap[b]? =w.heap[b]?)(hs:∀b,b<w.heap.size->shp w' b=shp w b)
 {ρ:cY} {A:bZ} {v:AVal} {cv:Value} (h:V w G ρ A v cv):∀ {ρ':cY} {A':bZ},(∀id,A id->A' id)->(∀id,A id->ρ' id=aC\/ρ' id=ρ id)->V w' G' ρ' A' v cv:=by
 induction h with
 |nn=>intros;exact .nn
 |dangc ha hr=>
  intro ρ' A' hA hρ;rcases hρ _ ha with h1|h1;.exact .dangc (hA _ ha) h1
  exact .dangc (hA _ ha) (h1.trans hr)
 |slc ha hr hsh h1 h2 h3 h4=>
  intro ρ' A' hA hρ;rcases hρ _ ha with h5|h5;.exact .dangc (hA _ ha) h5
  exact .slc (hA _ ha) (h5.trans hr) (EN hs hsh) h1 h2 h3 h4
 |bfn h ih=>intro ρ' A' hA hρ;exact .bfn (ih hA hρ)
 |junk=>intros;exact .junk
 |lit=>intros;exact .lit
 |dang ha hr=>
  intro ρ' A' hA hρ;rcases hρ _ ha with h1|h1;.exact .dang (hA _ ha) h1
  exact .dang (hA _ ha) (h1.trans hr)
 |dangs ha hr=>
  intro ρ' A' hA hρ;rcases hρ _ ha with h1|h1;.exact .dangs (hA _ ha) h1
  exact .dangs (hA _ ha) (h1.trans hr)
 |ptr ha hr hsh=>
  intro ρ' A' hA hρ;rcases hρ _ ha with h1|h1;.exact .dang (hA _ ha) h1
  exact .ptr (hA _ ha) (h1.trans hr) (EN hs hsh)
 |dangm ha hr=>
  intro ρ' A' hA hρ;rcases hρ _ ha with h1|h1;.exact .dangm (hA _ ha) h1
  exact .dangm (hA _ ha) (h1.trans hr)
 |mp ha hr hsh=>
  intro ρ' A' hA hρ;rcases hρ _ ha with h1|h1;.exact .dangm (hA _ ha) h1
  exact .mp (hA _ ha) (h1.trans hr) ((hs _ (aRO hsh)).trans hsh)
 |dangi ha hr=>
  intro ρ' A' hA hρ;rcases hρ _ ha with h1|h1;.exact .dangi (hA _ ha) h1
  exact .dangi (hA _ ha) (h1.trans hr)
 |it ha hr hsh=>
  intro ρ' A' hA hρ;rcases hρ _ ha with h1|h1;.exact .dangi (hA _ ha) h1
  exact .it (hA _ ha) (h1.trans hr) ((hs _ (aRO hsh)).trans hsh)
 |sl ha hr hsh h1 h2 h3 h4=>
  intro ρ' A' hA hρ;rcases hρ _ ha with h5|h5;.exact .dangs (hA _ ha) h5
  exact .sl (hA _ ha) (h5.trans hr) (EN hs hsh) h1 h2 h3 h4
 |sl0 ha hr=>
  intro ρ' A' hA hρ;rcases hρ _ ha with h1|h1;.exact .dangs (hA _ ha) h1
  exact .sl0 (hA _ ha) (h1.trans hr)
 |rp g hb hc hv ih=>intro ρ' A' hA hρ;exact .rp g (hG _ hb) (λ j v hj=>(PZ (hk _ hb)).trans (hc j v hj)) (λ j v hj=>ih j v hj (λ _ hf=>hf.elim) (λ _ hf=>hf.elim))
 |rd0=>intros;exact .rd0
 |rd g hb hcap hn hl hc hv ih=>intro ρ' A' hA hρ;exact .rd g (hG _ hb) hcap hn hl (λ i j v hi hj=>(PZ (hk _ hb)).trans (hc i j v hi hj)) (λ i j v hi hj=>ih i j v hi hj (λ _ hf=>hf.elim) (λ _ hf=>hf.elim))
 |agg hl hv ih=>intro ρ' A' hA hρ;exact .agg hl λ j v hj=>ih j v hj hA hρ
 |tup hl hv ih=>intro ρ' A' hA hρ;exact .tup hl λ j v hj=>ih j v hj hA hρ
 |fn hl hv ih=>intro ρ' A' hA hρ;exact .fn hl λ j v hj=>ih j v hj hA hρ
def aAI(es:List MapEntry)(clock:Nat):List Value:= .int .i64 clock:: .int .i64 es.length:: .int .i64 1::es.flatMap λ e=>[e.key,e.val,.int .i64 e.born]
def GK(m:Option Nat)(since:Nat)(seen:Array Nat)(c0:Nat):List Value:= .int .i64 c0:: .int .i64 seen.size:: .int .i64 2:: .map m:: .int .i64 since:: .int .i64 0::seen.toList.flatMap λ(x:Nat)=>[bA .i64 (x:Int),.int .i64 0,.int .i64 0]
inductive ObjC:Obj->Array Value->Prop
 |cells {C ty}:ObjC (.cells C ty (0,0)) C
 |map {es clock}:ObjC (.map es clock) (aAI es.toList clock).toArray
 |iter {m since seen c0}:ObjC (.mapIter m since seen c0) (GK m since seen c0).toArray
theorem ObjC.shaped {w:World}{b:Nat}{o:Obj}{C:Array Value}{x:TypeId×Nat}(h:ObjC o C)(ho:w.heap[b]? =aA o)(hs:w.shape? b=aA x):o= .cells C x.1 (0,0):=by
 cases h with
 |cells=>simp only[World.shape?,ho]at hs;cases hs;rfl
 |map=>simp[World.shape?,ho]at hs
 |iter=>simp[World.shape?,ho]at hs
structure BRel (w:World) (G:Nat->Prop) (ρ:cY) (A:bZ) (B:Blk) (b:Nat):Prop where
 ex:∃C o,(w.heap[b]? =aA o/\ObjC o C)/\∀r row c v,B.rows[r]? =aA row->row[c]? =aA v→
  ∃cv,C[r*B.sz+c]? =aA cv/\V w G (if B.pure then bS else ρ) (if B.pure then cI else A) v cv
 len:∀(r:Nat) row,B.rows[r]? =aA row->row.length=B.sz
theorem BRel.old {w:World}{G:Nat->Prop}{ρ:cY}{A:bZ}{B:Blk}{b:Nat}{x:TypeId×Nat}(h:BRel w G ρ A B b)(hs:w.shape? b=aA x):
 (∃C ty,w.heap[b]? =aA (.cells C ty (0,0))/\∀r row c v,B.rows[r]? =aA row->row[c]? =aA v→
   ∃cv,C[r*B.sz+c]? =aA cv/\V w G (if B.pure then bS else ρ) (if B.pure then cI else A) v cv)/\∀(r:Nat) row,B.rows[r]? =aA row->row.length=B.sz:=by obtain⟨⟨C,o,⟨h1,h2⟩,h3⟩,h4⟩:=h;exact⟨⟨C,_,h2.shaped h1 hs▸h1,h3⟩,h4⟩
abbrev lU:=Nat->Option (Blk×bZ)
structure HRel (Γ:List (Nat×List AVal)) (w:World) (G:Nat->Prop) (ρ:cY) (H:lU):Prop where
 dom:∀id,H id=aC->ρ id=aC
 blk:∀id B A,H id=aA (B,A)->A id/\∃b,ρ id=aA (b,B.sz)/\¬G b/\BRel w G ρ A B b
 inj:∀i j b s t,ρ i=aA (b,s)->ρ j=aA (b,t)->i=j
 ro:∀b,G b->b<w.heap.size
 glob:∀g cells,look Γ g=aA cells->V w G bS cI (.rp cells) (.pointer (aA ⟨g,0,aC⟩))/\G g/\∃C ty x,w.heap[g]? =aA (.cells C ty x)/\C.size=cells.length
theorem HRel.owned_not_ro {Γ:List (Nat×List AVal)}{w:World}{G:Nat->Prop}{ρ:cY}{H:lU}(h:HRel Γ w G ρ H){b:Nat}(ho:mZ ρ b):¬G b:=by
 obtain⟨id,s,hr⟩:=ho
 cases hH:H id with
 |none=>rw[h.dom id hH]at hr;cases hr
 |some x=>obtain⟨B,A⟩:=x;obtain⟨_,b',hb',hg,_⟩:=h.blk id B A hH;rw[hr]at hb';cases hb';exact hg
theorem HRel.owned_lt {Γ:List (Nat×List AVal)}{w:World}{G:Nat->Prop}{ρ:cY}{H:lU}(h:HRel Γ w G ρ H){b:Nat}(ho:mZ ρ b):b<w.heap.size:=by
 obtain⟨id,s,hr⟩:=ho
 cases hH:H id with
 |none=>rw[h.dom id hH]at hr;cases hr
 |some x=>
  obtain⟨B,A⟩:=x;obtain⟨_,b',hb',_,hB⟩:=h.blk id B A hH;rw[hr]at hb';cases hb';obtain⟨C,o,⟨hc,_⟩,_⟩:=hB.ex;by_cases hb:b<w.heap.size;.exact hb
  rw[iD oO]at hc;cases hc
theorem V.step {Γ:List (Nat×List AVal)}{w w':World}{G G':Nat->Prop}{ρ ρ':cY}{H:lU}{A B A':bZ}{v:AVal}{cv:Value}(h:V w G ρ A v cv)(hr:HRel Γ w G ρ H)
 (hs:Step B w G ρ w' G' ρ') (hB:∀i,A i->B i) (hA:∀i,A i->A' i):V w' G' ρ' A' v cv:=
 h.mono hs.g (λ b hb=>hs.keep b (hr.ro b hb) (λ ho=>hr.owned_not_ro ho hb)) hs.shape hA (λ id hi=>hs.ids id (hB id hi))
theorem JB{Γ:List (Nat×List AVal)}{w w':World}{G G':Nat->Prop}{ρ ρ':cY}{H:lU}{B:bZ}(hr:HRel Γ w G ρ H)(hs:Step B w G ρ w' G' ρ'):
 ∀g cells,look Γ g=aA cells->V w' G' bS cI (.rp cells) (.pointer (aA ⟨g,0,aC⟩))/\G' g/\∃C ty x,w'.heap[g]? =aA (.cells C ty x)/\C.size=cells.length:=λ g cells hg=>by
 obtain⟨h1,h2,C,ty,x,h3,h4⟩:=hr.glob g cells hg
 exact⟨h1.mono hs.g (λ b hb=>hs.keep b (hr.ro b hb) (λ ho=>hr.owned_not_ro ho hb)) hs.shape (λ _ h=>h) (λ _ h=>h.elim),hs.g _ h2,C,ty,x,
  by rw[hs.keep g (hr.ro g h2) (λ ho=>hr.owned_not_ro ho h2)];exact h3,h4⟩
def bK(H:aO)(A:bZ):lU:=λ id=>(look H id).map λ B=>(B,A)
def lC(k:Nat):bZ:=λ i=>i<k
def kS(A0:bZ)(kb k:Nat):bZ:=λ i=>A0 i\/(kb<=i/\i<k)
structure Inv (Γ:dL) (nt:Nat) (w:World) (G:Nat->Prop) (ρ:cY) (A:bZ) (a:Act) (fr:Fr) (H:aO):Prop where
 rel:HRel Γ w G ρ (bK H A)
 size:a.tmps.size=nt
 defers:a.defers=[]
 frm:∀t v,look fr t=aA v->V w G ρ A v (a.tmps.getD t undef)
abbrev AQ:=Exit->Nat->Fr->aO->Prop
def Post(Γ:dL)(nt:Nat)(A0:bZ)(kb:Nat)(w:World)(G:Nat->Prop)(ρ:cY)(Q:AQ):Exit->Act->World->Prop:=λ e a' w'=>
 ∃G' ρ' k' fr' H',Q e k' fr' H'/\kb<=k'/\Inv Γ nt w' G' ρ' (kS A0 kb k') a' fr' H'/\Step (lC kb) w G ρ w' G' ρ'
def W(P:Program)(Γ:dL)(nt kb:Nat)(c:Code)(Q:AQ)(k:Nat)(fr:Fr)(H:aO):Prop:=
 ∀A0:bZ,(∀i,A0 i->i<kb)->kb<=k->∀w G ρ a,Inv Γ nt w G ρ (kS A0 kb k) a fr H->c.wp P (Post Γ nt A0 kb w G ρ Q) a w
section
variable{P:Program}{Γ:dL}{nt kb:Nat}{Q Q':AQ}{k:Nat}{fr:Fr}{H:aO}
theorem Post.trans {A0:bZ}{w w1:World}{G G1:Nat->Prop}{ρ ρ1:cY}{e:Exit}{a':Act}{w':World}(hs:Step (lC kb) w G ρ w1 G1 ρ1)(h:Post Γ nt A0 kb w1 G1 ρ1 Q e a' w'):
 Post Γ nt A0 kb w G ρ Q e a' w':=by obtain⟨G',ρ',k',fr',H',hq,hk,hi,hst⟩:=h;exact⟨G',ρ',k',fr',H',hq,hk,hi,hs.trans hst (λ _ h=>h)⟩
theorem lI{c:Code}(h:W P Γ nt kb c Q k fr H)(hq:∀e k fr H,Q e k fr H->Q' e k fr H):W P Γ nt kb c Q' k fr H:=λ A0 hA0 hk w G ρ a hi=>
 wp_mono (h A0 hA0 hk w G ρ a hi) λ _ _ _ ⟨G',ρ',k',fr',H',hQ,r⟩=>⟨G',ρ',k',fr',H',hq _ _ _ _ hQ,r⟩
theorem QP {A0:bZ}{w:World}{G:Nat->Prop}{ρ:cY}{a:Act}{e:Exit}(hk:kb<=k)(hi:Inv Γ nt w G ρ (kS A0 kb k) a fr H)(h:Q e k fr H):Post Γ nt A0 kb w G ρ Q e a w:=
 ⟨G,ρ,k,fr,H,h,hk,hi,kQ _ _ _ _⟩
theorem aHT(h:Q .normal k fr H):W P Γ nt kb .skip Q k fr H:=λ A0 _ hk _ _ _ _ hi=>wp_skip (QP hk hi h)
theorem aYF(h:Q .ret k fr H):W P Γ nt kb .ret Q k fr H:=λ A0 _ hk _ _ _ _ hi=>wp_ret (QP hk hi h)
theorem aHU{id:Nat}(h:Q (.exit id) k fr H):W P Γ nt kb (.exit id) Q k fr H:=λ A0 _ hk _ _ _ _ hi=>wp_exit (QP hk hi h)
def mX(next:Nat->Fr->aO->Prop)(Q:AQ):AQ
 | .normal,k,fr,H=>next k fr H
 |e,k,fr,H=>Q e k fr H
theorem aYE{x y:Code}(h:W P Γ nt kb x (mX (W P Γ nt kb y Q) Q) k fr H):W P Γ nt kb (.seq x y) Q k fr H:=λ A0 hA0 hk w G ρ a hi=>
 wp_seq (wp_mono (h A0 hA0 hk w G ρ a hi) λ e a' w' hp=>by
  obtain⟨G',ρ',k',fr',H',hQ,hk',hi',hst⟩:=hp
  cases e with
  |normal=>exact wp_mono (hQ A0 hA0 hk' w' G' ρ' a' hi') λ _ _ _ hp=>Post.trans hst hp
  |exit id=>exact⟨G',ρ',k',fr',H',hQ,hk',hi',hst⟩
  |goto l=>exact⟨G',ρ',k',fr',H',hQ,hk',hi',hst⟩
  |ret=>exact⟨G',ρ',k',fr',H',hQ,hk',hi',hst⟩
  |panic ch=>exact⟨G',ρ',k',fr',H',hQ,hk',hi',hst⟩
  |outgrown=>exact⟨G',ρ',k',fr',H',hQ,hk',hi',hst⟩)
def kV(Γ:dL)(fr:Fr):Operand->Option AVal
 | .tmp t=>look fr t
 | .const v=>aA (.lit v)
 | .global g=>(look Γ g).map .rp
 | .func f=>aA (.fn f [])
theorem V.weaken {w:World}{G:Nat->Prop}{ρ:cY}{A:bZ}{v:AVal}{cv:Value}(h:V w G bS cI v cv):V w G ρ A v cv:=
 h.mono (λ _ h=>h) (λ _ _=>rfl) (λ _ _=>rfl) (λ _ h=>h.elim) (λ _ h=>h.elim)
theorem XX{A:bZ}{w:World}{G:Nat->Prop}{ρ:cY}{a:Act}(hi:Inv Γ nt w G ρ A a fr H){x:Operand}{v:AVal}(h:kV Γ fr x=aA v):V w G ρ A v (a.eval x):=by
 cases x with
 |tmp t=>exact hi.frm t v h
 |const c=>cases h;exact .lit
 |global g=>simp only[kV,aG]at h;obtain⟨cells,hl,rfl⟩:=h;exact(hi.rel.glob g cells hl).1.weaken
 |func f=>cases h;exact .fn rfl (λ j v hj=>by simp at hj)
theorem gO{w:World}{G:Nat->Prop}{ρ:cY}{A:bZ}{u cv:Value}(h:V w G ρ A (.lit u) cv):cv=u:=by cases h;rfl
theorem QN{c:Operand}{x y:Code}(t:Bool)(hc:kV Γ fr c=aA (.lit (.bool t)))(ht:t=aB->W P Γ nt kb x Q k fr H)(hf:t=aE->W P Γ nt kb y Q k fr H):
 W P Γ nt kb (.cond c x y) Q k fr H:=λ A0 hA0 hk w G ρ a hi=>
 wp_cond_split (gO (XX hi hc)) (λ h=>ht h A0 hA0 hk w G ρ a hi) (λ h=>hf h A0 hA0 hk w G ρ a hi)
def FC(id:Nat)(Q:AQ):AQ
 | .exit id',k,fr,H=>if id'=id then Q .normal k fr H else Q (.exit id') k fr H
 |e,k,fr,H=>Q e k fr H
theorem XZ{id:Nat}{c:Code}(h:W P Γ nt kb c (FC id Q) k fr H):W P Γ nt kb (.block id c) Q k fr H:=λ A0 hA0 hk w G ρ a hi=>
 wp_block (wp_mono (h A0 hA0 hk w G ρ a hi) λ e a' w' hp=>by
  obtain⟨G',ρ',k',fr',H',hQ,hk',hi',hst⟩:=hp
  cases e with
  |exit id'=>
   simp only[Exit.inBlock];by_cases he:id'=id;.simp only[FC,he,if_true]at hQ;rw[iP he];exact⟨G',ρ',k',fr',H',hQ,hk',hi',hst⟩
   simp only[FC,he,if_false]at hQ;rw[iN he];exact⟨G',ρ',k',fr',H',hQ,hk',hi',hst⟩
  |normal=>exact⟨G',ρ',k',fr',H',hQ,hk',hi',hst⟩
  |goto l=>exact⟨G',ρ',k',fr',H',hQ,hk',hi',hst⟩
  |ret=>exact⟨G',ρ',k',fr',H',hQ,hk',hi',hst⟩
  |panic ch=>exact⟨G',ρ',k',fr',H',hQ,hk',hi',hst⟩
  |outgrown=>exact⟨G',ρ',k',fr',H',hQ,hk',hi',hst⟩)
theorem aYG{c:Code}(I:Nat->Nat->Fr->aO->Prop)(m:Nat)(h0:I m k fr H)
 (round:∀m k fr H,I m k fr H->W P Γ nt kb c (mX (λ k' fr' H'=>∃m',m'<m/\I m' k' fr' H') Q) k fr H):W P Γ nt kb (.loop c) Q k fr H:=λ A0 hA0 hk w G ρ a hi=>by
 refine wp_loop_ghost (λ m a1 w1=>∃G1 ρ1 k1 fr1 H1,I m k1 fr1 H1/\kb<=k1/\Inv Γ nt w1 G1 ρ1 (kS A0 kb k1) a1 fr1 H1/\Step (lC kb) w G ρ w1 G1 ρ1) m ⟨G,ρ,k,fr,H,h0,hk,hi,kQ _ _ _ _⟩ ?_
 rintro m a1 w1 ⟨G1,ρ1,k1,fr1,H1,hI,hk1,hi1,hst1⟩
 refine wp_mono (round m k1 fr1 H1 hI A0 hA0 hk1 w1 G1 ρ1 a1 hi1) λ e a' w' hp=>?_
 obtain⟨G',ρ',k',fr',H',hQ,hk',hi',hst⟩:=hp
 have hs:=hst1.trans hst (λ _ h=>h)
 cases e with
 |normal=>obtain⟨m',hlt,hI'⟩:=hQ;exact⟨m',hlt,G',ρ',k',fr',H',hI',hk',hi',hs⟩
 |exit id=>exact⟨G',ρ',k',fr',H',hQ,hk',hi',hs⟩
 |goto l=>exact⟨G',ρ',k',fr',H',hQ,hk',hi',hs⟩
 |ret=>exact⟨G',ρ',k',fr',H',hQ,hk',hi',hs⟩
 |panic ch=>exact⟨G',ρ',k',fr',H',hQ,hk',hi',hs⟩
 |outgrown=>exact⟨G',ρ',k',fr',H',hQ,hk',hi',hs⟩
def iM(p:Nat->Bool):AVal->Bool
 | .ptr id _ _=>p id
 | .sl id _ _=>p id
 | .slc id _ _ _=>p id
 | .bfn _ id _ _=>p id
 | .mp id=>p id
 | .it id=>p id
 | .agg _=>aE
 | .tup _=>aE
 | .fn _ caps=>caps.isEmpty
 |_=>aB
def LJ(p:Nat->Bool):AVal->Bool
 | .agg cs=>cs.all (iM p)
 | .fn _ cs=>cs.all (iM p)
 |v=>iM p v
def bd(p:Nat->Bool):AVal->Bool
 | .tup cs=>cs.all (LJ p)
 |v=>LJ p v
theorem aDE{w:World}{G:Nat->Prop}{ρ:cY}{A:bZ}{p:Nat->Bool}{v:AVal}{cv:Value}(h:V w G ρ A v cv)(hb:iM p v=aB):V w G ρ (λ i=>A i/\p i=aB) v cv:=by
 cases h with
 |nn=>exact .nn
 |dangc ha hr=>exact .dangc ⟨ha,hb⟩ hr
 |slc ha hr h1 h2 h3 h4 h5=>exact .slc ⟨ha,hb⟩ hr h1 h2 h3 h4 h5
 |bfn h=>cases h with
  |dang ha hr=>exact .bfn (.dang ⟨ha,hb⟩ hr)
  |ptr ha hr hs=>exact .bfn (.ptr ⟨ha,hb⟩ hr hs)
 |dangm ha hr=>exact .dangm ⟨ha,hb⟩ hr
 |mp ha hr hs=>exact .mp ⟨ha,hb⟩ hr hs
 |dangi ha hr=>exact .dangi ⟨ha,hb⟩ hr
 |it ha hr hs=>exact .it ⟨ha,hb⟩ hr hs
 |junk=>exact .junk
 |lit=>exact .lit
 |dang ha hr=>exact .dang ⟨ha,hb⟩ hr
 |dangs ha hr=>exact .dangs ⟨ha,hb⟩ hr
 |ptr ha hr hs=>exact .ptr ⟨ha,hb⟩ hr hs
 |sl ha hr h1 h2 h3 h4 h5=>exact .sl ⟨ha,hb⟩ hr h1 h2 h3 h4 h5
 |sl0 ha hr=>exact .sl0 ⟨ha,hb⟩ hr
 |rp g h1 h2 h3=>exact .rp g h1 h2 h3
 |rd0=>exact .rd0
 |rd g h1 hcap hn h2 h3 h4=>exact .rd g h1 hcap hn h2 h3 h4
 |agg h1 h2=>simp[iM]at hb
 |tup h1 h2=>simp[iM]at hb
 | fn h1 h2=>rename_i f caps cs;cases caps with
   |nil=>exact .fn h1 (λ j v hj=>by simp at hj)
   |cons=>simp[iM]at hb
theorem iT{α:Type}{l:List α}{p:α->Bool}(h:l.all p=aB){j:Nat}{v:α}(hj:l[j]? =aA v):p v=aB:=
 aW.1 h v (iG hj)
theorem a6I{w:World}{G:Nat->Prop}{ρ:cY}{A:bZ}{p:Nat->Bool}{v:AVal}{cv:Value}(h:V w G ρ A v cv)(hb:LJ p v=aB):V w G ρ (λ i=>A i/\p i=aB) v cv:=by
 cases v with
 |agg cells=>cases h with|agg h1 h2=>exact .agg h1 λ j v hj=>aDE (h2 j v hj) (iT hb hj)
 |fn f cells=>cases h with|fn h1 h2=>exact .fn h1 λ j v hj=>aDE (h2 j v hj) (iT hb hj)
 |_=>exact aDE h hb
theorem aDF{w:World}{G:Nat->Prop}{ρ:cY}{A:bZ}{p:Nat->Bool}{v:AVal}{cv:Value}(h:V w G ρ A v cv)(hb:bd p v=aB):V w G ρ (λ i=>A i/\p i=aB) v cv:=by
 cases v with
 |tup cells=>cases h with|tup h1 h2=>exact .tup h1 λ j v hj=>a6I (h2 j v hj) (iT hb hj)
 |_=>exact a6I h hb
def leF(fr:Fr):Fr->Prop
 |[]=>True
 |(t,v)::r=>look fr t=aA v/\leF fr r
def QS(H:aO):aO->Prop
 |[]=>True
 |(t,v)::r=>look H t=aA v/\QS H r
def bdF(p:Nat->Bool)(fr:Fr):Bool:=fr.all λ x=>bd p x.2
def oM(p:Nat->Bool)(H:aO):Bool:=H.all λ x=>p x.1&&(x.2.pure||x.2.rows.all λ row=>row.all (iM p))
def jS(k:Nat):Nat->Bool:=λ i=>decide (i<k)
theorem aAT{fr:Fr}:∀ {fr1:Fr},leF fr fr1->∀t v,look fr1 t=aA v->look fr t=aA v
 |[],_,t,v,h=>by simp[look]at h
 |(t',v')::r,⟨h1,h2⟩,t,v,h=>by
  simp only[look]at h;split at h;.rename_i he;subst he;cases h;exact h1
  exact aAT h2 t v h
theorem OM{H:aO}:∀ {H1:aO},QS H H1->∀t v,look H1 t=aA v->look H t=aA v
 |[],_,t,v,h=>by simp[look]at h
 |(t',v')::r,⟨h1,h2⟩,t,v,h=>by
  simp only[look]at h;split at h;.rename_i he;subst he;cases h;exact h1
  exact OM h2 t v h
theorem BT{α:Type}{p:Nat×α->Bool}:∀ {l:List (Nat×α)},l.all p=aB->∀ {t v},look l t=aA v->p (t,v)=aB
 |[],_,t,v,h=>by simp[look]at h
 |(t',v')::r,ha,t,v,h=>by
  simp only[fU,aH]at ha;simp only[look]at h;split at h;.rename_i he;subst he;cases h;exact ha.1
  exact BT ha.2 h
end
def Vs(w:World)(G:Nat->Prop)(ρ:cY)(A:bZ)(vs:List AVal)(cs:Array Value):Prop:=
 vs.length=cs.size/\∀j v,vs[j]? =aA v->V w G ρ A v (cs.getD j undef)
def Tr(P:Program)(Γ:dL)(f:FuncId)(k:Nat)(args:List AVal)(H:aO)(Q:Nat->AVal->aO->Prop):Prop:=
 ∀ A:bZ,(∀i,A i->i<k)->∀w G ρ cargs,HRel Γ w G ρ (bK H A)->Vs w G ρ A args cargs→
   Calls P f cargs w λ e w'=>∃cv G' ρ' k' r H',e= .returned cv/\Q k' r H'/\k<=k'/\HRel Γ w' G' ρ' (bK H' (kS A k k'))/\V w' G' ρ' (kS A k k') r cv/\Step (lC k) w G ρ w' G' ρ'
theorem Tr.mono {P:Program}{Γ:dL}{f:FuncId}{k:Nat}{args:List AVal}{H:aO}{Q Q':Nat->AVal->aO->Prop}(h:Tr P Γ f k args H Q)(hq:∀k r H,Q k r H->Q' k r H):
 Tr P Γ f k args H Q':=λ A hA w G ρ cargs h1 h2=>
 (h A hA w G ρ cargs h1 h2).mono λ _ _ ⟨cv,G',ρ',k',r,H',he,hQ,rest⟩=>⟨cv,G',ρ',k',r,H',he,hq _ _ _ hQ,rest⟩
def vS:Nat->List AVal->Fr
 |_,[]=>[]
 |i,v::r=>(i,v)::vS (i+1) r
theorem QF:∀(l:List AVal) (i t:Nat) (v:AVal),look (vS i l) t=aA v->i<=t/\l[t-i]? =aA v
 |[],i,t,v,h=>by simp[vS,look]at h
 |x::r,i,t,v,h=>by
  simp only[vS,look]at h;split at h;.rename_i he;subst he;cases h;exact⟨aF _,by simp⟩
  rename_i hne;obtain⟨h1,h2⟩:=QF r (i+1) t v h;refine⟨oO,?_⟩;have e:t-i=(t-(i+1))+1:=oO;rw[e,fM];exact h2
def jD(H:lU)(A:bZ):List (Nat×Option Blk)->lU
 |[]=>H
 |(id,x)::r=>λ i=>if i=id then x.map λ B=>(B,A)else jD H A r i
def fF(ρ:cY)(n:Nat)(x:Option (Nat×Nat)):cY:=λ i=>if i=n then x else ρ i
section
variable{Γ:dL}{w w':World}{G G':Nat->Prop}{ρ ρ':cY}{H:lU}
theorem BRel.step {A A' S:bZ}{B:Blk}{b:Nat}(hB:BRel w G ρ A B b)(h:HRel Γ w G ρ H)(hs:Step S w G ρ w' G' ρ')(hS:∀i,A i->S i)(hA:∀i,A i->A' i)(hb:w'.heap[b]? =w.heap[b]?):
 BRel w' G' ρ' A' B b:=by
 obtain⟨⟨C,o,hC,hr⟩,hl⟩:=hB;refine⟨⟨C,o,⟨hb.trans hC.1,hC.2⟩,λ r row c v h1 h2=>?_⟩,hl⟩;obtain⟨cv,h3,h4⟩:=hr r row c v h1 h2;refine⟨cv,h3,?_⟩;by_cases hp:B.pure=aB
 .simp only[hp,if_true]at h4⊢
  exact h4.mono hs.g (λ b hb=>hs.keep b (h.ro b hb) (λ ho=>h.owned_not_ro ho hb)) hs.shape (λ _ h=>h) (λ _ h=>h.elim)
 simp only[hp]at h4⊢
 exact h4.step h hs hS hA
theorem HRel.after {S:bZ}(h:HRel Γ w G ρ H)(hs:Step S w G ρ w' G' ρ')(H':lU)(hdom:∀id,H' id=aC->ρ' id=aC)
 (hblk:∀id B A,H' id=aA (B,A)->A id∧
   ((∃A0 b,H id=aA (B,A0)/\(∀i,A0 i->A i)/\(∀i,A0 i->S i)/\ρ' id=ρ id/\ρ id=aA (b,B.sz)/\w'.heap[b]? =w.heap[b]? /\¬G' b)∨
    (∃b,ρ' id=aA (b,B.sz)/\¬G' b/\BRel w' G' ρ' A B b)))
 (hinj:∀i j b s t,ρ' i=aA (b,s)->ρ' j=aA (b,t)->i=j) (hro:∀b,G' b->b<w'.heap.size):HRel Γ w' G' ρ' H' where
 dom:=hdom
 blk:=λ id B A hH=>by
  obtain⟨hA,hc⟩:=hblk id B A hH;refine⟨hA,?_⟩;rcases hc with⟨A0,b,h0,hA0,hS,hρ,hb,hk,hg⟩|hc;.obtain⟨_,b',hb',_,hBR⟩:=h.blk id B A0 h0;rw[hb]at hb';cases hb';exact⟨b,hρ.trans hb,hg,hBR.step h hs hS hA0 hk⟩
  exact hc
 inj:=hinj
 ro:=hro
 glob:=JB h hs
theorem wZ(w:World)(o:Obj){b:Nat}(hb:b<w.heap.size):(w.alloc o).heap[b]? =w.heap[b]? :=by show(w.heap.push o)[b]? =_;rw[Array.getElem?_push,iN (Nat.ne_of_lt hb)]
theorem iU(w:World)(o:Obj):(w.alloc o).heap[w.heap.size]? =aA o:=by show(w.heap.push o)[w.heap.size]? =_;rw[Array.getElem?_push,iP rfl]
theorem lY(n sz:Nat)(o:Obj)(w1:World)(hw1:w1.heap=w.heap)(h1:w1.os=w.os)(h2:w1.tape=w.tape)(h3:w1.output=w.output):
 Step (λ i=>i≠n) w G ρ (w1.alloc o) G (fF ρ n (aA (w.heap.size,sz))) where
 size:=by show _<=(w1.heap.push o).size;rw[Array.size_push,hw1];omega
 keep:=λ b hb _=>by rw[wZ w1 o (by rw[hw1];exact hb),hw1]
 shape:=λ b hb=>shp_of (by rw[wZ w1 o (by rw[hw1];exact hb),hw1])
 g:=λ _ h=>h
 g':=λ _ h=> .inl h
 own:=by
  rintro b ⟨id,s,hb⟩;simp only[fF]at hb;split at hb;.cases hb;exact .inr (aF _)
  exact .inl ⟨id,s,hb⟩
 ids:=λ id hi=> .inr (by simp[fF,hi])
 os:=h1
 tape:=h2
 output:=h3
theorem HRel.allocO (h:HRel Γ w G ρ H)(n:Nat)(hn:ρ n=aC)(hf:∀id B A,H id=aA (B,A)->¬A n)(B:Blk)(C:Array Value)(o:Obj)(ho:ObjC o C)(A A':bZ)(hAn:¬A n)(hA:∀i,A i->A' i)(hA':A' n)
 (hl:∀(r:Nat) row,B.rows[r]? =aA row->row.length=B.sz)
 (hr:∀r row c v,B.rows[r]? =aA row->row[c]? =aA v->∃cv,C[r*B.sz+c]? =aA cv/\V w G (if B.pure then bS else ρ) (if B.pure then cI else A) v cv)
 (w1:World) (hw1:w1.heap=w.heap) (h1:w1.os=w.os) (h2:w1.tape=w.tape) (h3:w1.output=w.output):
 HRel Γ (w1.alloc o) G (fF ρ n (aA (w.heap.size,B.sz))) (jD H A' [(n,aA B)]):=by
 have hs:=lY (G:=G) (ρ:=ρ) n B.sz o w1 hw1 h1 h2 h3;refine h.after hs _ ?_ ?_ ?_ ?_
 .intro id hid;simp only[jD]at hid;split at hid;.cases hid
  rename_i hne;simp only[fF,hne,if_false];exact h.dom id hid
 .intro id B' A0 hid;simp only[jD]at hid;split at hid
  .rename_i he;subst he;cases hid;refine⟨hA',.inr ⟨w.heap.size,by simp[fF],λ hg=>absurd (h.ro _ hg) (qR _),⟨⟨C,o,⟨by rw[<-hw1];exact iU w1 _,ho⟩,λ r row c v hrow hc=>?_⟩,hl⟩⟩⟩;obtain⟨cv,hcv,hv⟩:=hr r row c v hrow hc;refine⟨cv,hcv,?_⟩;by_cases hp:B.pure=aB
   .simp only[hp,if_true]at hv⊢
    exact hv.mono hs.g (λ b hb=>hs.keep b (h.ro b hb) (λ ho=>h.owned_not_ro ho hb)) hs.shape (λ _ h=>h) (λ _ h=>h.elim)
   simp only[hp]at hv⊢
   exact hv.step h hs (λ i hi=>λ he=>hAn (he▸hi)) hA
  rename_i hne;obtain⟨hAid,b,hb,hg,hBR⟩:=h.blk id B' A0 hid;refine⟨hAid,.inl ⟨A0,b,hid,λ _ h=>h,λ i hi he=>hf id B' A0 hid (he▸hi),by simp[fF,hne],hb,?_,hg⟩⟩;have hlt:=h.owned_lt ⟨id,_,hb⟩;rw[wZ w1 _ (by rw[hw1];exact hlt),hw1]
 .intro i j b s t hi hj;simp only[fF]at hi hj;split at hi<;>split at hj;.rename_i e1 e2;rw[e1,e2]
  .cases hi;exact absurd (h.owned_lt ⟨j,t,hj⟩) (qR _)
  .cases hj;exact absurd (h.owned_lt ⟨i,s,hi⟩) (qR _)
  exact h.inj i j b s t hi hj
 intro b hb;have:=h.ro b hb;show b<(w1.heap.push _).size;rw[Array.size_push,hw1];omega
theorem HRel.alloc (h:HRel Γ w G ρ H)(n:Nat)(hn:ρ n=aC)(hf:∀id B A,H id=aA (B,A)->¬A n)(B:Blk)(C:Array Value)(ty:TypeId)(A A':bZ)(hAn:¬A n)(hA:∀i,A i->A' i)(hA':A' n)
 (hl:∀(r:Nat) row,B.rows[r]? =aA row->row.length=B.sz)
 (hr:∀r row c v,B.rows[r]? =aA row->row[c]? =aA v->∃cv,C[r*B.sz+c]? =aA cv/\V w G (if B.pure then bS else ρ) (if B.pure then cI else A) v cv)
 (w1:World) (hw1:w1.heap=w.heap) (h1:w1.os=w.os) (h2:w1.tape=w.tape) (h3:w1.output=w.output):
 HRel Γ (w1.alloc (.cells C ty)) G (fF ρ n (aA (w.heap.size,B.sz))) (jD H A' [(n,aA B)]):=
 h.allocO n hn hf B C (.cells C ty) .cells A A' hAn hA hA' hl hr w1 hw1 h1 h2 h3
theorem a7G{b:Nat}{C:Array Value}{ty:TypeId}(hC:w'.heap[b]? =aA (.cells C ty (0,0)))(h:w'.shape? b=w.shape? b):shp w' b=shp w b:=by
 have e:shp w' b=aA (aA (ty,C.size)):=by unfold shp;rw[hC];rfl
 rw[CS,CS,e]at h;rw[e]
 cases hw:shp w b with
 |none=>rw[hw]at h;cases h
 | some x=>rw[hw]at h;cases x with
   |none=>cases h
   |some y=>cases h;rfl
theorem HRel.rewriteO (h:HRel Γ w G ρ H){id b:Nat}{B:Blk}(hb:ρ id=aA (b,B.sz))(n:Nat)(hn:n=id\/(ρ n=aC/\∀i B A,H i=aA (B,A)->¬A n))
 (B':Blk) (hsz:B'.sz=B.sz) (C':Array Value) (o:Obj) (ho:ObjC o C') (A A':bZ) (hAn:n=id\/¬A n) (hA:∀i,A i->A' i) (hA':A' n)
 (w':World) (hC:w'.heap[b]? =aA o) (hother:∀j,j≠b->w'.heap[j]? =w.heap[j]?) (hsize:w'.heap.size=w.heap.size) (hshape:shp w' b=shp w b)
 (h1:w'.os=w.os) (h2:w'.tape=w.tape) (h3:w'.output=w.output)
 (hl:∀(r:Nat) row,B'.rows[r]? =aA row->row.length=B'.sz)
 (hr:∀r row c v,B'.rows[r]? =aA row->row[c]? =aA v->∃cv,C'[r*B'.sz+c]? =aA cv/\V w G (if B'.pure then bS else ρ) (if B'.pure then cI else A) v cv):
 HRel Γ w' G (fF (fF ρ id aC) n (aA (b,B.sz))) (jD H A' [(n,aA B'),(id,aC)])/\Step (λ i=>i≠n\/n=id) w G ρ w' G (fF (fF ρ id aC) n (aA (b,B.sz))):=by
 have hbo:mZ ρ b:=⟨id,_,hb⟩;have hbg:=h.owned_not_ro hbo
 have hs:Step (λ i=>i≠n\/n=id) w G ρ w' G (fF (fF ρ id aC) n (aA (b,B.sz))):=by
  refine⟨oO,λ j hj ho=>hother j (λ he=>ho (he▸hbo)),λ j hj=>?_,λ _ h=>h,λ _ h=> .inl h,?_,?_,h1,h2,h3⟩
  .by_cases he:j=b;.rw[he];exact hshape
   exact shp_of (hother j he)
  .rintro j ⟨i,s,hj⟩;simp only[fF]at hj;split at hj;.cases hj;exact .inl hbo
   split at hj;.cases hj
   exact .inl ⟨i,s,hj⟩
  intro i hi;simp only[fF];split
  .rename_i he;rcases hi with hi|hi
   .exact absurd he hi
   right;rw[he,hi,hb]
  split;.exact .inl rfl
  exact .inr rfl
 refine⟨h.after hs _ ?_ ?_ ?_ ?_,hs⟩
 .intro i hi;simp only[jD]at hi;simp only[fF];split at hi;.cases hi
  rename_i h4;rw[iN h4];split at hi;.rename_i h5;rw[iP h5]
  rename_i h5;rw[iN h5];exact h.dom i hi
 .intro i B1 A1 hi;simp only[jD]at hi;split at hi
  .rename_i he;subst he;cases hi;refine⟨hA',.inr ⟨b,by simp[fF,hsz],hbg,⟨⟨C',o,⟨hC,ho⟩,λ r row c v hrow hc=>?_⟩,hl⟩⟩⟩;obtain⟨cv,hcv,hv⟩:=hr r row c v hrow hc;refine⟨cv,hcv,?_⟩;by_cases hp:B'.pure=aB
   .simp only[hp,if_true]at hv⊢
    exact hv.mono hs.g (λ b hb=>hs.keep b (h.ro b hb) (λ ho=>h.owned_not_ro ho hb)) hs.shape (λ _ h=>h) (λ _ h=>h.elim)
   simp only[hp]at hv⊢
   refine hv.step h hs (λ j hj=>?_) hA;rcases hAn with e|e;.exact .inr e
   exact .inl (λ he=>e (he▸hj))
  rename_i hne;split at hi;.cases hi
  rename_i hne2;obtain⟨hAid,b1,hb1,hg1,hBR⟩:=h.blk i B1 A1 hi;refine⟨hAid,.inl ⟨A1,b1,hi,λ _ h=>h,λ j hj=>?_,by simp[fF,hne,hne2],hb1,hother b1 ?_,hg1⟩⟩
  .rcases hn with e|⟨_,e⟩;.exact .inr e
   exact .inl (λ he=>e i B1 A1 hi (he▸hj))
  rintro rfl;exact hne2 (h.inj i id _ _ _ hb1 hb)
 .intro i j c s t hi hj;simp only[fF]at hi hj;split at hi<;>split at hj;.rename_i e1 e2;rw[e1,e2]
  .rename_i e1 e2;cases hi;split at hj;.cases hj
   rename_i e3;exact absurd (h.inj j id _ _ _ hj hb) e3
  .rename_i e1 e2;cases hj;split at hi;.cases hi
   rename_i e3;exact absurd (h.inj i id _ _ _ hi hb) e3
  split at hi;.cases hi
  split at hj;.cases hj
  exact h.inj i j c s t hi hj
 intro c hc;rw[hsize];exact h.ro c hc
theorem sX (h:HRel Γ w G ρ H){id b:Nat}{B:Blk}(hb:ρ id=aA (b,B.sz))(n:Nat)(hn:n=id\/(ρ n=aC/\∀i B A,H i=aA (B,A)->¬A n))
 (B':Blk) (hsz:B'.sz=B.sz) (C':Array Value) (ty:TypeId) (A A':bZ) (hAn:n=id\/¬A n) (hA:∀i,A i->A' i) (hA':A' n)
 (w':World) (hC:w'.heap[b]? =aA (.cells C' ty (0,0))) (hother:∀j,j≠b->w'.heap[j]? =w.heap[j]?) (hsize:w'.heap.size=w.heap.size) (hshape:w'.shape? b=w.shape? b)
 (h1:w'.os=w.os) (h2:w'.tape=w.tape) (h3:w'.output=w.output)
 (hl:∀(r:Nat) row,B'.rows[r]? =aA row->row.length=B'.sz)
 (hr:∀r row c v,B'.rows[r]? =aA row->row[c]? =aA v->∃cv,C'[r*B'.sz+c]? =aA cv/\V w G (if B'.pure then bS else ρ) (if B'.pure then cI else A) v cv):
 HRel Γ w' G (fF (fF ρ id aC) n (aA (b,B.sz))) (jD H A' [(n,aA B'),(id,aC)])/\Step (λ i=>i≠n\/n=id) w G ρ w' G (fF (fF ρ id aC) n (aA (b,B.sz))):=
 h.rewriteO hb n hn B' hsz C' (.cells C' ty (0,0)) .cells A A' hAn hA hA' w' hC hother hsize (a7G hC hshape) h1 h2 h3 hl hr
theorem SL(S:bZ)(hw:w'.heap=w.heap)(h1:w'.os=w.os)(h2:w'.tape=w.tape)(h3:w'.output=w.output):Step S w G ρ w' G ρ:=
 ⟨by rw[hw];exact aF _,λ _ _ _=>by rw[hw],λ _ _=>shp_of (by rw[hw]),λ _ h=>h,λ _ h=> .inl h,λ _ h=> .inl h,λ _ _=> .inr rfl,h1,h2,h3⟩
theorem HRel.same (h:HRel Γ w G ρ H)(hw:w'.heap=w.heap)(h1:w'.os=w.os)(h2:w'.tape=w.tape)(h3:w'.output=w.output):HRel Γ w' G ρ H:=
 h.after (SL (λ _=>True) hw h1 h2 h3) H h.dom (λ id B A hH=>by obtain⟨hA,b,hb,hg,_⟩:=h.blk id B A hH;exact⟨hA,.inl ⟨A,b,hH,λ _ h=>h,λ _ _=>trivial,rfl,hb,by rw[hw],hg⟩⟩) h.inj (λ b hb=>by rw[hw];exact h.ro b hb)
theorem HRel.allow (h:HRel Γ w G ρ H)(H':lU)(hd:∀id,H' id=aC->H id=aC)(hh:∀id B A',H' id=aA (B,A')->∃A,H id=aA (B,A)/\∀i,A i->A' i):HRel Γ w G ρ H':=
 h.after (kQ (λ _=>True) _ _ _) H' (λ id hid=>h.dom id (hd id hid)) (λ id B A' hH=>by obtain⟨A,h1,h2⟩:=hh id B A' hH;obtain⟨hA,b,hb,hg,_⟩:=h.blk id B A h1;exact⟨h2 id hA,.inl ⟨A,b,h1,h2,λ _ _=>trivial,rfl,hb,rfl,hg⟩⟩) h.inj h.ro
end
structure Out where
 v:AVal
 k:Nat
 upd:List (Nat×Option Blk)
 rds:List Nat
def OpOk(P:Program)(Γ:dL)(o:Oper)(ev:Operand->Option AVal)(get:Nat->Option Blk)(k:Nat)(out:Out):Prop:=
 ∀ w G ρ H (A:bZ) (a:Act),HRel Γ w G ρ H->(∀i,A i->i<k)->(∀i,k<=i->i<out.k->ρ i=aC/\∀id B A',H id=aA (B,A')->¬A' i)→
   (∀id,id∈out.rds->∃B A',get id=aA B/\H id=aA (B,A')/\∀i,A' i->A i)→
   (∀x,x∈o.op.operands->∀v,ev x=aA v->V w G ρ A v (a.eval x))→
   ∀ (next:Act->World->Prop) (Q:Exit->Act->World->Prop),
     (∀w' G' ρ' cv,HRel Γ w' G' ρ' (jD H (λ i=>A i\/(k<=i/\i<out.k)) out.upd)->V w' G' ρ' (λ i=>A i\/(k<=i/\i<out.k)) out.v cv→
       Step (λ i=>¬(k<=i/\i<out.k)) w G ρ w' G' ρ'->next (a.put o.dst cv) w')->o.wp P a w next Q
section
variable{P:Program}{Γ:dL}{o:Oper}{ev:Operand->Option AVal}{get:Nat->Option Blk}{k:Nat}
theorem cF{v:AVal}{rds:List Nat}
 (h:∀w G ρ H (A:bZ) (a:Act),HRel Γ w G ρ H->(∀id,id∈rds->∃B A',get id=aA B/\H id=aA (B,A')/\∀i,A' i->A i)→
   (∀x,x∈o.op.operands->∀v,ev x=aA v->V w G ρ A v (a.eval x))->∃cv,(execOp a.eval o).run P w= .ok (.value cv) w/\V w G ρ A v cv):
 OpOk P Γ o ev get k ⟨v,k,[],rds⟩:=by
 intro w G ρ H A a hr hA hf hrd hop next Q hn
 obtain⟨cv,hrun,hv⟩:=h w G ρ H A a hr hrd hop;unfold Oper.wp;rw[hrun];refine hn w G ρ cv ?_ (hv.mono (λ _ h=>h) (λ _ _=>rfl) (λ _ _=>rfl) (λ _ h=> .inl h) (λ _ _=> .inr rfl)) (kQ _ _ _ _);exact hr
def aTX:AVal->Option Value
 | .lit v=>aA v
 | .fn f []=>aA (.func (.func f) #[] #[])
 |_=>aC
def nE:List AVal->Option (List Value)
 |[]=>aA []
 | x::r=>match aTX x,nE r with
   |some v,aA vs=>aA (v::vs)
   |_,_=>aC
def SK:AVal->Option Value
 | .agg cs=>(nE cs).map λ l=> .agg l.toArray
 |v=>aTX v
theorem aJX{w:World}{G:Nat->Prop}{ρ:cY}{A:bZ}{v:AVal}{cv u:Value}(h:V w G ρ A v cv)(hl:aTX v=aA u):cv=u:=by
 cases h with
 |lit=>cases hl;rfl
 |fn h1 h2=>
  rename_i f caps cs
  cases caps with
  |nil=>cases hl;have:cs= #[]:=jN (by simpa using h1.symm);rw[this]
  |cons=>cases hl
 |_=>cases hl
theorem aAP:∀ {cs:List AVal} {vs:List Value},nE cs=aA vs->vs.length=cs.length/\∀ {w:World} {G:Nat->Prop} {ρ:cY} {A:bZ} {j:Nat} {v:AVal} {cv:Value},cs[j]? =aA v->V w G ρ A v cv->vs[j]? =aA cv
 |[],vs,h=>by cases h;exact⟨rfl,λ hj=>by simp at hj⟩
 |x::r,vs,h=>by
  simp only[nE]at h;split at h
  .rename_i v vs' h1 h2;cases h;obtain⟨hl,ih⟩:=aAP h2;refine⟨by simp[hl],λ {w G ρ A j u cv} hj hv=>?_⟩
   cases j with
   |zero=>simp only[lF,aA.injEq]at hj⊢;subst hj;exact(aJX hv h1).symm
   |succ j=>simp only[fM]at hj⊢;exact ih hj hv
  cases h
theorem LO{w:World}{G:Nat->Prop}{ρ:cY}{A:bZ}{v:AVal}{cv u:Value}(h:V w G ρ A v cv)(hl:SK v=aA u):cv=u:=by
 cases v with
 |agg cells=>
  simp only[SK,aG]at hl;obtain⟨vs,h1,rfl⟩:=hl
  cases h with
  |agg h2 h3=>
   rename_i cs;obtain⟨h4,h5⟩:=aAP h1;congr 1;apply aIG;.simp[h4,h2]
   intro i hi1 hi2;have hc:i<cells.length:=oO;have h6:=h5 (aJ hc) (h3 i _ (aJ hc));rw[aI,aQ hi1]at h6;rw[List.getElem_toArray];have h7:=(aK.1 h6).2;exact h7.symm
 |_=>exact aJX h hl
def LT{α:Type}(P:Program):Sem α->Option α
 | .pure a=>aA a
 | .program k=>LT P (k P)
 | .mark _ k=>LT P k
 |_=>aC
theorem ZR{α:Type}(P:Program)(w:World):∀(s:Sem α) (v:α),LT P s=aA v->s.run P w= .ok v w:=by
 intro s
 induction s with
 |pure a=>intro v h;cases h;rfl
 |program kk ih=>intro v h;exact ih P v h
 |mark m kk ih=>intro v h;exact ih v h
 |_=>intro v h;cases h
theorem aJM{x:Operand}{v:AVal}(ho:o.op= .move x\/o.op= .assign x)(hx:ev x=aA v):OpOk P Γ o ev get k ⟨v,k,[],[]⟩:=by
 refine cF λ w G ρ H A a hr _ hop=>⟨a.eval x,?_,hop x ?_ v hx⟩;.rcases ho with ho|ho<;>simp[execOp,ho]
 rcases ho with ho|ho<;>simp[ho,Op.operands]
theorem a0O{c x y:Operand}{t:Bool}{v:AVal}(ho:o.op= .pick c x y)(hc:ev c=aA (.lit (.bool t)))(hx:(if t then ev x else ev y)=aA v):OpOk P Γ o ev get k ⟨v,k,[],[]⟩:=by
 refine cF λ w G ρ H A a hr _ hop=>?_;have h1:a.eval c= .bool t:=gO (hop c (by simp[ho,Op.operands]) _ hc)
 cases t with
 |true=>simp only[if_true]at hx;exact⟨a.eval x,by simp[execOp,ho,h1,asBool],hop x (by simp[ho,Op.operands]) v hx⟩
 |false=>exact⟨a.eval y,by simp[execOp,ho,h1,asBool],hop y (by simp[ho,Op.operands]) v (by simpa using hx)⟩
theorem JZ{x:Operand}{v:AVal}(ho:o.op= .nilCheck x)(hx:ev x=aA v)(hv:(∃c,v= .rp c)\/(∃i r c,v= .ptr i r c/\(get i).isSome)):
 OpOk P Γ o ev get k ⟨v,k,[],match v with| .ptr i _ _=>[i]|_=>[]⟩:=by
 refine cF λ w G ρ H A a hr hrd hop=>⟨a.eval x,?_,hop x (by simp[ho,Op.operands]) v hx⟩;have h1:=hop x (by simp[ho,Op.operands]) v hx;rcases hv with⟨c,rfl⟩|⟨i,r,c,rfl,_⟩
 .generalize hev:a.eval x=cv at h1⊢
  cases h1 with
  |rp=>simp[execOp,ho,hev]
 generalize hev:a.eval x=cv at h1⊢
 obtain⟨B,A',_,hH,_⟩:=hrd i (by simp);obtain⟨_,b,hb,_⟩:=hr.blk i B A' hH
 cases h1 with
 |dang _ hn=>rw[hb]at hn;cases hn
 |ptr=>simp[execOp,ho,hev]
def bW(P:Program)(s f:Nat):Option Nat:=
 match P.underlying s with
 | some (.struct fields)=>match fields[f]? with
   | some x=>match P.info? x.type with
     |some i=>if i.size=0 then aC else aA x.offset
     |none=>aC
   |none=>aC
 |_=>aC
theorem GP{s f off b o':Nat}(h:bW P s f=aA off)(w:World):(Instr.fieldAt s (.pointer (aA ⟨b,o',aC⟩)) f).run P w= .ok (.pointer (aA ⟨b,o'+off,aC⟩)) w:=by
 unfold bW at h;split at h
 .rename_i fields hu;split at h
  .rename_i x hx;split at h
   .rename_i i hi;split at h;.cases h
    rename_i hz;cases h;simp[Instr.fieldAt,underlying,hu,hx,Instr.sureAddr,fieldPlace,sizeOf,typeInfo,hi,hz,Addr.add_mid]
   cases h
  cases h
 cases h
theorem GQ{s f:Nat}{x:Operand}{v:AVal}{off:Nat}(ho:o.op= .fieldAddr s x f)(hoff:bW P s f=aA off)
 (hx:(∃cells,ev x=aA (.rp cells)/\v= .rp (cells.drop off))\/(∃i r c,ev x=aA (.ptr i r c)/\(get i).isSome/\v= .ptr i r (c+off))):
 OpOk P Γ o ev get k ⟨v,k,[],match v with| .ptr i _ _=>[i]|_=>[]⟩:=by
 refine cF λ w G ρ H A a hr hrd hop=>?_;rcases hx with⟨cells,hx,rfl⟩|⟨i,r,c,hx,_,rfl⟩
 .have h1:=hop x (by simp[ho,Op.operands]) _ hx;generalize hev:a.eval x=cv at h1
  cases h1 with
  |rp g hb hc hv=>
   refine⟨_,by simp only[execOp,ho,hev];simp[GP hoff w];rfl,.rp (λ j=>g (off+j)) hb (λ j v hj=>?_) (λ j v hj=>?_)⟩;.rw[dW]at hj;rw[gD];exact hc _ v hj
   rw[dW]at hj;exact hv _ v hj
 have h1:=hop x (by simp[ho,Op.operands]) _ hx;obtain⟨B,A',_,hH,_⟩:=hrd i (by simp);obtain⟨_,b,hb,_⟩:=hr.blk i B A' hH;generalize hev:a.eval x=cv at h1
 cases h1 with
 |dang _ hn=>rw[hb]at hn;cases hn
 |ptr ha hρ hsh=>refine⟨_,by simp only[execOp,ho,hev];simp[GP hoff w];rfl,?_⟩;rw[gD];exact .ptr ha hρ hsh
end
def oP(P:Program)(t:TypeId):Option Nat:=(P.info? t).map (·.size)
def jO(P:Program)(t:TypeId):Option Bool:=
 match P.underlying t with
 |some d=>aA d.isRow
 |none=>aC
def CC(P:Program)(t:TypeId):Option Nat:=
 match P.underlying t with
 |some (.slice e)=>oP P e
 |_=>aC
def DM(P:Program)(t:TypeId):Option (Nat×Nat):=
 match P.underlying t with
 |some (.array n e)=>(oP P e).map λ s=>(n,s)
 |_=>aC
section
variable{P:Program}{Γ:dL}{o:Oper}{ev:Operand->Option AVal}{get:Nat->Option Blk}{k:Nat}
theorem GW{t s:Nat}(h:CC P t=aA s):∃e i,P.underlying t=aA (.slice e)/\P.info? e=aA i/\i.size=s:=by
 unfold CC at h;split at h;.rename_i e he;simp only[oP,aG]at h;obtain⟨i,hi,hs⟩:=h;exact⟨e,i,he,hi,hs⟩
 cases h
theorem aCS{t n s:Nat}(h:DM P t=aA (n,s)):∃e i,P.underlying t=aA (.array n e)/\P.info? e=aA i/\i.size=s:=by
 unfold DM at h;split at h;.rename_i m e he;simp only[oP,Option.map_map,aG]at h;obtain⟨i,hi,hs⟩:=h;cases hs;exact⟨e,i,he,hi,rfl⟩
 cases h
theorem wI{t s:Nat}(h:CC P t=aA s)(b off n cap:Nat)(kk:IntKind)(i:Int)(h0:0<=i)(h1:i<n)(w:World):
 (Instr.indexAt t (.slice (aA ⟨b,off,aC⟩) n cap) (.int kk i)).run P w= .ok (.pointer (aA ⟨b,off+i.toNat*s,aC⟩)) w:=by obtain⟨e,inf,hu,hi,rfl⟩:=GW h;simp[Instr.indexAt,asIntOf,underlying,hu,h0,h1,sizeOf,typeInfo,hi,Addr.add_mid]
theorem wJ{t m s:Nat}(h:DM P t=aA (m,s))(b off:Nat)(kk:IntKind)(i:Int)(h0:0<=i)(h1:i<m)(w:World):
 (Instr.indexAt t (.pointer (aA ⟨b,off,aC⟩)) (.int kk i)).run P w= .ok (.pointer (aA ⟨b,off+i.toNat*s,aC⟩)) w:=by obtain⟨e,inf,hu,hi,rfl⟩:=aCS h;simp[Instr.indexAt,asIntOf,underlying,hu,h0,h1,sizeOf,typeInfo,hi,Addr.add_mid,Instr.sureAddr]
theorem aBC{t s n:Nat}{x y:Operand}{f:Nat->List AVal}{kk:IntKind}{i:Int}(ho:o.op= .indexAddr t x y)(hs:CC P t=aA s)(hx:ev x=aA (.rd s n f))(hy:ev y=aA (.lit (.int kk i)))
 (h0:0<=i) (h1:i<n):OpOk P Γ o ev get k ⟨.rp (f i.toNat),k,[],[]⟩:=by
 refine cF λ w G ρ H A a hr _ hop=>?_;have hvx:=hop x (by simp[ho,Op.operands]) _ hx;have hvy:=gO (hop y (by simp[ho,Op.operands]) _ hy);generalize hev:a.eval x=cv at hvx
 cases hvx with
 |rd0=>omega
 |rd g hb hcap hn hl hc hv=>refine⟨_,by simp only[execOp,ho,hev,hvy];simp[wI hs _ _ _ _ kk i h0 h1 w],.rp (λ j=>g i.toNat j) hb (λ j v hj=>hc i.toNat j v oO hj) (λ j v hj=>hv i.toNat j v oO hj)⟩
theorem aBA{t s n id r:Nat}{x y:Operand}{B:Blk}{kk:IntKind}{i:Int}(ho:o.op= .indexAddr t x y)(hs:CC P t=aA s)(hx:ev x=aA (.sl id r n))(hy:ev y=aA (.lit (.int kk i)))
 (hB:get id=aA B) (hsz:B.sz=s) (h0:0<=i) (h1:i<n):OpOk P Γ o ev get k ⟨.ptr id (r+i.toNat) 0,k,[],[id]⟩:=by
 refine cF λ w G ρ H A a hr hrd hop=>?_;have hvx:=hop x (by simp[ho,Op.operands]) _ hx;have hvy:=gO (hop y (by simp[ho,Op.operands]) _ hy);obtain⟨B',A',h2,hH,_⟩:=hrd id (by simp);rw[hB]at h2;cases h2;obtain⟨_,b,hb,_⟩:=hr.blk id B A' hH;generalize hev:a.eval x=cv at hvx
 cases hvx with
 |dangs _ hn=>rw[hb]at hn;cases hn
 |sl0=>omega
 |sl ha hρ hsh hm hn hc hoff=>
  rw[hb]at hρ;cases hρ;rename_i cap off;have hoff':off=r*B.sz:=hoff.resolve_left oO;subst hoff';refine⟨_,by simp only[execOp,ho,hev,hvy];simp[wI hs _ _ _ _ kk i h0 h1 w];rfl,?_⟩;have e:r*B.sz+i.toNat*s=(r+i.toNat)*B.sz+0:=by rw[hsz,cQ,jL]
  rw[e];exact .ptr ha hb hsh
theorem aBB{t m s:Nat}{x y:Operand}{cells:List AVal}{kk:IntKind}{i:Int}(ho:o.op= .indexAddr t x y)(hs:DM P t=aA (m,s))(hx:ev x=aA (.rp cells))(hy:ev y=aA (.lit (.int kk i)))
 (h0:0<=i) (h1:i<m):OpOk P Γ o ev get k ⟨.rp (cells.drop (i.toNat*s)),k,[],[]⟩:=by
 refine cF λ w G ρ H A a hr _ hop=>?_;have hvx:=hop x (by simp[ho,Op.operands]) _ hx;have hvy:=gO (hop y (by simp[ho,Op.operands]) _ hy);generalize hev:a.eval x=cv at hvx
 cases hvx with
 |rp g hb hc hv=>
  refine⟨_,by simp only[execOp,ho,hev,hvy];simp[wJ hs _ _ kk i h0 h1 w];rfl,.rp (λ j=>g (i.toNat*s+j)) hb (λ j v hj=>?_) (λ j v hj=>?_)⟩;.rw[dW]at hj;rw[gD];exact hc _ v hj
  rw[dW]at hj;exact hv _ v hj
theorem WP{t m s id r c:Nat}{x y:Operand}{B:Blk}{kk:IntKind}{i:Int}(ho:o.op= .indexAddr t x y)(hs:DM P t=aA (m,s))(hx:ev x=aA (.ptr id r c))(hy:ev y=aA (.lit (.int kk i)))
 (hB:get id=aA B) (h0:0<=i) (h1:i<m):OpOk P Γ o ev get k ⟨if B.sz=s/\c=0 then .ptr id (r+i.toNat) 0 else .ptr id r (c+i.toNat*s),k,[],[id]⟩:=by
 refine cF λ w G ρ H A a hr hrd hop=>?_;have hvx:=hop x (by simp[ho,Op.operands]) _ hx;have hvy:=gO (hop y (by simp[ho,Op.operands]) _ hy);obtain⟨B',A',h2,hH,_⟩:=hrd id (by simp);rw[hB]at h2;cases h2;obtain⟨_,b,hb,_⟩:=hr.blk id B A' hH;generalize hev:a.eval x=cv at hvx
 cases hvx with
 |dang _ hn=>rw[hb]at hn;cases hn
 |ptr ha hρ hsh=>
  rw[hb]at hρ;cases hρ;refine⟨_,by simp only[execOp,ho,hev,hvy];simp[wJ hs _ _ kk i h0 h1 w];rfl,?_⟩;split
  .rename_i hc;have e:r*B.sz+c+i.toNat*s=(r+i.toNat)*B.sz+0:=by rw[hc.2,<-hc.1,cQ];omega
   rw[e];exact .ptr ha hb hsh
  rw[gD];exact .ptr ha hb hsh
def iJ(agg:Bool)(n:Nat)(row:List AVal)(c:Nat):Option AVal:=
 if agg then(if c+n<=row.length then aA (.agg ((row.drop c).take n))else aC)else row[c]?
theorem VS{t n b off:Nat}(ht:jO P t=aA aB)(hn:oP P t=aA n)(cs:List Value)(hl:cs.length=n)(w:World)(hc:w.rangeAt b off cs):
 (Instr.loadAt t (.pointer (aA ⟨b,off,aC⟩))).run P w= .ok (.agg cs.toArray) w:=by
 unfold jO at ht;split at ht
 .rename_i d hd
  cases hdr:d.isRow with
  |false=>rw[hdr]at ht;cases ht
  |true=>exact run_loadAt_mid w b off t cs d hc hd hdr (by rw[hl];exact hn)
 cases ht
theorem VR{t b off:Nat}(ht:jO P t=aA aE)(u:Value)(w:World)(hc:w.cell? ⟨b,off,aC⟩=aA u):
 (Instr.loadAt t (.pointer (aA ⟨b,off,aC⟩))).run P w= .ok u w:=by
 unfold jO at ht;split at ht
 .rename_i d hd;have hagg:(isAgg t).run P w= .ok aE w:=by unfold isAgg;rw[bN,run_underlying hd w];cases d<;>simp_all
  simp[Instr.loadAt,Instr.sureAddr,loadVar,bN,hagg,hc]
 cases ht
theorem bAK{w:World}{G:Nat->Prop}{ρ:cY}{A:bZ}(cells:List AVal)(g:Nat->Value)(hv:∀(j:Nat) v,cells[j]? =aA v->V w G ρ A v (g j)):
 V w G ρ A (.agg cells) (.agg ((aN cells.length).map g).toArray):=by
 refine .agg (by simp) λ j v hj=>?_;have hlt:=(aK.1 hj).1;have:((aN cells.length).map g).toArray.getD j undef=g j:=by rw[aI,cJ,aP,mG hlt];rfl
 rw[this];exact hv j v hj
theorem xQ{t n b off c:Nat}{ag:Bool}{row:List AVal}{v:AVal}{w:World}{G:Nat->Prop}{ρ:cY}{A:bZ}(ht:jO P t=aA ag)(hn:oP P t=aA n)(hp:iJ ag n row c=aA v)
 (g:Nat->Value) (hc:∀j u,row[j]? =aA u->w.cell? ⟨b,off+j,aC⟩=aA (g j)) (hv:∀j u,row[j]? =aA u->V w G ρ A u (g j)):
 ∃cv,(Instr.loadAt t (.pointer (aA ⟨b,off+c,aC⟩))).run P w= .ok cv w/\V w G ρ A v cv:=by
 unfold iJ at hp
 cases ag with
 |true=>
  simp only[if_true]at hp;split at hp
  .rename_i hle;cases hp;have hlen:((row.drop c).take n).length=n:=by simp;omega
   have hsub:∀(j:Nat) u,((row.drop c).take n)[j]? =aA u->row[c+j]? =aA u:=λ j u hj=>by
    rw[fE]at hj;split at hj;.rw[dW]at hj;exact hj
    cases hj
   have hV:=bAK (w:=w) (G:=G) (ρ:=ρ) (A:=A) ((row.drop c).take n) (λ j=>g (c+j)) (λ j u hj=>hv _ u (hsub j u hj));refine⟨_,VS ht hn ((aN ((row.drop c).take n).length).map λ j=>g (c+j)) (by simpa using hlen) w ?_,hV⟩;intro j u hj;rw[aP]at hj;simp only[aG]at hj;obtain⟨i,hi,rfl⟩:=hj;have hi':=aK.1 hi;obtain⟨hlt,he⟩:=hi';simp at he;subst he;have hlt':j<((row.drop c).take n).length:=by simpa using hlt
   rw[gD];exact hc (c+j) _ (hsub j _ (aJ hlt'))
  cases hp
 |false=>simp only[aS,if_false]at hp;exact⟨g c,VR ht _ w (hc c v hp),hv c v hp⟩
theorem aFH{t n:Nat}{x:Operand}{cells:List AVal}{ag:Bool}{v:AVal}(ho:o.op= .load t x)(ht:jO P t=aA ag)(hn:oP P t=aA n)(hx:ev x=aA (.rp cells))
 (hp:iJ ag n cells 0=aA v):OpOk P Γ o ev get k ⟨v,k,[],[]⟩:=by
 refine cF λ w G ρ H A a hr _ hop=>?_;have hvx:=hop x (by simp[ho,Op.operands]) _ hx;generalize hev:a.eval x=cv at hvx
 cases hvx with
 |rp g hb hc hv=>obtain⟨cv,hrun,hV⟩:=xQ (P:=P) (G:=G) (ρ:=bS) (A:=cI) ht hn hp g hc hv;exact⟨cv,by simp only[execOp,ho,hev];simp only[jL]at hrun;simp[hrun],hV.weaken⟩
theorem aAM{t n id r c:Nat}{x:Operand}{B:Blk}{row:List AVal}{ag:Bool}{v:AVal}(ho:o.op= .load t x)(ht:jO P t=aA ag)(hn:oP P t=aA n)(hx:ev x=aA (.ptr id r c))
 (hB:get id=aA B) (hrow:B.rows[r]? =aA row) (hp:iJ ag n row c=aA v):OpOk P Γ o ev get k ⟨v,k,[],[id]⟩:=by
 refine cF λ w G ρ H A a hr hrd hop=>?_;have hvx:=hop x (by simp[ho,Op.operands]) _ hx;obtain⟨B',A',h2,hH,hAA⟩:=hrd id (by simp);rw[hB]at h2;cases h2;obtain⟨_,b,hb,_,hBR⟩:=hr.blk id B A' hH;generalize hev:a.eval x=cv at hvx
 cases hvx with
 |dang _ hn=>rw[hb]at hn;cases hn
 |ptr ha hρ hsh=>
  rw[hb]at hρ;cases hρ;obtain⟨⟨C,ty,hC,hrows⟩,hlen⟩:=hBR.old hsh;have hcell:∀j u,row[j]? =aA u->w.cell? ⟨b,r*B.sz+j,aC⟩=aA (C.getD (r*B.sz+j) undef):=λ j u hj=>by obtain⟨cv,h3,_⟩:=hrows r row j u hrow hj;rw[cell_of_row w b _ C ty (0,0) hC,h3,aI,h3];rfl
  have hval:∀j u,row[j]? =aA u->V w G ρ A u (C.getD (r*B.sz+j) undef):=λ j u hj=>by
   obtain⟨cv,h3,h4⟩:=hrows r row j u hrow hj;rw[aI,h3];by_cases hp:B.pure=aB;.simp only[hp,if_true]at h4;exact h4.weaken
   simp only[hp]at h4;exact h4.mono (λ _ h=>h) (λ _ _=>rfl) (λ _ _=>rfl) hAA (λ _ _=> .inr rfl)
  obtain⟨cv,hrun,hV⟩:=xQ (P:=P) ht hn hp (λ j=>C.getD (r*B.sz+j) undef) hcell hval;exact⟨cv,by simp only[execOp,ho,hev];simp[hrun],hV⟩
def fX(P:Program)(t:TypeId):Bool:=match P.underlying t with|some (.slice _)=>aB|_=>aE
theorem aUC{t:Nat}{x:Operand}{v:AVal}{n:Nat}{ty:Array TypeId}(ho:o.op= .call {callee:= .builtin .len,args:= #[x],argTypes:=ty})(hty:ty[0]? =aA t)(ht:fX P t=aB)
 (hx:ev x=aA v) (hv:(∃s f,v= .rd s n f)\/(∃id r,v= .sl id r n/\(get id).isSome)):
 OpOk P Γ o ev get k ⟨.lit (.int .i64 n),k,[],match v with| .sl id _ _=>[id]|_=>[]⟩:=by
 refine cF λ w G ρ H A a hr hrd hop=>?_;have hvx:=hop x (by simp[ho,Op.operands,Call.operands]) _ hx;unfold fX at ht
 have hsl:∃p m c,a.eval x= .slice p m c/\m=n:=by
  generalize hev:a.eval x=cv at hvx;rcases hv with⟨s,f,rfl⟩|⟨id,r,rfl,_⟩
  .cases hvx with
   |rd0=>exact⟨_,_,_,rfl,rfl⟩
   |rd=>exact⟨_,_,_,rfl,rfl⟩
  obtain⟨B',A',h2,hH,_⟩:=hrd id (by simp);obtain⟨_,b,hb,_⟩:=hr.blk id B' A' hH
  cases hvx with
  |dangs _ hn=>rw[hb]at hn;cases hn
  |sl=>exact⟨_,_,_,rfl,rfl⟩
  |sl0=>exact⟨_,_,_,rfl,rfl⟩
 obtain⟨p,m,c,hev,rfl⟩:=hsl;split at ht;.rename_i e hu;refine⟨.int .i64 m,?_,.lit⟩;simp[execOp,ho,resolve,invoke,builtin,Builtin.len_,hty,hev,underlying,hu,goInt]
 cases ht
theorem aGD{x:Operand}{i:Nat}{vs:List AVal}{v:AVal}(ho:o.op= .extract x i)(hx:ev x=aA (.tup vs))(hv:vs[i]? =aA v):OpOk P Γ o ev get k ⟨v,k,[],[]⟩:=by
 refine cF λ w G ρ H A a hr _ hop=>?_;have hvx:=hop x (by simp[ho,Op.operands]) _ hx;generalize hev:a.eval x=cv at hvx
 cases hvx with
 |tup hl hvs=>rename_i cs;have hlt:=(aK.1 hv).1;have h2:=hvs i v hv;obtain⟨u,hg,hu⟩:∃u,cs[i]? =aA u/\cs.getD i undef=u:=⟨cs[i]'oO,aQ oO,by rw[aI,aQ oO];rfl⟩;rw[hu]at h2;exact⟨u,by simp[execOp,ho,hev,Instr.extract,hg],h2⟩
def fieldAt(P:Program)(s f:Nat):Option (Nat×Nat×Bool):=
 match P.underlying s with
 | some (.struct fields)=>match fields[f]? with
   | some x=>match jO P x.type,oP P x.type with
     |some ag,aA n=>aA (x.offset,n,ag)
     |_,_=>aC
   |none=>aC
 |_=>aC
theorem ZK{t n:Nat}{ag:Bool}(ht:jO P t=aA ag)(hn:oP P t=aA n)(cells:List AVal)(off:Nat)(v:AVal)(hp:iJ ag n cells off=aA v)(cs:Array Value)(hl:cells.length=cs.size)
 {w:World} {G:Nat->Prop} {ρ:cY} {A:bZ} (hv:∀(j:Nat) u,cells[j]? =aA u->V w G ρ A u (cs.getD j undef)):∃cv,(part t cs off).run P w= .ok cv w/\V w G ρ A v cv:=by
 unfold jO at ht;split at ht
 .rename_i d hd;have hagg:(isAgg t).run P w= .ok d.isRow w:=by unfold isAgg;rw[bN,run_underlying hd w];cases d<;>simp_all
  cases ht;simp only[oP,aG]at hn;obtain⟨inf,hinf,rfl⟩:=hn;unfold iJ at hp
  cases hrow:d.isRow with
  |true=>
   simp only[hrow,if_true]at hp;split at hp
   .rename_i hle;cases hp;refine⟨.agg (cs.extract off (off+inf.size)),by simp[part,hagg,hrow,sizeOf,typeInfo,hinf],.agg (by simp;omega) λ j u hj=>?_⟩;rw[fE]at hj;split at hj
    .rename_i hlt;rw[dW]at hj;have h2:=hv _ u hj;have hlt2:=(aK.1 hj).1;have e:(cs.extract off (off+inf.size)).getD j undef=cs.getD (off+j) undef:=by rw[aI,aI,Array.getElem?_extract_of_lt oO,aQ oO]
     rw[e];exact h2
    cases hj
   cases hp
  |false=>simp only[hrow,aS,if_false]at hp;have hlt:=(aK.1 hp).1;obtain⟨u,hg,hu⟩:∃u,cs[off]? =aA u/\cs.getD off undef=u:=⟨cs[off]'oO,aQ oO,by rw[aI,aQ oO];rfl⟩;have h2:=hv off v hp;rw[hu]at h2;exact⟨u,by simp[part,hagg,hrow,hg],h2⟩
 cases ht
theorem aVG{s f off n:Nat}{ag:Bool}{x:Operand}{cells:List AVal}{v:AVal}(ho:o.op= .field s x f)(hf:fieldAt P s f=aA (off,n,ag))(hx:ev x=aA (.agg cells))
 (hp:iJ ag n cells off=aA v):OpOk P Γ o ev get k ⟨v,k,[],[]⟩:=by
 refine cF λ w G ρ H A a hr _ hop=>?_;have hvx:=hop x (by simp[ho,Op.operands]) _ hx;generalize hev:a.eval x=cv at hvx;unfold fieldAt at hf;split at hf
 .rename_i fields hu;split at hf
  .rename_i fl hfl;split at hf
   .rename_i ag' n' h1 h2;cases hf
    cases hvx with
    |agg hl hvs=>obtain⟨cv,hrun,hV⟩:=ZK h1 h2 cells _ v hp _ hl hvs;exact⟨cv,by simp[execOp,ho,hev,Instr.field,underlying,hu,hfl,asAgg,hrun],hV⟩
   cases hf
  cases hf
 cases hf
theorem WQ{t m s:Nat}{ag:Bool}{x y:Operand}{cells:List AVal}{v:AVal}{kk:IntKind}{i:Int}{e:TypeId}(ho:o.op= .index t x y)(hu:P.underlying t=aA (.array m e))(ht:jO P e=aA ag)(hs:oP P e=aA s)
 (hx:ev x=aA (.agg cells)) (hy:ev y=aA (.lit (.int kk i))) (h0:0<=i) (h1:i<m) (hp:iJ ag s cells (i.toNat*s)=aA v):OpOk P Γ o ev get k ⟨v,k,[],[]⟩:=by
 refine cF λ w G ρ H A a hr _ hop=>?_;have hvx:=hop x (by simp[ho,Op.operands]) _ hx;have hvy:=gO (hop y (by simp[ho,Op.operands]) _ hy);generalize hev:a.eval x=cv at hvx
 cases hvx with
 |agg hl hvs=>obtain⟨cv,hrun,hV⟩:=ZK ht hs cells _ v hp _ hl hvs;simp only[oP,aG]at hs;obtain⟨inf,hinf,rfl⟩:=hs;exact⟨cv,by simp[execOp,ho,hev,hvy,Instr.index,asIntOf,underlying,hu,h0,h1,sizeOf,typeInfo,hinf,hrun],hV⟩
theorem aAJ{f:FuncId}{caps:Array Operand}{vs:List AVal}(ho:o.op= .makeFunc (.func f) #[] caps)(hl:vs.length=caps.size)(hc:∀(j:Nat) x v,caps[j]? =aA x->vs[j]? =aA v->ev x=aA v):
 OpOk P Γ o ev get k ⟨.fn f vs,k,[],[]⟩:=by
 refine cF λ w G ρ H A a hr _ hop=>⟨.func (.func f) #[] (caps.map a.eval),by simp[execOp,ho,Instr.makeFunc],.fn (by simpa using hl) λ j v hj=>?_⟩;have hlt:=(aK.1 hj).1;have hx:caps[j]? =aA caps[j]:=aQ oO;have e:(caps.map a.eval).getD j undef=a.eval caps[j]:=by rw[aI,Array.getElem?_map,hx];rfl
 rw[e];exact hop _ (by simp[ho,Op.operands,SD hx]) v (hc j _ v hx hj)
end
def clean:AVal->Bool
 | .lit _=>aB
 | .rd .. =>aB
 | .rp _=>aB
 | .junk=>aB
 | .fn _ []=>aB
 | .nn=>aB
 |_=>aE
def one:AVal->Bool
 | .lit v=>v.oneCell'
 | .junk=>aE
 | .agg _=>aE
 | .tup _=>aE
 |_=>aB
def vT:AVal->Option (List AVal)
 | .agg cs=>aA cs
 | .lit (.agg cs)=>aA (cs.toList.map .lit)
 | .junk=>aC
 | .tup _=>aC
 |v=>aA [v]
def oR(s n:Nat)(cells:List AVal):List (List AVal):=(aN n).map λ i=>(cells.drop (i*s)).take s
def BO(P:Program)(t:TypeId)(cells:List AVal):Blk:=
 match DM P t with
 |some (n,s)=>if 0<s/\cells.length=n*s then⟨s,cells.all clean,oR s n cells⟩else⟨cells.length,cells.all clean,[cells]⟩
 |none=>⟨cells.length,cells.all clean,[cells]⟩
def iY(P:Program)(t:TypeId):Option (List AVal):=((P.info? t).bind (·.zero)).map λ z=>z.cells.toList.map .lit
theorem HH{w:World}{G:Nat->Prop}{ρ:cY}{A:bZ}{v:AVal}{cv:Value}(h:V w G ρ A v cv)(hc:clean v=aB):V w G bS cI v cv:=by
 cases h with
 |junk=>exact .junk
 |lit=>exact .lit
 |rp g h1 h2 h3=>exact .rp g h1 h2 h3
 |nn=>exact .nn
 |rd0=>exact .rd0
 |rd g h1 h2 h3 h4 h5 h6=>exact .rd g h1 h2 h3 h4 h5 h6
 | fn h1 h2=>rename_i f caps cs;cases caps with
   |nil=>exact .fn h1 (λ j v hj=>by simp at hj)
   |cons=>simp[clean]at hc
 |_=>simp[clean]at hc
theorem ZZ{w:World}{G:Nat->Prop}{ρ:cY}{A:bZ}{v:AVal}{cv:Value}(h:V w G ρ A v cv)(hc:one v=aB):cv.oneCell'=aB:=by cases h<;>simp_all [one,Value.oneCell']
theorem HO{w:World}{G:Nat->Prop}{ρ:cY}{A:bZ}{v:AVal}{cv:Value}{cs:List AVal}(h:V w G ρ A v cv)(hc:vT v=aA cs):
 cs.length=cv.cells.size/\∀(j:Nat) u,cs[j]? =aA u->V w G ρ A u (cv.cells.getD j undef):=by
 have single:∀(x:Value),(∀ys,x≠ .agg ys)->x.cells= #[x]:=λ x hx=>by cases x<;>simp_all [Value.cells]
 cases h with
 |junk=>cases hc
 |tup h1 h2=>cases hc
 |agg h1 h2=>cases hc;exact⟨h1,h2⟩
 |lit=>
  cases cv with
  |agg ys=>
   cases hc;refine⟨by simp[Value.cells],λ j u hj=>?_⟩;simp only[aP,aG]at hj;obtain⟨x,hx,rfl⟩:=hj;have:(Value.agg ys).cells.getD j undef=x:=by simp only[Value.cells];rw[aI,<-bF,hx];rfl
   rw[this];exact .lit
  |_=>
   cases hc;refine⟨rfl,λ j u hj=>?_⟩
   cases j with
   |zero=>cases hj;exact .lit
   |succ j=>simp at hj
 |dang h1 h2=>cases hc;exact⟨rfl,λ j u hj=>by cases j with|zero=>cases hj;exact .dang h1 h2|succ j=>simp at hj⟩
 |dangs h1 h2=>cases hc;exact⟨rfl,λ j u hj=>by cases j with|zero=>cases hj;exact .dangs h1 h2|succ j=>simp at hj⟩
 |ptr h1 h2 h3=>cases hc;exact⟨rfl,λ j u hj=>by cases j with|zero=>cases hj;exact .ptr h1 h2 h3|succ j=>simp at hj⟩
 |dangm h1 h2=>cases hc;exact⟨rfl,λ j u hj=>by cases j with|zero=>cases hj;exact .dangm h1 h2|succ j=>simp at hj⟩
 |mp h1 h2 h3=>cases hc;exact⟨rfl,λ j u hj=>by cases j with|zero=>cases hj;exact .mp h1 h2 h3|succ j=>simp at hj⟩
 |dangi h1 h2=>cases hc;exact⟨rfl,λ j u hj=>by cases j with|zero=>cases hj;exact .dangi h1 h2|succ j=>simp at hj⟩
 |it h1 h2 h3=>cases hc;exact⟨rfl,λ j u hj=>by cases j with|zero=>cases hj;exact .it h1 h2 h3|succ j=>simp at hj⟩
 |sl h1 h2 h3 h4 h5 h6 h7=>cases hc;exact⟨rfl,λ j u hj=>by cases j with|zero=>cases hj;exact .sl h1 h2 h3 h4 h5 h6 h7|succ j=>simp at hj⟩
 |sl0 h1 h2=>cases hc;exact⟨rfl,λ j u hj=>by cases j with|zero=>cases hj;exact .sl0 h1 h2|succ j=>simp at hj⟩
 |rp g h1 h2 h3=>cases hc;exact⟨rfl,λ j u hj=>by cases j with|zero=>cases hj;exact .rp g h1 h2 h3|succ j=>simp at hj⟩
 |rd0=>cases hc;exact⟨rfl,λ j u hj=>by cases j with|zero=>cases hj;exact .rd0|succ j=>simp at hj⟩
 |rd g h1 h2 h3 h4 h5 h6=>cases hc;exact⟨rfl,λ j u hj=>by cases j with|zero=>cases hj;exact .rd g h1 h2 h3 h4 h5 h6|succ j=>simp at hj⟩
 |fn h1 h2=>cases hc;exact⟨rfl,λ j u hj=>by cases j with|zero=>cases hj;exact .fn h1 h2|succ j=>simp at hj⟩
 |nn=>cases hc;exact⟨rfl,λ j u hj=>by cases j with|zero=>cases hj;exact .nn|succ j=>simp at hj⟩
 |dangc h1 h2=>cases hc;exact⟨rfl,λ j u hj=>by cases j with|zero=>cases hj;exact .dangc h1 h2|succ j=>simp at hj⟩
 |slc h1 h2 h3 h4 h5 h6 h7=>cases hc;exact⟨rfl,λ j u hj=>by cases j with|zero=>cases hj;exact .slc h1 h2 h3 h4 h5 h6 h7|succ j=>simp at hj⟩
 |bfn h1=>cases hc;exact⟨rfl,λ j u hj=>by cases j with|zero=>cases hj;exact .bfn h1|succ j=>simp at hj⟩
theorem PV{s n:Nat}{cells:List AVal}{r:Nat}{row:List AVal}(h:(oR s n cells)[r]? =aA row):r<n/\row=(cells.drop (r*s)).take s:=by unfold oR at h;rw[aP]at h;simp only[aG]at h;obtain⟨i,hi,rfl⟩:=h;obtain⟨hlt,he⟩:=aK.1 hi;simp at he hlt;subst he;exact⟨hlt,rfl⟩
theorem CF{s n:Nat}{cells:List AVal}{r c:Nat}{row:List AVal}{v:AVal}(h:(oR s n cells)[r]? =aA row)(hc:row[c]? =aA v):cells[r*s+c]? =aA v:=by
 obtain⟨_,rfl⟩:=PV h;rw[fE]at hc;split at hc;.rw[dW]at hc;exact hc
 cases hc
theorem FA{s n:Nat}{cells:List AVal}(hl:cells.length=n*s){r:Nat}{row:List AVal}(h:(oR s n cells)[r]? =aA row):row.length=s:=by obtain⟨hlt,rfl⟩:=PV h;have:(r+1)*s<=n*s:=cC s hlt;rw[cQ]at this;simp;omega
def aIC(cells:List AVal)(B:Blk):Prop:=(∀(r:Nat) row,B.rows[r]? =aA row->row.length=B.sz)/\∀(r:Nat) row (c:Nat) v,B.rows[r]? =aA row->row[c]? =aA v->cells[r*B.sz+c]? =aA v
theorem KA(P:Program)(t:TypeId)(cells:List AVal):aIC cells (BO P t cells)/\(BO P t cells).pure=cells.all clean:=by
 have one_row:aIC cells ⟨cells.length,cells.all clean,[cells]⟩:=by
  refine⟨λ r row h=>?_,λ r row c v h hc=>?_⟩
  .cases r with
   |zero=>cases h;rfl
   |succ r=>simp at h
  cases r with
  |zero=>cases h;simpa using hc
  |succ r=>simp at h
 unfold BO;split
 .split;.rename_i h;exact⟨⟨λ r row hr=>FA h.2 hr,λ r row c v hr hc=>CF hr hc⟩,rfl⟩
  exact⟨one_row,rfl⟩
 exact⟨one_row,rfl⟩
section
variable{P:Program}{Γ:dL}{o:Oper}{ev:Operand->Option AVal}{get:Nat->Option Blk}{k:Nat}
theorem HV{B:Blk}{cells:List AVal}{v:AVal}{rds:List Nat}(hB:aIC cells B)(hp:B.pure=aB->cells.all clean=aB)
 (h:∀w G ρ H (A:bZ) (a:Act),HRel Γ w G ρ H->(∀id,id∈rds->∃B A',get id=aA B/\H id=aA (B,A')/\∀i,A' i->A i)→
   (∀x,x∈o.op.operands->∀v,ev x=aA v->V w G ρ A v (a.eval x))→
   ∃ (C:Array Value) (ty:TypeId) (w1:World) (cv:Value),(execOp a.eval o).run P w= .ok (.value cv) (w1.alloc (.cells C ty))/\w1.heap=w.heap/\w1.os=w.os/\w1.tape=w.tape/\w1.output=w.output∧
     (∀(j:Nat) u,cells[j]? =aA u->∃cu,C[j]? =aA cu/\V w G ρ A u cu)∧
     ((v= .ptr k 0 0/\cv= .pointer (aA ⟨w.heap.size,0,aC⟩))\/(∃n cap,v= .sl k 0 n/\cv= .slice (aA ⟨w.heap.size,0,aC⟩) n cap/\n<=cap/\cap<=maxLen/\cap*B.sz<=C.size))):
 OpOk P Γ o ev get k ⟨v,k+1,[(k,aA B)],rds⟩:=by
 intro w G ρ H A a hr hA hf hrd hop next Q hn
 obtain⟨C,ty,w1,cv,hrun,hw,ho,ht,hou,hC,hv⟩:=h w G ρ H A a hr hrd hop;have hkA:¬A k:=λ hk=>qR _ (hA k hk);obtain⟨hρ,hfr⟩:=hf k (aF _) (cW _);unfold Oper.wp;rw[hrun]
 have hcon:∀r row c v,B.rows[r]? =aA row->row[c]? =aA v->∃cv,C[r*B.sz+c]? =aA cv/\V w G (if B.pure then bS else ρ) (if B.pure then cI else A) v cv:=λ r row c v h1 h2=>by
  have h3:=hB.2 r row c v h1 h2;obtain⟨cu,h4,h5⟩:=hC _ v h3;refine⟨cu,h4,?_⟩;by_cases hpb:B.pure=aB;.simp only[hpb,if_true];exact HH h5 (iT (hp hpb) h3)
  simp only[hpb];exact h5
 have hrel:=hr.alloc k hρ hfr B C ty A (λ i=>A i\/(k<=i/\i<k+1)) hkA (λ _ h=> .inl h) (.inr ⟨aF _,cW _⟩) hB.1 hcon w1 hw ho ht hou;have hst:=lY (w:=w) (G:=G) (ρ:=ρ) k B.sz (.cells C ty) w1 hw ho ht hou;refine hn _ G _ cv hrel ?_ ⟨hst.size,hst.keep,hst.shape,hst.g,hst.g',hst.own,λ id hid=>hst.ids id (λ he=>hid (oO:k<=id/\id<k+1)),hst.os,hst.tape,hst.output⟩;rcases hv with⟨rfl,rfl⟩|⟨n,cap,rfl,rfl,h1,h2,h3⟩
 .have:=V.ptr (w:=w1.alloc (.cells C ty)) (G:=G) (ρ:=fF ρ k (aA (w.heap.size,B.sz))) (A:=λ i=>A i\/(k<=i/\i<k+1)) (id:=k) (r:=0) (c:=0) (b:=w.heap.size) (s:=B.sz) (.inr ⟨aF _,cW _⟩) (by simp[fF]) (ty:=ty) (m:=C.size) (by have:=iU w1 (.cells C ty);rw[hw]at this;simp[World.shape?,this])
  simpa using this
 refine .sl (b:=w.heap.size) (s:=B.sz) (ty:=ty) (m:=C.size) (.inr ⟨aF _,cW _⟩) (by simp[fF]) ?_ (by simpa using h3) h1 h2 (.inr (by simp));have:=iU w1 (.cells C ty);rw[hw]at this;simp[World.shape?,this]
theorem aXX{t:Nat}{cells:List AVal}(ho:o.op= .alloc t)(hz:iY P t=aA cells):OpOk P Γ o ev get k ⟨.ptr k 0 0,k+1,[(k,aA (BO P t cells))],[]⟩:=by
 have hb:=KA P t cells;refine HV hb.1 (λ h=>hb.2▸h) λ w G ρ H A a hr _ hop=>?_;simp only[iY,aG,cE]at hz;obtain⟨z,⟨i,hi,hz⟩,rfl⟩:=hz;refine⟨z.cells,t,w,.pointer (aA ⟨w.heap.size,0,aC⟩),?_,rfl,rfl,rfl,rfl,λ j u hj=>?_,.inl ⟨rfl,rfl⟩⟩;.simp[execOp,ho,Instr.alloc,zeroValue,typeInfo,hi,hz,newVar,newRow]
 simp only[aP,aG]at hj;obtain⟨x,hx,rfl⟩:=hj;exact⟨x,by rw[<-bF];exact hx,.lit⟩
theorem yX{cs:Array Value}{j:Nat}(h:j<cs.size):cs[j]? =aA (cs.getD j undef):=by rw[aI,aQ h];rfl
theorem bAA{t:Nat}{x:Operand}{v:AVal}{cells:List AVal}(ho:o.op= .box t x)(hx:ev x=aA v)(hc:vT v=aA cells):OpOk P Γ o ev get k ⟨.ptr k 0 0,k+1,[(k,aA (BO P t cells))],[]⟩:=by
 have hb:=KA P t cells;refine HV hb.1 (λ h=>hb.2▸h) λ w G ρ H A a hr _ hop=>?_;obtain⟨hl,hv⟩:=HO (hop x (by simp[ho,Op.operands]) v hx) hc;refine⟨(a.eval x).cells,t,w,.pointer (aA ⟨w.heap.size,0,aC⟩),?_,rfl,rfl,rfl,rfl,λ j u hj=>?_,.inl ⟨rfl,rfl⟩⟩;.simp[execOp,ho,Instr.box,newVar,newRow]
 have hlt:=(aK.1 hj).1;exact⟨_,yX oO,hv j u hj⟩
def gV(P:Program)(t:TypeId):Option (Nat×Nat×List AVal):=
 match P.underlying t with
 | some (.slice e)=>match P.info? e with
   | some i=>match i.zero with
     |some z=>if z.cells.size=i.size/\0<i.size then aA (i.size,i.bytes,z.cells.toList.map .lit)else aC
     |none=>aC
   |none=>aC
 |_=>aC
theorem EH{z:Array Value}{n s:Nat}(hs:z.size=s)(h0:0<s){r c:Nat}(hr:r<n)(hc:c<s):(madeCells z (n*s))[r*s+c]? =z[c]? :=by
 unfold madeCells;have hlt:r*s+c<n*s:=by have:(r+1)*s<=n*s:=cC s hr;rw[cQ]at this;omega
 have hm:(r*s+c)%s=c:=by rw[bKT,Nat.add_mul_mod_self_right];exact JP hc
 rw[Array.getElem?_map,Array.getElem?_range,iP hlt];simp only[bU,hs,hm];rw[Array.getElem!_eq_getD,aI,aQ oO];rfl
theorem a1O{t s by':Nat}{x y:Operand}{zrow:List AVal}{kl kc:IntKind}{l c:Int}(ho:o.op= .makeSlice t x y)(hz:gV P t=aA (s,by',zrow))(hx:ev x=aA (.lit (.int kl l)))(hy:ev y=aA (.lit (.int kc c)))
 (h0:0<=l) (h1:l<=c) (h2:(by':Int)*c<=281474976710656) (h3:c<=9223372036854775807):
 OpOk P Γ o ev get k ⟨.sl k 0 l.toNat,k+1,[(k,aA ⟨s,aB,bE l.toNat zrow⟩)],[]⟩:=by
 unfold gV at hz;split at hz
 .rename_i e hu;split at hz
  .rename_i i hi;split at hz
   .rename_i z hzz;split at hz
    .rename_i hsz;cases hz
     have hlen:∀(r:Nat) row,(bE l.toNat (z.cells.toList.map AVal.lit))[r]? =aA row->r<l.toNat/\row=z.cells.toList.map AVal.lit:=λ r row h=>by
      rw[oG]at h;split at h;.cases h;exact⟨‹_›,rfl⟩
      cases h
     refine HV (cells:=(madeCells z.cells (c.toNat*i.size)).toList.map .lit) ⟨λ r row h=>by rw[(hlen r row h).2];simp[hsz.1],λ r row j v h hj=>?_⟩ (λ _=>by simp[clean]) λ w G ρ H A a hr _ hop=>?_
     .obtain⟨hr1,rfl⟩:=hlen r row h;rw[aP]at hj⊢
      simp only[aG]at hj⊢
      obtain⟨u,hu1,rfl⟩:=hj;refine⟨u,?_,rfl⟩;have hjlt:j<i.size:=by have:=(aK.1 hu1).1;simp at this;omega
      rw[bF,EH hsz.1 hsz.2 oO hjlt,<-bF];exact hu1
     have hvx:=gO (hop x (by simp[ho,Op.operands]) _ hx);have hvy:=gO (hop y (by simp[ho,Op.operands]) _ hy);have hrun:=run_make (P:=P) w t e i z hu hi hzz kl kc l c h0 h1 h2 h3;refine⟨madeCells z.cells (c.toNat*i.size),e,w,.slice (aA ⟨w.heap.size,0,aC⟩) l.toNat c.toNat,by simp[execOp,ho,hvx,hvy,hrun],rfl,rfl,rfl,rfl,λ j u hj=>?_,.inr ⟨l.toNat,c.toNat,rfl,rfl,oO,by unfold maxLen;omega,by rw[size_madeCells];exact aF _⟩⟩;rw[aP]at hj;simp only[aG]at hj;obtain⟨u',hu1,rfl⟩:=hj;exact⟨u',by rw[<-bF];exact hu1,.lit⟩
    cases hz
   cases hz
  cases hz
 cases hz
theorem CW{α:Type}{l vs:List α}{o:Nat}(h:o+vs.length<=l.length)(i:Nat):
 (l.take o++vs++l.drop (o+vs.length))[i]? =if i<o then l[i]? else if i<o+vs.length then vs[i-o]? else l[i]? :=by
 have ho:(l.take o).length=o:=by simp;omega
 by_cases h1:i<o;.rw[iP h1,cM,gP oO,fE,iP h1]
 rw[iN h1];by_cases h2:i<o+vs.length;.rw[iP h2,cM,iK oO,ho,gP oO]
 rw[iN h2,iK (by simp;omega),dW];congr 1;simp;omega
theorem aMZ{sz r r' c c' n:Nat}(h1:c'<sz)(h2:c+n<=sz)(hne:r'≠r):r'*sz+c'<r*sz+c\/r*sz+c+n<=r'*sz+c':=by
 rcases Nat.lt_or_gt_of_ne hne with h|h;.left;have:(r'+1)*sz<=r*sz:=cC sz h;rw[cQ]at this;omega
 right;have:(r+1)*sz<=r'*sz:=cC sz h;rw[cQ]at this;omega
theorem uP{t b off n:Nat}{w:World}{C:Array Value}{ty:TypeId}(hC:w.heap[b]? =aA (.cells C ty (0,0)))(hn:oP P t=aA n)(v:Value)(hv:v.cells.size=n)(h1:∀u∈v.cells.toList,u.oneCell'=aB)(hfit:off+n<=C.size):
 (Instr.storeAt t (.pointer (aA ⟨b,off,aC⟩)) v).run P w= .ok () (w.setRow b (C.toList.take off++v.cells.toList++C.toList.drop (off+v.cells.toList.length)).toArray):=by simp only[oP,aG]at hn;obtain⟨i,hi,rfl⟩:=hn;have:=run_storeCells_at (P:=P) b off ty v.cells.toList 0 C w hC (by simp;omega) h1;simp only[jL]at this;simp only[Instr.storeAt,Instr.sureAddr,storeVar,sizeOf,typeInfo,bN,dE,bG,run_program,hi,hv];simp[this]
def lO(row vs:List AVal)(c:Nat):List AVal:=row.take c++vs++row.drop (c+vs.length)
theorem aRA{t n id r c:Nat}{x y:Operand}{B:Blk}{row cells:List AVal}{v:AVal}(ho:o.op= .store t x y)(hn:oP P t=aA n)(hx:ev x=aA (.ptr id r c))(hy:ev y=aA v)(hc:vT v=aA cells)
 (hl:cells.length=n) (h1:cells.all one=aB) (hB:get id=aA B) (hrow:B.rows[r]? =aA row) (hfit:c+n<=row.length):
 OpOk P Γ o ev get k ⟨.junk,k,[(id,aA ⟨B.sz,B.pure&&cells.all clean,B.rows.set r (lO row cells c)⟩)],[id]⟩:=by
 intro w G ρ H A a hr hA hf hrd hop next Q hn'
 have hvx:=hop x (by simp[ho,Op.operands]) _ hx;have hvy:=hop y (by simp[ho,Op.operands]) _ hy;obtain⟨B',A',h2,hH,hAA⟩:=hrd id (by simp);rw[hB]at h2;cases h2;obtain⟨hAid,b,hb,hg,hBR⟩:=hr.blk id B A' hH;have hlen:=hBR.len;obtain⟨hcl,hcv⟩:=HO hvy hc;have hrl:=hlen r row hrow;generalize hev:a.eval x=cv at hvx
 cases hvx with
 |dang _ hn=>rw[hb]at hn;cases hn
 |ptr ha hρ hsh=>
  rw[hb]at hρ;cases hρ;obtain⟨⟨C,ty,hC,hrows⟩,_⟩:=hBR.old hsh
  have hone:∀u∈(a.eval y).cells.toList,u.oneCell'=aB:=λ u hu=>by
   obtain⟨j,hj⟩:=oN hu;have hjl:=(aK.1 hj).1;have hjl':j<cells.length:=by simp at hjl;omega
   have h3:=hcv j _ (aJ hjl');have e:(a.eval y).cells.getD j undef=u:=by rw[aI,<-bF,hj];rfl
   rw[e]at h3;exact ZZ h3 (iT h1 (aJ hjl'))
  have hsz:r*B.sz+row.length<=C.size:=by
   by_cases h0:row.length=0
   .have:0<row.length\/row.length=0:=oO
    cases hrw:row with
    |nil=>
     have:n=0:=by rw[hrw]at hfit;simp at hfit;omega
     rw[hrw]at hrl;simp at hrl;rw[<-hrl];simp
    |cons=>rw[hrw]at h0;simp at h0
   have hlast:row[row.length-1]? =aA row[row.length-1]:=aJ oO;obtain⟨cu,h4,_⟩:=hrows r row _ _ hrow hlast;have:=(dA.1 h4).1;omega
  have hrun:=uP (P:=P) (off:=r*B.sz+c) hC hn (a.eval y) oO hone oO;unfold Oper.wp;have hrun':(execOp a.eval o).run P w= .ok .skip (w.setRow b (C.toList.take (r*B.sz+c)++(a.eval y).cells.toList++C.toList.drop (r*B.sz+c+(a.eval y).cells.toList.length)).toArray):=by simp only[execOp,ho,hev];simp[hrun]
  rw[hrun'];have hvl:(a.eval y).cells.toList.length=n:=by simp;omega
  have hseg:=CW (l:=C.toList) (vs:=(a.eval y).cells.toList) (o:=r*B.sz+c) (by simp;omega)
  have hrw:=sX hr hb id (.inl rfl) ⟨B.sz,B.pure&&cells.all clean,B.rows.set r (lO row cells c)⟩ rfl
   (C.toList.take (r*B.sz+c)++(a.eval y).cells.toList++C.toList.drop (r*B.sz+c+(a.eval y).cells.toList.length)).toArray ty A (λ i=>A i\/(k<=i/\i<k)) (.inl rfl) (λ _ h=> .inl h) (.inl (hAA _ hAid))
   (w.setRow b (C.toList.take (r*B.sz+c)++(a.eval y).cells.toList++C.toList.drop (r*B.sz+c+(a.eval y).cells.toList.length)).toArray)
   (setRow_heap w b C _ ty _ hC) (λ j hj=>setRow_other w b j _ hj) (size_setRow _ _ _)
   (by unfold World.shape?;rw[setRow_heap w b C _ ty _ hC,hC];simp;omega)
   rfl rfl rfl ?_ ?_
  .obtain⟨hrel,hst⟩:=hrw
   have hnm:fF (fF ρ id aC) id (aA (b,B.sz))=ρ:=funext λ i=>by
    simp only[fF];split;.rename_i he;rw[he,hb]
    rfl
   rw[hnm]at hrel hst
   have hup:jD H (λ i=>A i\/(k<=i/\i<k)) [(id,aA ⟨B.sz,B.pure&&cells.all clean,B.rows.set r (lO row cells c)⟩),(id,aC)]
    =jD H (λ i=>A i\/(k<=i/\i<k)) [(id,aA ⟨B.sz,B.pure&&cells.all clean,B.rows.set r (lO row cells c)⟩)]:=funext λ i=>by
    simp only[jD];split<;>rfl
   rw[hup]at hrel;exact hn' _ G ρ undef hrel .junk ⟨hst.size,hst.keep,hst.shape,hst.g,hst.g',hst.own,λ i hi=>hst.ids i (.inr rfl),hst.os,hst.tape,hst.output⟩
  .intro r' row' h;simp only[dD]at h;split at h
   .split at h;.cases h;show(lO row cells c).length=B.sz;unfold lO;simp;omega
    cases h
   exact hlen r' row' h
  intro r' row' c' v' h hv';change (B.rows.set r (lO row cells c))[r']? =aA row' at h
  show ∃cv,(C.toList.take (r*B.sz+c)++(a.eval y).cells.toList++C.toList.drop (r*B.sz+c+(a.eval y).cells.toList.length)).toArray[r'*B.sz+c']? =aA cv∧
   V w G (if(B.pure&&cells.all clean)then bS else ρ) (if(B.pure&&cells.all clean)then cI else A) v' cv
  have hc'lt:=(aK.1 hv').1
  have tovb:∀u cu,V w G (if B.pure then bS else ρ) (if B.pure then cI else A') u cu->V w G (if(B.pure&&cells.all clean)then bS else ρ) (if(B.pure&&cells.all clean)then cI else A) u cu:=λ u cu hu=>by
   by_cases hp:B.pure=aB
   .simp only[hp,if_true]at hu;by_cases hq:cells.all clean=aB;.simp only[hp,hq,Bool.and_self,if_true];exact hu
    simp only[hq,KV,aS,if_false];exact hu.weaken
   have hp':B.pure=aE:=by simpa using hp
   simp only[hp',KU,aS,if_false]at hu⊢
   exact hu.mono (λ _ h=>h) (λ _ _=>rfl) (λ _ _=>rfl) hAA (λ _ _=> .inr rfl)
  simp only[dD]at h;rw[cJ,hseg];split at h
  .rename_i hre;subst hre;split at h
   .cases h;unfold lO at hv';have hs2:=CW (l:=row) (vs:=cells) (o:=c) oO c';rw[hs2]at hv';by_cases h3:c'<c;.rw[iP h3]at hv';rw[iP oO];obtain⟨cu,h4,h5⟩:=hrows r row c' v' hrow hv';exact⟨cu,by rw[bF];exact h4,tovb _ _ h5⟩
    rw[iN h3]at hv';by_cases h4:c'<c+cells.length
    .rw[iP h4]at hv';rw[iN oO,iP oO];have e:r*B.sz+c'-(r*B.sz+c)=c'-c:=oO;rw[e];refine⟨(a.eval y).cells.getD (c'-c) undef,?_,?_⟩;.rw[bF];exact yX oO
     have h6:=hcv _ _ hv';by_cases hq:(B.pure&&cells.all clean)=aB;.simp only[hq,if_true];simp only[aH]at hq;exact HH h6 (iT hq.2 hv')
     simp only[hq];exact h6
    rw[iN h4]at hv';rw[iN oO,iN oO];obtain⟨cu,h5,h6⟩:=hrows r row c' v' hrow hv';exact⟨cu,by rw[bF];exact h5,tovb _ _ h6⟩
   cases h
  rename_i hre;obtain⟨cu,h5,h6⟩:=hrows r' row' c' v' h hv';have hl':=hlen r' row' h;have hap:=aMZ (sz:=B.sz) (r:=r) (r':=r') (c:=c) (c':=c') (n:=n) oO oO (λ e=>hre e.symm);refine⟨cu,?_,tovb _ _ h6⟩;rcases hap with h7|h7;.rw[iP h7,bF];exact h5
  rw[iN oO,iN oO,bF];exact h5
theorem BY{s:Nat}:∀ {rows:List (List AVal)},(∀(r:Nat) row,rows[r]? =aA row->row.length=s)->∀(j:Nat) u,rows.flatten[j]? =aA u->∃r row c,rows[r]? =aA row/\row[c]? =aA u/\j=r*s+c
 |[],_,j,u,h=>by simp at h
 |x::rest,hl,j,u,h=>by
  rw[List.flatten_cons,dN]at h;split at h;.exact⟨0,x,j,rfl,h,oO⟩
  rename_i hj;have hx:x.length=s:=hl 0 x rfl;obtain⟨r,row,c,h1,h2,h3⟩:=BY (rows:=rest) (λ r row hr=>hl (r+1) row (by simpa using hr)) (j-x.length) u h;refine⟨r+1,row,c,by simpa using h1,h2,?_⟩;rw[cQ];omega
theorem aAN{t n id:Nat}{x:Operand}{B:Blk}{ag:Bool}{v:AVal}(ho:o.op= .load t x)(ht:jO P t=aA ag)(hn:oP P t=aA n)(hx:ev x=aA (.ptr id 0 0))
 (hB:get id=aA B) (hp:iJ ag n B.rows.flatten 0=aA v):OpOk P Γ o ev get k ⟨v,k,[],[id]⟩:=by
 refine cF λ w G ρ H A a hr hrd hop=>?_;have hvx:=hop x (by simp[ho,Op.operands]) _ hx;obtain⟨B',A',h2,hH,hAA⟩:=hrd id (by simp);rw[hB]at h2;cases h2;obtain⟨_,b,hb,_,hBR⟩:=hr.blk id B A' hH;generalize hev:a.eval x=cv at hvx
 cases hvx with
 |dang _ hn=>rw[hb]at hn;cases hn
 |ptr ha hρ hsh=>
  rw[hb]at hρ;cases hρ;obtain⟨⟨C,ty,hC,hrows⟩,hlen⟩:=hBR.old hsh;have hcell:∀(j:Nat) u,B.rows.flatten[j]? =aA u->w.cell? ⟨b,0*B.sz+j,aC⟩=aA (C.getD (0*B.sz+j) undef):=λ j u hj=>by obtain⟨r,row,c,h3,h4,rfl⟩:=BY hlen j u hj;obtain⟨cv,h5,_⟩:=hrows r row c u h3 h4;rw[qW,fH,cell_of_row w b _ C ty (0,0) hC,h5,aI,h5];rfl
  have hval:∀(j:Nat) u,B.rows.flatten[j]? =aA u->V w G ρ A u (C.getD (0*B.sz+j) undef):=λ j u hj=>by
   obtain⟨r,row,c,h3,h4,rfl⟩:=BY hlen j u hj;obtain⟨cv,h5,h6⟩:=hrows r row c u h3 h4;rw[qW,fH,aI,h5];by_cases hp:B.pure=aB;.simp only[hp,if_true]at h6;exact h6.weaken
   simp only[hp]at h6;exact h6.mono (λ _ h=>h) (λ _ _=>rfl) (λ _ _=>rfl) hAA (λ _ _=> .inr rfl)
  obtain⟨cv,hrun,hV⟩:=xQ (P:=P) ht hn hp (λ j=>C.getD (0*B.sz+j) undef) hcell hval;rw[qW,fH]at hrun hev;exact⟨cv,by simp only[execOp,ho,hev];simp[hrun],hV⟩
theorem VI{t n id:Nat}{x y:Operand}{B:Blk}{cells:List AVal}{v:AVal}(ho:o.op= .store t x y)(hn:oP P t=aA n)(hx:ev x=aA (.ptr id 0 0))(hy:ev y=aA v)(hc:vT v=aA cells)
 (hl:cells.length=n) (h1:cells.all one=aB) (hB:get id=aA B) (hsz0:0<B.sz) (hfit:n=B.rows.length*B.sz):
 OpOk P Γ o ev get k ⟨.junk,k,[(id,aA ⟨B.sz,cells.all clean,oR B.sz B.rows.length cells⟩)],[id]⟩:=by
 intro w G ρ H A a hr hA hf hrd hop next Q hn'
 have hvx:=hop x (by simp[ho,Op.operands]) _ hx;have hvy:=hop y (by simp[ho,Op.operands]) _ hy;obtain⟨B',A',h2,hH,hAA⟩:=hrd id (by simp);rw[hB]at h2;cases h2;obtain⟨hAid,b,hb,hg,hBR⟩:=hr.blk id B A' hH;have hlen:=hBR.len;obtain⟨hcl,hcv⟩:=HO hvy hc;generalize hev:a.eval x=cv at hvx
 cases hvx with
 |dang _ hn=>rw[hb]at hn;cases hn
 |ptr ha hρ hsh=>
  rw[hb]at hρ;cases hρ;obtain⟨⟨C,ty,hC,hrows⟩,_⟩:=hBR.old hsh
  have hone:∀u∈(a.eval y).cells.toList,u.oneCell'=aB:=λ u hu=>by
   obtain⟨j,hj⟩:=oN hu;have hjl:=(aK.1 hj).1;have hjl':j<cells.length:=by simp at hjl;omega
   have h3:=hcv j _ (aJ hjl');have e:(a.eval y).cells.getD j undef=u:=by rw[aI,<-bF,hj];rfl
   rw[e]at h3;exact ZZ h3 (iT h1 (aJ hjl'))
  have hsz:n<=C.size:=by
   cases hR:B.rows.length with
   |zero=>rw[hR]at hfit;simp at hfit;omega
   |succ q=>have hrow:B.rows[q]? =aA (B.rows[q]'oO):=aJ oO;have hrl:=hlen q _ hrow;have hlast:(B.rows[q]'oO)[B.sz-1]? =aA ((B.rows[q]'oO)[B.sz-1]'oO):=aJ oO;obtain⟨cu,h4,_⟩:=hrows q _ _ _ hrow hlast;have:=(dA.1 h4).1;rw[hfit,hR,cQ];omega
  have hrun:=uP (P:=P) (off:=0*B.sz+0) hC hn (a.eval y) oO hone oO;simp only[qW,fH]at hrun;unfold Oper.wp;have hrun':(execOp a.eval o).run P w= .ok .skip (w.setRow b (C.toList.take 0++(a.eval y).cells.toList++C.toList.drop (0+(a.eval y).cells.toList.length)).toArray):=by simp only[execOp,ho,hev,qW,fH,jL];simp at hrun;simp[hrun]
  rw[hrun'];have hvl:(a.eval y).cells.toList.length=n:=by simp;omega
  have hseg:=CW (l:=C.toList) (vs:=(a.eval y).cells.toList) (o:=0) (by simp;omega)
  have hrw:=sX hr hb id (.inl rfl) ⟨B.sz,cells.all clean,oR B.sz B.rows.length cells⟩ rfl
   (C.toList.take 0++(a.eval y).cells.toList++C.toList.drop (0+(a.eval y).cells.toList.length)).toArray ty A (λ i=>A i\/(k<=i/\i<k)) (.inl rfl) (λ _ h=> .inl h) (.inl (hAA _ hAid))
   (w.setRow b (C.toList.take 0++(a.eval y).cells.toList++C.toList.drop (0+(a.eval y).cells.toList.length)).toArray)
   (setRow_heap w b C _ ty _ hC) (λ j hj=>setRow_other w b j _ hj) (size_setRow _ _ _)
   (by unfold World.shape?;rw[setRow_heap w b C _ ty _ hC,hC];simp;omega)
   rfl rfl rfl ?_ ?_
  .obtain⟨hrel,hst⟩:=hrw
   have hnm:fF (fF ρ id aC) id (aA (b,B.sz))=ρ:=funext λ i=>by
    simp only[fF];split;.rename_i he;rw[he,hb]
    rfl
   rw[hnm]at hrel hst
   have hup:jD H (λ i=>A i\/(k<=i/\i<k)) [(id,aA ⟨B.sz,cells.all clean,oR B.sz B.rows.length cells⟩),(id,aC)]
    =jD H (λ i=>A i\/(k<=i/\i<k)) [(id,aA ⟨B.sz,cells.all clean,oR B.sz B.rows.length cells⟩)]:=funext λ i=>by
    simp only[jD];split<;>rfl
   rw[hup]at hrel;exact hn' _ G ρ undef hrel .junk ⟨hst.size,hst.keep,hst.shape,hst.g,hst.g',hst.own,λ i hi=>hst.ids i (.inr rfl),hst.os,hst.tape,hst.output⟩
  .intro r' row' h;exact FA (by rw[hl];exact hfit) h
  intro r' row' c' v' h hv';change (oR B.sz B.rows.length cells)[r']? =aA row' at h
  show ∃cv,(C.toList.take 0++(a.eval y).cells.toList++C.toList.drop (0+(a.eval y).cells.toList.length)).toArray[r'*B.sz+c']? =aA cv∧
   V w G (if(cells.all clean)then bS else ρ) (if(cells.all clean)then cI else A) v' cv
  have h6:=CF h hv';have hlt:=(aK.1 h6).1;rw[cJ,hseg,iN oO,iP oO,iV];refine⟨(a.eval y).cells.getD (r'*B.sz+c') undef,?_,?_⟩;.rw[bF];exact yX oO
  have h7:=hcv _ _ h6;by_cases hq:cells.all clean=aB;.simp only[hq,if_true];exact HH h7 (iT hq h6)
  simp only[hq];exact h7
end
def VL(w:World)(G:Nat->Prop)(ρ:cY)(A:bZ)(cells:List AVal)(cs:Array Value):Prop:=
 cells.length=cs.size/\∀(j:Nat) v,cells[j]? =aA v->V w G ρ A v (cs.getD j undef)
def EJ(place:Nat->Option (Nat×Nat))(cells:List AVal):List (Nat×AVal)->Option (List AVal)
 |[]=>aA cells
 | (i,v)::rest=>match place i,vT v with
   |some (off,size),aA vs=>if vs.length=size/\off+size<=cells.length then EJ place (lO cells vs off) rest else aC
   |_,_=>aC
theorem aBL(off:Nat):∀(l:List Value) (start:Nat) (cs:Array Value),
 ((l.zipIdx start).foldl (λ(cs:Array Value) (x:Value×Nat)=>cs.setIfInBounds (off+x.2) x.1) cs).size=cs.size∧
 ∀ i,((l.zipIdx start).foldl (λ(cs:Array Value) (x:Value×Nat)=>cs.setIfInBounds (off+x.2) x.1) cs)[i]? =
   if off+start<=i/\i<off+start+l.length/\i<cs.size then l[i-off-start]? else cs[i]?
 |[],start,cs=>by refine⟨rfl,λ i=>?_⟩;rw[iN (by simp;omega)];rfl
 |x::r,start,cs=>by
  obtain⟨h1,h2⟩:=aBL off r (start+1) (cs.setIfInBounds (off+start) x);simp only[List.zipIdx_cons,List.foldl_cons];refine⟨by rw[h1];simp,λ i=>?_⟩;rw[h2];by_cases hi:i=off+start
  .subst hi;rw[iN oO];by_cases hs:off+start<cs.size;.rw[iP ⟨oO,by simp,hs⟩,qZ hs];have:off+start-off-start=0:=oO;rw[this];rfl
   rw[iN oO,iD (by simp;omega),iD oO]
  rw[lH (λ e=>hi e.symm)];by_cases hc:off+start<=i/\i<off+start+(x::r).length/\i<cs.size;.rw[iP hc,iP ⟨oO,by simp at hc;omega,by simp;omega⟩];have e:i-off-start=(i-off-(start+1))+1:=oO;rw[e,fM]
  rw[iN hc,iN (by simp at hc⊢;omega)]
theorem WZ{w:World}{G:Nat->Prop}{ρ:cY}{A:bZ}(place:Nat->Option (Nat×Nat)):∀(parts:List (Nat×AVal)) (cparts:List (Nat×Value)) (cells cells':List AVal) (cs:Array Value),VL w G ρ A cells cs→
 parts.length=cparts.length->(∀(j:Nat) p cp,parts[j]? =aA p->cparts[j]? =aA cp->p.1=cp.1/\V w G ρ A p.2 cp.2)->EJ place cells parts=aA cells'→
 ∃cs',Instr.fill place cs cparts=aA cs'/\VL w G ρ A cells' cs'
 |[],cparts,cells,cells',cs,hv,hl,hp,hf=>by
  cases cparts with
  |nil=>cases hf;exact⟨cs,rfl,hv⟩
  |cons=>simp at hl
 |(i,v)::rest,cparts,cells,cells',cs,hv,hl,hp,hf=>by
  cases cparts with
  |nil=>simp at hl
  |cons cp crest=>
   obtain⟨i',cv⟩:=cp;obtain⟨he,hV⟩:=hp 0 _ _ rfl rfl;simp only at he hV;subst he;simp only[EJ]at hf;split at hf
   .rename_i off size vs h1 h2;split at hf
    .rename_i hc;obtain⟨h3,h4⟩:=HO hV h2;have hfold:=aBL off cv.cells.toList 0 cs;simp only[jL,iV]at hfold
     have hvl:VL w G ρ A (lO cells vs off) (cv.cells.zipIdx.foldl (λ(cs:Array Value) (x:Value×Nat)=>cs.setIfInBounds (off+x.2) x.1) cs):=by
      rw[<-Array.foldl_toList,Array.toList_zipIdx];refine⟨by rw[hfold.1,<-hv.1];unfold lO;simp;omega,λ j u hj=>?_⟩;unfold lO at hj;rw[CW oO]at hj;rw[aI,hfold.2];by_cases h5:j<off;.rw[iP h5]at hj;rw[iN oO,<-aI];exact hv.2 j u hj
      rw[iN h5]at hj;by_cases h6:j<off+vs.length;.rw[iP h6]at hj;rw[iP ⟨oO,by simp;omega,by rw[<-hv.1];omega⟩,bF,<-aI];exact h4 _ u hj
      rw[iN h6]at hj;rw[iN (by simp;omega),<-aI];exact hv.2 j u hj
     obtain⟨cs',h5,h6⟩:=WZ place rest crest _ cells' _ hvl (by simpa using hl) (λ j p cp hj hcj=>hp (j+1) p cp (by simpa using hj) (by simpa using hcj)) hf;refine⟨cs',?_,h6⟩;simp only[Instr.fill,h1];rw[iN (by simp;rw[<-hv.1];omega)];exact h5
    cases hf
   cases hf
def mP(ev:Operand->Option AVal):List (Nat×Operand)->Option (List (Nat×AVal))
 |[]=>aA []
 | (i,x)::r=>match ev x,mP ev r with
   |some v,aA vs=>aA ((i,v)::vs)
   |_,_=>aC
theorem GV{ev:Operand->Option AVal}:∀ {ps:List (Nat×Operand)} {vs:List (Nat×AVal)},mP ev ps=aA vs->vs.length=ps.length/\∀(j:Nat) v p,vs[j]? =aA v->ps[j]? =aA p->v.1=p.1/\ev p.2=aA v.2
 |[],vs,h=>by cases h;exact⟨rfl,λ j v p hv=>by simp at hv⟩
 |(i,x)::r,vs,h=>by
  simp only[mP]at h;split at h
  .rename_i v vs' h1 h2;cases h;obtain⟨h3,h4⟩:=GV h2;refine⟨by simp[h3],λ j u p hu hp=>?_⟩
   cases j with
   |zero=>cases hu;cases hp;exact⟨rfl,h1⟩
   |succ j=>exact h4 j u p (by simpa using hu) (by simpa using hp)
  cases h
def kK(P:Program)(t:TypeId):Option (Array (Nat×Nat)):=
 match P.underlying t with
 |some (.struct fields)=>LT P (fields.mapM λ f=>do pure (f.offset,<-sizeOf f.type))
 |some (.array n e)=>(oP P e).map λ s=>(Array.range n).map λ i=>(i*s,s)
 |_=>aC
section
variable{P:Program}{Γ:dL}{o:Oper}{ev:Operand->Option AVal}{get:Nat->Option Blk}{k:Nat}
theorem JT{t:Nat}{cells:List AVal}(h:iY P t=aA cells):∃i z,P.info? t=aA i/\i.zero=aA z/\cells=z.cells.toList.map .lit:=by simp only[iY,aG,cE]at h;obtain⟨z,⟨i,hi,hz⟩,rfl⟩:=h;exact⟨i,z,hi,hz,rfl⟩
theorem YB{w:World}{G:Nat->Prop}{ρ:cY}{A:bZ}(cs:Array Value):VL w G ρ A (cs.toList.map .lit) cs:=by
 refine⟨by simp,λ j u hj=>?_⟩;simp only[aP,aG]at hj;obtain⟨x,hx,rfl⟩:=hj;have:cs.getD j undef=x:=by rw[aI,<-bF,hx];rfl
 rw[this];exact .lit
theorem WA{w:World}{G:Nat->Prop}{ρ:cY}{A:bZ}{a:Act}{parts:Array (Nat×Operand)}{vs:List (Nat×AVal)}(he:mP ev parts.toList=aA vs)
 (hop:∀x,x∈(parts.toList.map (·.2)).toArray->∀v,ev x=aA v->V w G ρ A v (a.eval x)):
 vs.length=(parts.map λ(p:Nat×Operand)=>(p.1,a.eval p.2)).toList.length/\∀(j:Nat) p cp,vs[j]? =aA p->(parts.map λ(p:Nat×Operand)=>(p.1,a.eval p.2)).toList[j]? =aA cp->p.1=cp.1/\V w G ρ A p.2 cp.2:=by obtain⟨h1,h2⟩:=GV he;refine⟨by simp[h1],λ j p cp hp hcp=>?_⟩;simp only[Array.toList_map,aP,aG]at hcp;obtain⟨q,hq,rfl⟩:=hcp;obtain⟨h3,h4⟩:=h2 j p q hp hq;exact⟨h3,hop q.2 (by simp only[List.mem_toArray,dB];exact⟨q,iG hq,rfl⟩) _ h4⟩
theorem aXC{t:Nat}{parts:Array (Nat×Operand)}{vs:List (Nat×AVal)}{cells cells':List AVal}{pl:Array (Nat×Nat)}(ho:o.op= .build t parts)(hz:iY P t=aA cells)(hpl:kK P t=aA pl)
 (hs:∃fields,P.underlying t=aA (.struct fields)) (he:mP ev parts.toList=aA vs) (hf:EJ (pl[·]?) cells vs=aA cells'):OpOk P Γ o ev get k ⟨.agg cells',k,[],[]⟩:=by refine cF λ w G ρ H A a hr _ hop=>?_;obtain⟨i,z,hi,hzz,rfl⟩:=JT hz;obtain⟨fields,hu⟩:=hs;simp only[kK,hu]at hpl;have hpl':=ZR P w _ _ hpl;obtain⟨h1,h2⟩:=WA (w:=w) (G:=G) (ρ:=ρ) (A:=A) (a:=a) he (λ x hx v hv=>hop x (by simpa [ho,Op.operands]using hx) v hv);obtain⟨cs',h3,h4⟩:=WZ (pl[·]?) vs _ _ cells' z.cells (YB z.cells) h1 h2 hf;refine⟨.agg cs',?_,.agg h4.1 h4.2⟩;simp only[execOp,ho,Instr.build,zeroValue,typeInfo,bN,run_program,bG,hi,dE,hzz,underlying,hu,hpl',h3]
theorem XQ{t n e s:Nat}{parts:Array (Nat×Operand)}{vs:List (Nat×AVal)}{cells cells':List AVal}(ho:o.op= .build t parts)(hz:iY P t=aA cells)(hu:P.underlying t=aA (.array n e))
 (hs:oP P e=aA s) (he:mP ev parts.toList=aA vs) (hf:EJ (λ i=>aA (i*s,s)) cells vs=aA cells'):OpOk P Γ o ev get k ⟨.agg cells',k,[],[]⟩:=by refine cF λ w G ρ H A a hr _ hop=>?_;obtain⟨i,z,hi,hzz,rfl⟩:=JT hz;simp only[oP,aG]at hs;obtain⟨inf,hinf,rfl⟩:=hs;obtain⟨h1,h2⟩:=WA (w:=w) (G:=G) (ρ:=ρ) (A:=A) (a:=a) he (λ x hx v hv=>hop x (by simpa [ho,Op.operands]using hx) v hv);obtain⟨cs',h3,h4⟩:=WZ (λ i=>aA (i*inf.size,inf.size)) vs _ _ cells' z.cells (YB z.cells) h1 h2 hf;refine⟨.agg cs',?_,.agg h4.1 h4.2⟩;simp only[execOp,ho,Instr.build,zeroValue,typeInfo,bN,run_program,bG,hi,dE,hzz,underlying,hu,sizeOf,hinf,h3]
theorem RN{t len s by':Nat}{parts:Array (Nat×Operand)}{vs:List (Nat×AVal)}{zrow cells':List AVal}(ho:o.op= .buildSlice t len parts)(hz:gV P t=aA (s,by',zrow))
 (hsmall:len*s<=16777216) (he:mP ev parts.toList=aA vs) (hf:EJ (λ i=>aA (i*s,s)) (bE len zrow).flatten vs=aA cells') (hlen:cells'.length=len*s):
 OpOk P Γ o ev get k ⟨.sl k 0 len,k+1,[(k,aA ⟨s,cells'.all clean,oR s len cells'⟩)],[]⟩:=by
 refine HV (cells:=cells') ⟨λ r row hr=>FA hlen hr,λ r row c v hr hc=>CF hr hc⟩ (λ h=>h) λ w G ρ H A a hr _ hop=>?_;unfold gV at hz;split at hz
 .rename_i e hu;split at hz
  .rename_i i hi;split at hz
   .rename_i z hzz;split at hz
    .rename_i hsz;cases hz;obtain⟨h1,h2⟩:=WA (w:=w) (G:=G) (ρ:=ρ) (A:=A) (a:=a) he (λ x hx v hv=>hop x (by simpa [ho,Op.operands]using hx) v hv)
     have hmade:(madeCells z.cells (len*i.size)).toList.map AVal.lit=(bE len (z.cells.toList.map AVal.lit)).flatten:=by
      apply dZ;intro j;by_cases hj:j<len*i.size
      .have hc:j%i.size<i.size:=Nat.mod_lt _ hsz.2;have hr':j/i.size<len:=aDJ (by rw[iW];exact hj);have e0:j=(j/i.size)*i.size+j%i.size:=by have:=EB j i.size;rw[iW]at this;omega
       rw[aP,bF];have e1:=EH (n:=len) hsz.1 hsz.2 hr' hc;rw[<-e0]at e1;rw[e1]
       have:∀(m:Nat) (row:List AVal) (r c:Nat),c<row.length->r<m->(bE m row).flatten[r*row.length+c]? =row[c]? :=by
        intro m
        induction m with
        |zero=>intro row r c _ h;omega
        |succ m ih=>
         intro row r c hc' hr'';rw[List.replicate_succ,List.flatten_cons]
         cases r with
         |zero=>rw[gP oO];simp
         |succ r=>
          rw[iK (by rw[cQ];omega)];have:(r+1)*row.length+c-row.length=r*row.length+c:=by rw[cQ];omega
          rw[this];exact ih row r c hc' oO
       have e2:=this len (z.cells.toList.map AVal.lit) (j/i.size) (j%i.size) (by simp[hsz.1];exact hc) hr';simp only[cX,pU,hsz.1]at e2;rw[<-e0]at e2;rw[e2,aP,bF]
      rw[aX (by simp[size_madeCells];omega),aX (by simp[hsz.1];omega)]
     obtain⟨cs',h3,h4⟩:=WZ (λ j=>aA (j*i.size,i.size)) vs _ _ cells' (madeCells z.cells (len*i.size)) (by rw[<-hmade];exact YB _) h1 h2 hf;have hsm:¬(len*i.size>2^24):=oO;refine⟨cs',e,w,.slice (aA ⟨w.heap.size,0,aC⟩) len len,?_,rfl,rfl,rfl,rfl,λ j u hj=>?_,.inr ⟨len,len,rfl,rfl,aF _,?_,by rw[<-h4.1,hlen];exact aF _⟩⟩
     .by_cases h0:len*i.size=0
      .have hm0:madeCells z.cells (len*i.size)=(Array.range (len*i.size)).map ((#[]:Array Value)[· %0]!):=by rw[h0];simp[madeCells]
       rw[hm0]at h3;simp[execOp,ho,Instr.buildSlice,underlying,hu,sizeOf,typeInfo,hi,h0,newRow]at h3⊢
       rw[h3];simp
      simp[execOp,ho,Instr.buildSlice,underlying,hu,sizeOf,typeInfo,hi,hsm,h0,zeroValue,hzz,newRow,madeCells]at h3⊢
      rw[h3];simp
     .have hlt:=(aK.1 hj).1;exact⟨_,yX (by rw[<-h4.1];exact hlt),h4.2 j u hj⟩
     have:len*1<=len*i.size:=Nat.mul_le_mul_left len hsz.2;unfold maxLen;omega
    cases hz
   cases hz
  cases hz
 cases hz
end
theorem HRel.drop {Γ:dL}{w:World}{G:Nat->Prop}{ρ:cY}{H:lU}(h:HRel Γ w G ρ H)(id:Nat)(A:bZ):
 HRel Γ w G (fF ρ id aC) (jD H A [(id,aC)])/\∀S,Step S w G ρ w G (fF ρ id aC):=by
 have hs:∀S:bZ,Step S w G ρ w G (fF ρ id aC):=λ S=>by
  refine⟨aF _,λ _ _ _=>rfl,λ _ _=>rfl,λ _ h=>h,λ _ h=> .inl h,?_,?_,rfl,rfl,rfl⟩
  .rintro b ⟨i,s,hb⟩;simp only[fF]at hb;split at hb;.cases hb
   exact .inl ⟨i,s,hb⟩
  intro i _;simp only[fF];split;.exact .inl rfl
  exact .inr rfl
 refine⟨h.after (hs (λ _=>True)) _ ?_ ?_ ?_ h.ro,hs⟩
 .intro i hi;simp only[jD]at hi;simp only[fF];split at hi;.rename_i he;rw[iP he]
  rename_i he;rw[iN he];exact h.dom i hi
 .intro i B A1 hi;simp only[jD]at hi;split at hi;.cases hi
  rename_i he;obtain⟨hA,b,hb,hg,_⟩:=h.blk i B A1 hi;exact⟨hA,.inl ⟨A1,b,hi,λ _ h=>h,λ _ _=>trivial,by simp[fF,he],hb,rfl,hg⟩⟩
 intro i j b s t hi hj;simp only[fF]at hi hj;split at hi;.cases hi
 split at hj;.cases hj
 exact h.inj i j b s t hi hj
section
variable{P:Program}{Γ:dL}{o:Oper}{ev:Operand->Option AVal}{get:Nat->Option Blk}{k:Nat}
theorem xG(w:World)(t ty e:TypeId)(i:TypeInfo)(ht:P.underlying t=aA (.slice e))(hi:P.info? e=aA i)
 (g sLen sCap:Nat) (cur:Array Value) (ety:TypeId) (hg:w.heap[g]? =aA (.cells cur ety (0,0)))
 (a:Addr) (m c:Nat) (news:List Value) (hl:news.length=m*i.size) (hnews:∀j u,news[j]? =aA u->w.cell? (a.add j)=aA u) (h1:∀u∈news,u.oneCell'=aB)
 (hroom:sLen+m<=sCap) (hfit:sLen*i.size+news.length<=cur.size):
 (Builtin.append_ #[t,t] ty #[.slice (aA ⟨g,0,aC⟩) sLen sCap,.slice (aA a) m c]).run P w=
   .ok (.slice (aA ⟨g,0,aC⟩) (sLen+m) sCap) (w.setRow g (cur.toList.take (sLen*i.size)++news++cur.toList.drop (sLen*i.size+news.length)).toArray):=by have hf:=run_firstCells_some (P:=P) w i.size m a m c news hl hnews;have hst:=run_storeCells_at (P:=P) g (sLen*i.size) ety news 0 cur w hg (by simpa using hfit) h1;simp only[jL]at hst;simp[Builtin.append_,run_underlying ht,sizeOf,typeInfo,hi,Builtin.lenOf,hroom,hf,Addr.add_lit,hst]
structure Src (w:World) (G:Nat->Prop) (ρ:cY) (A:bZ) (s m:Nat) (rows:List (List AVal)) (pure:Bool) (cv:Value):Prop where
 len:rows.length=m
 rlen:∀(r:Nat) row,rows[r]? =aA row->row.length=s
 ex:0<m->∃b off cap,cv= .slice (aA ⟨b,off,aC⟩) m cap/\∃gv:Nat->Nat->Value,∀r row c v,rows[r]? =aA row->row[c]? =aA v→
  w.cell? ⟨b,off+r*s+c,aC⟩=aA (gv r c)/\V w G (if pure then bS else ρ) (if pure then cI else A) v (gv r c)
def news(s m:Nat)(gv:Nat->Nat->Value):List Value:=(aN (m*s)).map λ j=>gv (j/s) (j%s)
theorem uR(s m:Nat)(gv:Nat->Nat->Value):(news s m gv).length=m*s:=by simp[news]
theorem pZ{s m:Nat}{gv:Nat->Nat->Value}{r c:Nat}(hr:r<m)(hc:c<s):(news s m gv)[r*s+c]? =aA (gv r c):=by
 have hlt:r*s+c<m*s:=by have:(r+1)*s<=m*s:=cC s hr;rw[cQ]at this;omega
 unfold news;rw[aP,mG hlt];have h1:(r*s+c)%s=c:=by rw[bKT,Nat.add_mul_mod_self_right];exact JP hc
 have h2:(r*s+c)/s=r:=by rw[bKT,Nat.add_mul_div_right _ _ oO,Nat.div_eq_of_lt hc];omega
 simp[h1,h2]
theorem sA{s m:Nat}{gv:Nat->Nat->Value}{j:Nat}{u:Value}(h:(news s m gv)[j]? =aA u)(hs:0<s):j/s<m/\j%s<s/\u=gv (j/s) (j%s):=by unfold news at h;rw[aP]at h;simp only[aG]at h;obtain⟨i,hi,rfl⟩:=h;obtain⟨hlt,he⟩:=aK.1 hi;simp at he hlt;subst he;exact⟨aDJ (by rw[iW];exact hlt),Nat.mod_lt _ hs,rfl⟩
theorem wM{rows:List (List AVal)}{s r c:Nat}(hl:∀(r:Nat) row,rows[r]? =aA row->row.length=s)(hr:r<rows.length)(hc:c<s):∃row v,rows[r]? =aA row/\row[c]? =aA v:=by have h1:rows[r]? =aA rows[r]:=aJ hr;have h2:=hl r _ h1;exact⟨rows[r],rows[r][c]'oO,h1,aJ oO⟩
def LS(rows:List (List AVal)):Prop:=∀(r:Nat) row (c:Nat) v,rows[r]? =aA row->row[c]? =aA v->one v=aB
theorem KQ{t s by' n m:Nat}{x y:Operand}{zrow:List AVal}{olds src:List (List AVal)}{pd ps:Bool}{rds:List Nat}{idd:Option Nat}
 (ho:o.op= .call {callee:= .builtin .append,args:= #[x,y],argTypes:= #[t,t]}) (hz:gV P t=aA (s,by',zrow)) (hm:0<m) (hlen:n+m<=9223372036854775807) (hby:(n+m)*by'<=140737488355328)
 (hone:LS src) (hidk:∀id,idd=aA id->id<k)
 (hdst:∀w G ρ H (A:bZ) (a:Act),HRel Γ w G ρ H->(∀id,id∈rds->∃B A',get id=aA B/\H id=aA (B,A')/\∀i,A' i->A i)->(∀x,x∈o.op.operands->∀v,ev x=aA v->V w G ρ A v (a.eval x))→
   (idd=aC/\n=0/\olds=[]/\a.eval x= .slice aC 0 0)∨
   (∃id B A',idd=aA id/\H id=aA (B,A')/\(∀i,A' i->A i)/\B.sz=s/\B.pure=pd/\B.rows=olds/\olds.length=n/\V w G ρ A (.sl id 0 n) (a.eval x)))
 (hsrc:∀w G ρ H (A:bZ) (a:Act),HRel Γ w G ρ H->(∀id,id∈rds->∃B A',get id=aA B/\H id=aA (B,A')/\∀i,A' i->A i)->(∀x,x∈o.op.operands->∀v,ev x=aA v->V w G ρ A v (a.eval x))→
   Src w G ρ A s m src ps (a.eval y)):
 OpOk P Γ o ev get k ⟨.sl k 0 (n+m),k+1,(k,aA ⟨s,(idd.isNone||pd)&&ps,olds++src⟩)::(match idd with|some id=>[(id,aC)]|none=>[]),rds⟩:=by
 unfold gV at hz;split at hz;case h_2=>cases hz
 rename_i e hu;split at hz;case h_2=>cases hz
 rename_i i hi;split at hz;case h_2=>cases hz
 rename_i z hzz;split at hz;case isFalse=>cases hz
 rename_i hsz;cases hz;intro w G ρ H A a hr hA hf hrd hop next Q hn
 have hkA:¬A k:=λ hk=>qR _ (hA k hk);obtain⟨hρk,hfr⟩:=hf k (aF _) (cW _);obtain⟨hsl,hsrl,hsex⟩:=hsrc w G ρ H A a hr hrd hop;obtain⟨sb,soff,scap,hsv,gv,hgv⟩:=hsex hm;have hnl:=uR i.size m gv
 have hcells:∀j u,(news i.size m gv)[j]? =aA u->w.cell? ((⟨sb,soff,aC⟩:Addr).add j)=aA u:=λ j u hj=>by
  obtain⟨h1,h2,rfl⟩:=sA hj hsz.2;obtain⟨row,v,h3,h4⟩:=wM hsrl (by omega:j/i.size<src.length) h2;have h5:=(hgv _ row _ v h3 h4).1;rw[Addr.add_mid,<-h5];have:soff+j=soff+j/i.size*i.size+j%i.size:=by have:=EB j i.size;rw[iW]at this;omega
  rw[this]
 have hone':∀u∈news i.size m gv,u.oneCell'=aB:=λ u hu=>by obtain⟨j,hj⟩:=oN hu;obtain⟨h1,h2,rfl⟩:=sA hj hsz.2;obtain⟨row,v,h3,h4⟩:=wM hsrl (by omega:j/i.size<src.length) h2;exact ZZ (hgv _ row _ v h3 h4).2 (hone _ row _ v h3 h4)
 have hrowlen:∀(hol:∀(r:Nat) row,olds[r]? =aA row->row.length=i.size) (r:Nat) row,(olds++src)[r]? =aA row->row.length=i.size:=λ hol r row h=>by
  rw[dN]at h;split at h;.exact hol r row h
  exact hsrl _ row h
 have hnewV:∀(pp:Bool) (v:AVal) (cv:Value),(pp=aB->ps=aB)->V w G (if ps then bS else ρ) (if ps then cI else A) v cv->V w G (if pp then bS else ρ) (if pp then cI else A) v cv:=λ pp v cv hp h=>by
  cases ps with
  |true=>
   cases pp with
   |true=>simpa using h
   |false=>simp only[if_true]at h;simp only[aS,if_false];exact h.weaken
  |false=>cases pp with
   |true=>exact absurd (hp rfl) (by simp)
   |false=>simpa using h
 have hval:∀cv w',((execOp a.eval o).run P w= .ok (.value cv) w')=((Builtin.append_ #[t,t] o.type #[a.eval x,.slice (aA ⟨sb,soff,aC⟩) m scap]).run P w= .ok cv w'):=λ cv w'=>by simp only[execOp,ho,resolve,invoke,builtin];simp only[yH,bI,bQ,bN,dE,bG,hsv];cases(Builtin.append_ #[t,t] o.type #[a.eval x,.slice (aA ⟨sb,soff,aC⟩) m scap]).run P w<;>simp[aID]
 rcases hdst w G ρ H A a hr hrd hop with⟨rfl,rfl,rfl,hxv⟩|⟨id,B,A',rfl,hH,hAA,hBs,rfl,rfl,rfl,hV⟩
 .have hrun:=run_append_nil (P:=P) w t o.type e i z hu hi hzz ⟨sb,soff,aC⟩ m scap (news i.size m gv) hnl hcells hm oO (by have:(0+m)*i.bytes<=140737488355328:=hby;rw[fH]at this;omega);rw[<-hxv]at hrun;have hrun':=(hval _ _).mpr hrun;unfold Oper.wp;rw[hrun'];have hge:=grownCap_ge w m 0 e;have hcm:=grownCap_le_maxLen w m 0 e (by unfold maxLen;omega)
  have hrel:=hr.alloc k hρk hfr ⟨i.size,(oC (aC:Option Nat)||pd)&&ps,([]:List (List AVal))++src⟩ ((news i.size m gv).toArray++Builtin.zeroCells z.cells (grownCap w m 0 e-m)) e A (λ i=>A i\/(k<=i/\i<k+1)) hkA (λ _ h=> .inl h) (.inr ⟨aF _,cW _⟩)
   (λ r row h=>hsrl r row (by simpa using h))
   (λ r row c v h1 h2=>by
     simp only[aU]at h1;have hc:c<i.size:=by have:=(aK.1 h2).1;have:=hsrl r row h1;omega
     have hrm:r<m:=by have:=(aK.1 h1).1;omega
     refine⟨gv r c,?_,hnewV _ v _ (by simp) (hgv r row c v h1 h2).2⟩;rw[fV (by have:=pZ (gv:=gv) hrm hc;have:=(aK.1 this).1;simpa using this),cJ]
     exact pZ hrm hc)
   w.drew rfl rfl rfl rfl
  have hst:=lY (w:=w) (G:=G) (ρ:=ρ) k i.size (.cells ((news i.size m gv).toArray++Builtin.zeroCells z.cells (grownCap w m 0 e-m)) e) w.drew rfl rfl rfl rfl;refine hn _ G _ _ hrel ?_ ⟨hst.size,hst.keep,hst.shape,hst.g,hst.g',hst.own,λ id hid=>hst.ids id (λ he=>hid (oO:k<=id/\id<k+1)),hst.os,hst.tape,hst.output⟩;simp only[fH];refine .sl (b:=w.heap.size) (s:=i.size) (ty:=e) (m:=((news i.size m gv).toArray++Builtin.zeroCells z.cells (grownCap w m 0 e-m)).size) (.inr ⟨aF _,cW _⟩) (by simp[fF]) ?_ ?_ hge hcm (.inr (by simp));.have:=iU w.drew (.cells ((news i.size m gv).toArray++Builtin.zeroCells z.cells (grownCap w m 0 e-m)) e);have e1:w.drew.heap.size=w.heap.size:=rfl;rw[e1]at this;unfold World.shape?;rw[this]
  rw[ED,fZ,hnl,size_zeroCells,hsz.1,<-cQ];exact cC _ oO
 have hidk':=hidk id rfl;obtain⟨hAid,b,hb,hg,⟨⟨C,_,⟨hC0,hH0⟩,hrows⟩,hbl⟩⟩:=hr.blk id B A' hH;have hsB:B.sz=i.size:=hBs
 have hnC:B.rows.length*i.size<=C.size:=by
  by_cases h0:B.rows.length=0;.rw[h0];simp
  obtain⟨row,v,h1,h2⟩:=wM (s:=i.size) (r:=B.rows.length-1) (c:=i.size-1) (λ r row h=>by rw[<-hsB];exact hbl r row h) oO oO;obtain⟨cu,h3,_⟩:=hrows _ row _ v h1 h2;have h4:=(dA.1 h3).1;rw[hsB]at h4;have:B.rows.length*i.size=(B.rows.length-1)*i.size+i.size:=by have e1:B.rows.length=(B.rows.length-1)+1:=oO;rw[e1,cQ];simp
  omega
 have holdV:∀(pp:Bool) (v:AVal) (cv:Value),(pp=aB->B.pure=aB)->V w G (if B.pure then bS else ρ) (if B.pure then cI else A') v cv->V w G (if pp then bS else ρ) (if pp then cI else A) v cv:=λ pp v cv hp h=>by
  cases hbp:B.pure with
  |true=>
   rw[hbp]at h
   cases pp with
   |true=>simpa using h
   |false=>simp only[if_true]at h;simp only[aS,if_false];exact h.weaken
  |false=>
   rw[hbp]at h hp
   cases pp with
   |true=>exact absurd (hp rfl) (by simp)
   |false=>simp only[aS,if_false]at h⊢;exact h.mono (λ _ h=>h) (λ _ _=>rfl) (λ _ _=>rfl) hAA (λ _ _=> .inr rfl)
 generalize hev:a.eval x=cvx at hV hval;generalize hbn:B.rows.length=bn at hV
 cases hV with
 |dangs _ hnn=>rw[hb]at hnn;cases hnn
 |sl0 ha hρ=>
  have hb0:B.rows.length=0:=hbn;have hrl:B.rows=[]:=a5B.1 hb0;have hrun:=run_append_nil (P:=P) w t o.type e i z hu hi hzz ⟨sb,soff,aC⟩ m scap (news i.size m gv) hnl hcells hm oO (by have:(0+m)*i.bytes<=(B.rows.length+m)*i.bytes:=cC _ oO;rw[fH]at this;omega);have hrun':=(hval _ _).mpr hrun;unfold Oper.wp;rw[hrun'];have hge:=grownCap_ge w m 0 e;have hcm:=grownCap_le_maxLen w m 0 e (by unfold maxLen;omega);obtain⟨hrd0,hsd⟩:=hr.drop id (λ i=>A i\/(k<=i/\i<k+1));have hρ0:∀v cv,V w G ρ A v cv->V w G (fF ρ id aC) A v cv:=λ v cv h=>h.mono (λ _ h=>h) (λ _ _=>rfl) (λ _ _=>rfl) (λ _ h=>h) (λ j _=>(hsd A).ids j ‹_›)
  have hVd:∀(pp:Bool) v cv,V w G (if pp then bS else ρ) (if pp then cI else A) v cv->V w G (if pp then bS else fF ρ id aC) (if pp then cI else A) v cv:=λ pp v cv h=>by
   cases pp with
   |true=>simpa using h
   |false=>simp only[aS,if_false]at h⊢;exact hρ0 v cv h
  have hrel:=hrd0.alloc k (by simp only[fF];split<;>simp_all) (λ j B1 A1 hj=>by
   simp only[jD]at hj;split at hj;.cases hj
   exact hfr j B1 A1 hj) ⟨i.size,(oC (aA id)||B.pure)&&ps,B.rows++src⟩
   ((news i.size m gv).toArray++Builtin.zeroCells z.cells (grownCap w m 0 e-m)) e A (λ i=>A i\/(k<=i/\i<k+1)) hkA (λ _ h=> .inl h) (.inr ⟨aF _,cW _⟩)
   (hrowlen (λ r row h=>by rw[<-hsB];exact hbl r row h))
   (λ r row c v h1 h2=>by
     have h1':(B.rows++src)[r]? =aA row:=h1;rw[hrl,aU]at h1';have hc:c<i.size:=by have:=(aK.1 h2).1;have:=hsrl r row h1';omega
     have hrm:r<m:=by have:=(aK.1 h1').1;omega
     have h9:=pZ (gv:=gv) hrm hc;refine⟨gv r c,?_,hVd _ v _ (hnewV _ v _ (by simp) (hgv r row c v h1' h2).2)⟩;rw[fV (by have:=(aK.1 h9).1;simpa using this),cJ];exact h9)
   w.drew rfl rfl rfl rfl
  have hst:=(hsd (λ j=>j≠k)).trans (lY (w:=w) (G:=G) (ρ:=fF ρ id aC) k i.size (.cells ((news i.size m gv).toArray++Builtin.zeroCells z.cells (grownCap w m 0 e-m)) e) w.drew rfl rfl rfl rfl) (λ _ h=>h)
  have hup:jD (jD H (λ i=>A i\/(k<=i/\i<k+1)) [(id,aC)]) (λ i=>A i\/(k<=i/\i<k+1)) [(k,aA ⟨i.size,(oC (aA id)||B.pure)&&ps,B.rows++src⟩)]
   =jD H (λ i=>A i\/(k<=i/\i<k+1)) [(k,aA ⟨i.size,(oC (aA id)||B.pure)&&ps,B.rows++src⟩),(id,aC)]:=rfl
  rw[hup]at hrel;refine hn _ G _ _ hrel ?_ ⟨hst.size,hst.keep,hst.shape,hst.g,hst.g',hst.own,λ j hj=>hst.ids j (λ he=>hj (oO:k<=j/\j<k+1)),hst.os,hst.tape,hst.output⟩;have e0:B.rows.length+m=m:=oO;show V _ G _ (λ i=>A i\/(k<=i/\i<k+1)) (AVal.sl k 0 (B.rows.length+m)) _;rw[e0];refine .sl (b:=w.heap.size) (s:=i.size) (ty:=e) (m:=((news i.size m gv).toArray++Builtin.zeroCells z.cells (grownCap w m 0 e-m)).size) (.inr ⟨aF _,cW _⟩) (by simp[fF]) ?_ ?_ hge hcm (.inr (by simp));.have:=iU w.drew (.cells ((news i.size m gv).toArray++Builtin.zeroCells z.cells (grownCap w m 0 e-m)) e);have e1:w.drew.heap.size=w.heap.size:=rfl;rw[e1]at this;unfold World.shape?;rw[this]
  rw[ED,fZ,hnl,size_zeroCells,hsz.1,<-cQ];exact cC _ oO
 |sl ha hρ hsh hm1 hn1 hc1 hoff=>
  subst hbn;rw[hb]at hρ;cases hρ;rename_i ty ms cap off;have hC:w.heap[b]? =aA (.cells C ty (0,0)):=by rw[hC0,hH0.shaped hC0 hsh]
  have hsC:ms=C.size:=by unfold World.shape? at hsh;rw[hC]at hsh;simp at hsh;exact hsh.symm
  subst hsC;by_cases hroom:B.rows.length+m<=cap
  .have hoff':off=0:=by rcases hoff with h|h;· omega
                        · simpa using h
   subst hoff';have hfit:B.rows.length*i.size+(news i.size m gv).length<=C.size:=by rw[hnl,<-cQ];have h5:(B.rows.length+m)*i.size<=cap*i.size:=cC _ hroom;rw[hsB]at hm1;simp only[fH]at hm1;omega
   have hrun:=xG (P:=P) w t o.type e i hu hi b B.rows.length cap C ty hC ⟨sb,soff,aC⟩ m scap (news i.size m gv) hnl hcells hone' hroom hfit;have hrun':=(hval _ _).mpr hrun;unfold Oper.wp;rw[hrun'];have hseg:=CW (l:=C.toList) (vs:=news i.size m gv) (o:=B.rows.length*i.size) (by simpa using hfit)
   have hrw:=sX hr hb k (.inr ⟨hρk,hfr⟩) ⟨i.size,(oC (aA id)||B.pure)&&ps,B.rows++src⟩ hsB.symm
    (C.toList.take (B.rows.length*i.size)++news i.size m gv++C.toList.drop (B.rows.length*i.size+(news i.size m gv).length)).toArray ty A (λ i=>A i\/(k<=i/\i<k+1)) (.inr hkA) (λ _ h=> .inl h) (.inr ⟨aF _,cW _⟩)
    (w.setRow b (C.toList.take (B.rows.length*i.size)++news i.size m gv++C.toList.drop (B.rows.length*i.size+(news i.size m gv).length)).toArray)
    (setRow_heap w b C _ ty _ hC) (λ j hj=>setRow_other w b j _ hj) (size_setRow _ _ _)
    (by unfold World.shape?;rw[setRow_heap w b C _ ty _ hC,hC];simp;omega)
    rfl rfl rfl (hrowlen (λ r row h=>by rw[<-hsB];exact hbl r row h))
    (λ r row c v h1 h2=>by
      have h1':(B.rows++src)[r]? =aA row:=h1;have hc:c<i.size:=by have:=(aK.1 h2).1;have:=hrowlen (λ r row h=>by rw[<-hsB];exact hbl r row h) r row h1';omega
      show ∃cv,(C.toList.take (B.rows.length*i.size)++news i.size m gv++C.toList.drop (B.rows.length*i.size+(news i.size m gv).length)).toArray[r*i.size+c]? =aA cv/\V w G (if((oC (aA id)||B.pure)&&ps)then bS else ρ) (if((oC (aA id)||B.pure)&&ps)then cI else A) v cv;rw[cJ,hseg];rw[dN]at h1';split at h1'
      .rename_i hlt;have h6:r*i.size+c<B.rows.length*i.size:=by have:(r+1)*i.size<=B.rows.length*i.size:=cC _ hlt;rw[cQ]at this;omega
       rw[iP h6];obtain⟨cu,h7,h8⟩:=hrows r row c v h1' h2;rw[hsB]at h7;exact⟨cu,by rw[bF];exact h7,holdV _ v cu (by simp;intro h _;exact h) h8⟩
      rename_i hge;have hrm:r-B.rows.length<m:=by have:=(aK.1 h1').1;omega
      have h9:=pZ (gv:=gv) hrm hc;have h10:=(aK.1 h9).1
      have e1:r*i.size+c=B.rows.length*i.size+((r-B.rows.length)*i.size+c):=by
       have:r*i.size=B.rows.length*i.size+(r-B.rows.length)*i.size:=by rw[<-cQ];congr 1;omega
       omega
      rw[e1,iN oO,iP oO];have e2:B.rows.length*i.size+((r-B.rows.length)*i.size+c)-B.rows.length*i.size=(r-B.rows.length)*i.size+c:=oO;rw[e2];exact⟨_,h9,hnewV _ v _ (by simp) (hgv _ row c v h1' h2).2⟩)
   obtain⟨hrel,hst⟩:=hrw;refine hn _ G _ _ hrel ?_ ⟨hst.size,hst.keep,hst.shape,hst.g,hst.g',hst.own,λ j hj=>hst.ids j (.inl (λ he=>hj (oO:k<=j/\j<k+1))),hst.os,hst.tape,hst.output⟩;have hne:(0:Nat)*B.sz=0:=by simp
   refine .sl (b:=b) (s:=B.sz) (ty:=ty) (m:=C.size) (.inr ⟨aF _,cW _⟩) (by simp[fF]) ?_ hm1 hroom hc1 (.inr (by simp));unfold World.shape?;rw[setRow_heap w b C _ ty _ hC];have hl2:(C.toList.take (B.rows.length*i.size)++news i.size m gv++C.toList.drop (B.rows.length*i.size+(news i.size m gv).length)).toArray.size=C.size:=by simp only[fZ,bM,sU,aLW,pU];omega
   simp only[hl2]
  have holds:∀j v,(C.toList.take (B.rows.length*i.size))[j]? =aA v->w.cell? ((⟨b,off,aC⟩:Addr).add j)=aA v:=λ j v hj=>by
   rw[fE]at hj;split at hj
   .rename_i hlt;have hn0:0<B.rows.length:=a4T (λ h0=>by rw[h0]at hlt;simp at hlt)
    have hoff':off=0:=by rcases hoff with h|h;· omega
                         · simpa using h
    subst hoff';rw[Addr.add_mid,cell_of_row w b _ C ty (0,0) hC,<-bF,fH];exact hj
   cases hj
  have hol:(C.toList.take (B.rows.length*i.size)).length=B.rows.length*i.size:=by simp;omega
  have hrun:=run_append_grow (P:=P) w t o.type e i z hu hi hzz ⟨b,off,aC⟩ B.rows.length cap _ hol holds ⟨sb,soff,aC⟩ m scap (news i.size m gv) hnl hcells oO oO (growslice_fits oO hby);have hrun':=(hval _ _).mpr hrun;unfold Oper.wp;rw[hrun'];have hge:=grownCap_ge w (B.rows.length+m) cap e;have hcm:=grownCap_le_maxLen w (B.rows.length+m) cap e (by unfold maxLen;omega);obtain⟨hrd0,hsd⟩:=hr.drop id (λ i=>A i\/(k<=i/\i<k+1));have hρ0:∀v cv,V w G ρ A v cv->V w G (fF ρ id aC) A v cv:=λ v cv h=>h.mono (λ _ h=>h) (λ _ _=>rfl) (λ _ _=>rfl) (λ _ h=>h) (λ j _=>(hsd A).ids j ‹_›)
  have hVd:∀(pp:Bool) v cv,V w G (if pp then bS else ρ) (if pp then cI else A) v cv->V w G (if pp then bS else fF ρ id aC) (if pp then cI else A) v cv:=λ pp v cv h=>by
   cases pp with
   |true=>simpa using h
   |false=>simp only[aS,if_false]at h⊢;exact hρ0 v cv h
  have hrel:=hrd0.alloc k (by simp only[fF];split<;>simp_all) (λ j B1 A1 hj=>by
   simp only[jD]at hj;split at hj;.cases hj
   exact hfr j B1 A1 hj) ⟨i.size,(oC (aA id)||B.pure)&&ps,B.rows++src⟩
   ((C.toList.take (B.rows.length*i.size)).toArray++(news i.size m gv).toArray++Builtin.zeroCells z.cells (grownCap w (B.rows.length+m) cap e-(B.rows.length+m))) e A (λ i=>A i\/(k<=i/\i<k+1)) hkA (λ _ h=> .inl h) (.inr ⟨aF _,cW _⟩)
   (hrowlen (λ r row h=>by rw[<-hsB];exact hbl r row h))
   (λ r row c v h1 h2=>by
     have h1':(B.rows++src)[r]? =aA row:=h1;have hc:c<i.size:=by have:=(aK.1 h2).1;have:=hrowlen (λ r row h=>by rw[<-hsB];exact hbl r row h) r row h1';omega
     show ∃cv,((C.toList.take (B.rows.length*i.size)).toArray++(news i.size m gv).toArray++Builtin.zeroCells z.cells (grownCap w (B.rows.length+m) cap e-(B.rows.length+m)))[r*i.size+c]? =aA cv/\V w G (if((oC (aA id)||B.pure)&&ps)then bS else fF ρ id aC) (if((oC (aA id)||B.pure)&&ps)then cI else A) v cv;rw[dN]at h1';split at h1'
     .rename_i hlt;have h6:r*i.size+c<B.rows.length*i.size:=by have:(r+1)*i.size<=B.rows.length*i.size:=cC _ hlt;rw[cQ]at this;omega
      obtain⟨cu,h7,h8⟩:=hrows r row c v h1' h2;rw[hsB]at h7;refine⟨cu,?_,hVd _ v cu (holdV _ v cu (by simp;intro h _;exact h) h8)⟩;rw[a5F,fV (by simp;omega),cJ,fE,iP h6,bF];exact h7
     rename_i hge;have hrm:r-B.rows.length<m:=by have:=(aK.1 h1').1;omega
     have h9:=pZ (gv:=gv) hrm hc;have h10:=(aK.1 h9).1
     have e1:r*i.size+c=B.rows.length*i.size+((r-B.rows.length)*i.size+c):=by
      have:r*i.size=B.rows.length*i.size+(r-B.rows.length)*i.size:=by rw[<-cQ];congr 1;omega
      omega
     refine⟨_,?_,hVd _ v _ (hnewV _ v _ (by simp) (hgv _ row c v h1' h2).2)⟩;have hsz1:(C.toList.take (B.rows.length*i.size)).toArray.size=B.rows.length*i.size:=by rw[fZ];exact hol
     rw[a5F,SF (by rw[hsz1];omega),hsz1,e1,lE,fV (by rw[fZ];exact h10),cJ];exact h9)
   w.drew rfl rfl rfl rfl
  have hst:=(hsd (λ j=>j≠k)).trans (lY (w:=w) (G:=G) (ρ:=fF ρ id aC) k i.size (.cells ((C.toList.take (B.rows.length*i.size)).toArray++(news i.size m gv).toArray++Builtin.zeroCells z.cells (grownCap w (B.rows.length+m) cap e-(B.rows.length+m))) e) w.drew rfl rfl rfl rfl) (λ _ h=>h)
  have hup:jD (jD H (λ i=>A i\/(k<=i/\i<k+1)) [(id,aC)]) (λ i=>A i\/(k<=i/\i<k+1)) [(k,aA ⟨i.size,(oC (aA id)||B.pure)&&ps,B.rows++src⟩)]
   =jD H (λ i=>A i\/(k<=i/\i<k+1)) [(k,aA ⟨i.size,(oC (aA id)||B.pure)&&ps,B.rows++src⟩),(id,aC)]:=rfl
  rw[hup]at hrel;refine hn _ G _ _ hrel ?_ ⟨hst.size,hst.keep,hst.shape,hst.g,hst.g',hst.own,λ j hj=>hst.ids j (λ he=>hj (oO:k<=j/\j<k+1)),hst.os,hst.tape,hst.output⟩;refine .sl (b:=w.heap.size) (s:=i.size) (ty:=e) (m:=((C.toList.take (B.rows.length*i.size)).toArray++(news i.size m gv).toArray++Builtin.zeroCells z.cells (grownCap w (B.rows.length+m) cap e-(B.rows.length+m))).size) (.inr ⟨aF _,cW _⟩) (by simp[fF]) ?_ ?_ hge hcm (.inr (by simp));.have:=iU w.drew (.cells ((C.toList.take (B.rows.length*i.size)).toArray++(news i.size m gv).toArray++Builtin.zeroCells z.cells (grownCap w (B.rows.length+m) cap e-(B.rows.length+m))) e);have e1:w.drew.heap.size=w.heap.size:=rfl;rw[e1]at this;unfold World.shape?;rw[this]
  rw[ED,ED,fZ,fZ,hnl,hol,size_zeroCells,hsz.1,<-cQ,<-cQ];exact cC _ oO
end
end Go.AM
end
