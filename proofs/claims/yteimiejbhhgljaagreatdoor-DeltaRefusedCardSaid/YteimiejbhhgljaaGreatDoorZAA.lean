import Derived.Calls
import Derived.Orders
import Derived.Laws.AppendOwn
import Derived.Laws.Rows
import Derived.Deep.LoopGhost
import Derived.Deep.MidRow
import Derived.Laws.Slices
import Derived.Laws.MakeOwn
import Derived.Laws.CopyRow
set_option linter.unusedVariables false
set_option linter.defProp false
set_option linter.unusedSimpArgs false
set_option maxHeartbeats 0
set_option maxRecDepth 100000
def Go.iN {c : Prop} {h : Decidable c} (hc : ¬c) {α : Sort _} {t e : α} : ite c t e = e := if_neg hc
def Go.iP {c : Prop} {h : Decidable c} (hc : c) {α : Sort _} {t e : α} : ite c t e = t := if_pos hc
def Go.pS {p : Prop} (h : p := by simp [ho, Op.operands]) : p := h
def Go.pC {p : Prop} (h : p := by simp [ho, Op.operands, Call.operands]) : p := h
def Go.sO {p : Prop} (h : p := by simp; omega) : p := h
def Go.dC {p : Prop} (h : p := by decide) : p := h
def Go.xE {α : Sort _} (a : α) : ∃ x, x = a := ⟨a, rfl⟩
def Go.sS {p : Prop} (h : p := by simp) : p := h
def Go.dTt {p : Prop} [Decidable p] : (decide p = true) = p := decide_eq_true_eq
def Go.dFn {p : Prop} [Decidable p] : decide p = false ↔ ¬p := decide_eq_false_iff_not
def Go.oO {p : Prop} (h : p := by omega) : p := h
def Go.bB {a b : Nat} (h : Nat.ble a b = true := by exact rfl) : a ≤ b := Nat.le_of_ble_eq_true h
def Go.bQ {p : Prop} (h : p := by rw [Bool.eq_iff_iff]; simp only [beq_iff_eq, bne_iff_ne, ne_eq, decide_eq_true_eq, decide_eq_false_iff_not, Bool.and_eq_true, Bool.or_eq_true, Bool.not_eq_true', beq_eq_false_iff_ne, Bool.false_eq_true, Bool.true_eq_false, true_iff, false_iff, iff_true, iff_false]; omega) : p := h
open Array renaming append_assoc->BR,eq_empty_of_size_eq_zero->kH,ext->aJX,getD_eq_getD_getElem?->aM,getElem?_append_left->fH,getElem?_append_right->xM,getElem?_eq_getElem->aW,getElem?_eq_none->iS,getElem?_eq_some_iff->dK,getElem?_setIfInBounds_ne->mA,getElem?_setIfInBounds_self_of_lt->rV,getElem?_toList->bH,length_toList->qR,mem_of_getElem?->bQU,replicate->xL,size_append->qQ
open Bool renaming and_eq_true->aO,and_false->MN,false->aF,false_and->MM,false_eq_true->bP,not_eq_true'->dV,or_eq_false_iff->gA,or_eq_true->gQ,true->aB,true_and->lZ
open List renaming all_cons->gI,all_eq_true->aY,any_eq_true->aOB,append_assoc->dA,cons_append->bA,ext_getElem?->fF,getD->oZ,getD_eq_getElem?_getD->aU,getElem?_append->dQ,getElem?_append_left->gN,getElem?_append_right->iY,getElem?_cons_succ->fY,getElem?_cons_zero->lY,getElem?_drop->fJ,getElem?_eq_getElem->aN,getElem?_eq_none->bE,getElem?_eq_some_iff->aL,getElem?_map->aV,getElem?_of_mem->pF,getElem?_range->nD,getElem?_replicate->oY,getElem?_set->dS,getElem?_take->fA,getElem?_toArray->cH,getElem_mem->zY,length_append->bT,length_cons->iI,length_drop->aOA,length_map->dG,length_take->uB,map->tB,map_append->aQ,map_cons->bN,map_map->kT,map_nil->bV,map_toArray->uA,mem_append->dJ,mem_cons->fO,mem_cons_of_mem->dZ,mem_filter->lK,mem_map->dM,mem_of_getElem?->gL,mem_range->dX,nil_append->aZ,range->aR,replicate->bI,size_toArray->fE
open Nat renaming add_assoc->gM,add_comm->bQQ,add_mul->cW,add_sub_cancel->a7O,add_sub_cancel_left->kJ,add_zero->kG,div_add_mod->FJ,div_lt_of_lt_mul->aEZ,le_refl->aJ,le_trans->pL,lt_irrefl->oX,lt_of_lt_of_le->oW,lt_succ_self->cY,lt_trichotomy->kR,mod_eq_of_lt->LC,mul_comm->jN,mul_le_mul_right->bZ,mul_one->JK,pos_of_ne_zero->OP,sub_self->TT,sub_zero->vN,zero_add->eQ,zero_mul->rT
open Option renaming bind_eq_some_iff->cJ,bind_some->bVF,getD_some->LB,isNone->oV,isSome_iff_exists->fU,map_eq_none_iff->dL,map_eq_some_iff->aK,map_none->lJ,map_some->bO,none->aC,some->aA
open Go.Result renaming andThen->ML,andThen_ok->bJ
open Go.Sem renaming run_bind->bS,run_pure->dO
open Go.Value renaming int->aE
section
namespace Go.AM
variable{α:Type}{K:Act->World->Prop}{pl:Array (Nat×Nat)}{parts:Array (Nat×Operand)}{ops:Array Oper}{args:Array Operand}{z:Array Value}{ag:Bool}{Q':Exit->Act->World->Prop}{fn:Func}{g:FuncId}{kk:IntKind}{by' j k' nt:Nat}{D D' p:Nat->Bool}{gv:Nat->Nat->Value}{G G' G0 G1:Nat->Prop}{oi oj:Oper}{y:Operand}{idd:Option Nat}{P:Program}{u:Value}{w w' w0 w1:World}
inductive AVal where
 |junk
 |lit (v:Value)
 |ptr (id row col:Nat)
 |sl (id row len:Nat)
 |rp (cells:List AVal)
 |rd (sz n:Nat) (f:Nat->List AVal)
 |agg (cells:List AVal)
 |tup (vs:List AVal)
 |fn (f:FuncId) (caps:List AVal)
 |nn
 |slc (id row len cap:Nat)
 |bfn (f:FuncId) (id row col:Nat)
 |mp (id:Nat)
 |it (id:Nat)
variable{Γ:List (Nat×List AVal)}{cells' zrow:List AVal}
abbrev dW:=List (Nat×List AVal)
instance:Inhabited AVal:=⟨.junk⟩
structure Blk where
 sz:Nat
 pure:Bool
 rows:List (List AVal)
variable{B:Blk}
abbrev aS:=List (Nat×Blk)
variable{Q:Nat->AVal->aS->Prop}{H0 Hc Hout:aS}
abbrev Fr:=List (Nat×AVal)
variable{fr fr0:Fr}
def look{α:Type}:List (Nat×α)->Nat->Option α
 |[],_=>aC
 |(a,x)::r,k=>if a=k then aA x else look r k
abbrev dH:=Nat->Option (Nat×Nat)
variable{ρ' ρ0 ρ1:dH}
abbrev cF:=Nat->Prop
variable{A' A0 S:cF}
def bX:dH:=λ _=>aC
def cQ:cF:=λ _=>False
def shp(w:World)(b:Nat):Option (Option (TypeId×Nat)):=(w.heap[b]?).map λ o=>match o with
 | .cells c e _=>aA (e,c.size)
 |_=>aC
def EH{b:Nat}:w.shape? b=(shp w b).bind id:=by
 unfold World.shape? shp
 cases w.heap[b]? with
 |none=>rfl
 |some o=>cases o<;>rfl
def aTS{b:Nat}{x:Option (TypeId×Nat)}(h:shp w b=aA x):b<w.heap.size:=by
 unfold shp at h;by_cases hb:b<w.heap.size;.exact hb
 rw[iS oO]at h;cases h
def shp_of{b b':Nat}(h:w'.heap[b']? =w.heap[b]?):shp w' b'=shp w b:=by unfold shp;rw[h]
inductive V (w:World) (G:Nat->Prop):dH->cF->AVal->Value->Prop
 |junk {ρ A cv}:V w G ρ A .junk cv
 |lit {ρ A v}:V w G ρ A (.lit v) v
 |dang {ρ A id r c x}:A id->ρ id=aC->V w G ρ A (.ptr id r c) (.pointer x)
 |dangs {ρ A id r n x m c}:A id->ρ id=aC->V w G ρ A (.sl id r n) (.slice x m c)
 |ptr {ρ A id r c b s ty m}:A id->ρ id=aA (b,s)->w.shape? b=aA (ty,m)->V w G ρ A (.ptr id r c) (.pointer (aA ⟨b,r*s+c,aC⟩))
 |sl {ρ A id r n b s ty m cap off}:A id->ρ id=aA (b,s)->w.shape? b=aA (ty,m)->(r+cap)*s<=m->n<=cap->cap<=maxLen->(cap=0\/off=r*s)→
    V w G ρ A (.sl id r n) (.slice (aA ⟨b,off,aC⟩) n cap)
 |sl0 {ρ A id r b s}:A id->ρ id=aA (b,s)->V w G ρ A (.sl id r 0) (.slice aC 0 0)
 |rp {ρ A cells b o} (g:Nat->Value):G b->(∀j v,cells[j]? =aA v->w.cell? ⟨b,o+j,aC⟩=aA (g j))->(∀j v,cells[j]? =aA v->V w G bX cQ v (g j))→
    V w G ρ A (.rp cells) (.pointer (aA ⟨b,o,aC⟩))
 |rd0 {ρ A sz f a cap}:V w G ρ A (.rd sz 0 f) (.slice a 0 cap)
 |rd {ρ A sz n f b o cap} (g:Nat->Nat->Value):G b->n<=cap->n<=maxLen->(∀i,i<n->(f i).length=sz)->(∀i j v,i<n->(f i)[j]? =aA v->w.cell? ⟨b,o+i*sz+j,aC⟩=aA (g i j))→
    (∀i j v,i<n->(f i)[j]? =aA v->V w G bX cQ v (g i j))->V w G ρ A (.rd sz n f) (.slice (aA ⟨b,o,aC⟩) n cap)
 |agg {ρ A cells cs}:cells.length=cs.size->(∀j v,cells[j]? =aA v->V w G ρ A v (cs.getD j undef))->V w G ρ A (.agg cells) (.agg cs)
 |tup {ρ A vs cs}:vs.length=cs.size->(∀j v,vs[j]? =aA v->V w G ρ A v (cs.getD j undef))->V w G ρ A (.tup vs) (.tuple cs)
 |fn {ρ A f caps cs}:caps.length=cs.size->(∀j v,caps[j]? =aA v->V w G ρ A v (cs.getD j undef))->V w G ρ A (.fn f caps) (.func (.func f) #[] cs)
 |nn {ρ A t v}:V w G ρ A .nn (.iface t v)
 |dangc {ρ A id r n q x m c}:A id->ρ id=aC->V w G ρ A (.slc id r n q) (.slice x m c)
 |slc {ρ A id r n b s ty m cap off}:A id->ρ id=aA (b,s)->w.shape? b=aA (ty,m)->(r+cap)*s<=m->n<=cap->cap<=maxLen->(cap=0\/off=r*s)→
    V w G ρ A (.slc id r n cap) (.slice (aA ⟨b,off,aC⟩) n cap)
 |bfn {ρ A f id r c cv}:V w G ρ A (.ptr id r c) cv->V w G ρ A (.bfn f id r c) (.func (.func f) #[cv] #[])
 |dangm {ρ A id x}:A id->ρ id=aC->V w G ρ A (.mp id) (.map x)
 |mp {ρ A id b s}:A id->ρ id=aA (b,s)->shp w b=aA aC->V w G ρ A (.mp id) (.map (aA b))
 |dangi {ρ A id x}:A id->ρ id=aC->V w G ρ A (.it id) (.pointer x)
 |it {ρ A id b s}:A id->ρ id=aA (b,s)->shp w b=aA aC->V w G ρ A (.it id) (.pointer (aA ⟨b,0,aC⟩))
variable{v:AVal}{caps:Array Operand}{cs:Array Value}{vs:List AVal}{n off r s t:Nat}{x:TypeId×Nat}{cv:Value}{A:cF}{ρ:dH}
def mK(ρ:dH)(b:Nat):Prop:=∃id s,ρ id=aA (b,s)
structure Step (A:cF) (w:World) (G:Nat->Prop) (ρ:dH) (w':World) (G':Nat->Prop) (ρ':dH):Prop where
 size:w.heap.size<=w'.heap.size
 keep:∀b,b<w.heap.size->¬mK ρ b->w'.heap[b]? =w.heap[b]?
 shape:∀b,b<w.heap.size->shp w' b=shp w b
 g:∀b,G b->G' b
 g':∀b,G' b->G b\/mK ρ b\/w.heap.size<=b
 own:∀b,mK ρ' b->mK ρ b\/w.heap.size<=b
 ids:∀id,A id->ρ' id=aC\/ρ' id=ρ id
 os:w'.os=w.os
 tape:w'.tape=w.tape
 output:w'.output=w.output
def lF (A:cF)(w:World)(G:Nat->Prop)(ρ:dH):Step A w G ρ w G ρ:=
 ⟨aJ _,λ _ _ _=>rfl,λ _ _=>rfl,λ _ h=>h,λ _ h=> .inl h,λ _ h=> .inl h,λ _ _=> .inr rfl,rfl,rfl,rfl⟩
def Step.trans{w2:World}{G2:Nat->Prop}{ρ2:dH}(h:Step A w G ρ w1 G1 ρ1)(k:Step A' w1 G1 ρ1 w2 G2 ρ2)(hA:∀i,A i->A' i):
 Step A w G ρ w2 G2 ρ2 where
 size:=pL h.size k.size
 keep:=λ b hb ho=>by rw[k.keep b (oW hb h.size) (λ ho1=>(h.own b ho1).elim ho (λ hc=>absurd hb (Nat.not_lt.2 hc)))];exact h.keep b hb ho
 shape:=λ b hb=>by rw[k.shape b (oW hb h.size),h.shape b hb]
 g:=λ b hb=>k.g b (h.g b hb)
 g':=λ b hb=>by
  rcases k.g' b hb with h1|h1|h1;.exact h.g' b h1
  .exact .inr (h.own b h1)
  exact .inr (.inr (pL h.size h1))
 own:=λ b hb=>by
  rcases k.own b hb with h1|h1;.exact h.own b h1
  exact .inr (pL h.size h1)
 ids:=λ id ha=>by
  rcases k.ids id (hA id ha)with h1|h1;.exact .inl h1
  rcases h.ids id ha with h2|h2;.exact .inl (h1.trans h2)
  exact .inr (h1.trans h2)
 os:=k.os.trans h.os
 tape:=k.tape.trans h.tape
 output:=k.output.trans h.output
def aTT{b:Nat}(h:w.shape? b=aA x):b<w.heap.size:=by
 unfold World.shape? at h;by_cases hb:b<w.heap.size;.exact hb
 rw[iS oO]at h;simp at h
def RS{b o:Nat}(h:w'.heap[b]? =w.heap[b]?):w'.cell? ⟨b,o,aC⟩=w.cell? ⟨b,o,aC⟩:=World.cell?_of_block (w:=w) h
def AC(hs:∀b,b<w.heap.size->shp w' b=shp w b){b:Nat}(h:w.shape? b=aA x):w'.shape? b=aA x:=by rw[EH,hs b (aTT h),<-EH];exact h
def V.mono(hG:∀b,G b->G' b)(hk:∀b,G b->w'.heap[b]? =w.heap[b]?)(hs:∀b,b<w.heap.size->shp w' b=shp w b)
     (h:V w G ρ A v cv):∀ {ρ':dH} {A':cF},(∀id,A id->A' id)->(∀id,A id->ρ' id=aC\/ρ' id=ρ id)->V w' G' ρ' A' v cv:=by
 induction h with
 |nn=>intros;exact .nn
 |dangc ha hr=>
  intro ρ' A' hA hρ;rcases hρ _ ha with h1|h1;.exact .dangc (hA _ ha) h1
  exact .dangc (hA _ ha) (h1.trans hr)
 |slc ha hr hsh h1 h2 h3 h4=>
  intro ρ' A' hA hρ;rcases hρ _ ha with h5|h5;.exact .dangc (hA _ ha) h5
  exact .slc (hA _ ha) (h5.trans hr) (AC hs hsh) h1 h2 h3 h4
 |bfn h ih=>intro ρ' A' hA hρ;exact .bfn (ih hA hρ)
 |junk=>intros;exact .junk
 |lit=>intros;exact .lit
 |dang ha hr=>
  intro ρ' A' hA hρ;rcases hρ _ ha with h1|h1;.exact .dang (hA _ ha) h1
  exact .dang (hA _ ha) (h1.trans hr)
 |dangs ha hr=>
  intro ρ' A' hA hρ;rcases hρ _ ha with h1|h1;.exact .dangs (hA _ ha) h1
  exact .dangs (hA _ ha) (h1.trans hr)
 |ptr ha hr hsh=>
  intro ρ' A' hA hρ;rcases hρ _ ha with h1|h1;.exact .dang (hA _ ha) h1
  exact .ptr (hA _ ha) (h1.trans hr) (AC hs hsh)
 |dangm ha hr=>
  intro ρ' A' hA hρ;rcases hρ _ ha with h1|h1;.exact .dangm (hA _ ha) h1
  exact .dangm (hA _ ha) (h1.trans hr)
 |mp ha hr hsh=>
  intro ρ' A' hA hρ;rcases hρ _ ha with h1|h1;.exact .dangm (hA _ ha) h1
  exact .mp (hA _ ha) (h1.trans hr) ((hs _ (aTS hsh)).trans hsh)
 |dangi ha hr=>
  intro ρ' A' hA hρ;rcases hρ _ ha with h1|h1;.exact .dangi (hA _ ha) h1
  exact .dangi (hA _ ha) (h1.trans hr)
 |it ha hr hsh=>
  intro ρ' A' hA hρ;rcases hρ _ ha with h1|h1;.exact .dangi (hA _ ha) h1
  exact .it (hA _ ha) (h1.trans hr) ((hs _ (aTS hsh)).trans hsh)
 |sl ha hr hsh h1 h2 h3 h4=>
  intro ρ' A' hA hρ;rcases hρ _ ha with h5|h5;.exact .dangs (hA _ ha) h5
  exact .sl (hA _ ha) (h5.trans hr) (AC hs hsh) h1 h2 h3 h4
 |sl0 ha hr=>
  intro ρ' A' hA hρ;rcases hρ _ ha with h1|h1;.exact .dangs (hA _ ha) h1
  exact .sl0 (hA _ ha) (h1.trans hr)
 |rp g hb hc hv ih=>intro ρ' A' hA hρ;exact .rp g (hG _ hb) (λ j v hj=>(RS (hk _ hb)).trans (hc j v hj)) (λ j v hj=>ih j v hj (λ _ hf=>hf.elim) (λ _ hf=>hf.elim))
 |rd0=>intros;exact .rd0
 |rd g hb hcap hn hl hc hv ih=>intro ρ' A' hA hρ;exact .rd g (hG _ hb) hcap hn hl (λ i j v hi hj=>(RS (hk _ hb)).trans (hc i j v hi hj)) (λ i j v hi hj=>ih i j v hi hj (λ _ hf=>hf.elim) (λ _ hf=>hf.elim))
 |agg hl hv ih=>intro ρ' A' hA hρ;exact .agg hl λ j v hj=>ih j v hj hA hρ
 |tup hl hv ih=>intro ρ' A' hA hρ;exact .tup hl λ j v hj=>ih j v hj hA hρ
 |fn hl hv ih=>intro ρ' A' hA hρ;exact .fn hl λ j v hj=>ih j v hj hA hρ
def aCG(es:List MapEntry)(clock:Nat):List Value:= .int .i64 clock:: .int .i64 es.length:: .int .i64 1::es.flatMap λ e=>[e.key,e.val,.int .i64 e.born]
def IE(m:Option Nat)(since:Nat)(seen:Array Nat)(c0:Nat):List Value:= .int .i64 c0:: .int .i64 seen.size:: .int .i64 2:: .map m:: .int .i64 since:: .int .i64 0::seen.toList.flatMap λ(x:Nat)=>[aE .i64 (x:Int),.int .i64 0,.int .i64 0]
inductive ObjC:Obj->Array Value->Prop
 |cells {C ty}:ObjC (.cells C ty (0,0)) C
 |map {es clock}:ObjC (.map es clock) (aCG es.toList clock).toArray
 |iter {m since seen c0}:ObjC (.mapIter m since seen c0) (IE m since seen c0).toArray
variable{ty:Array TypeId}{C:Array Value}{m:Nat}
def ObjC.shaped{b:Nat}{o:Obj}(h:ObjC o C)(ho:w.heap[b]? =aA o)(hs:w.shape? b=aA x):o= .cells C x.1 (0,0):=by
 cases h with
 |cells=>simp only[World.shape?,ho]at hs;cases hs;rfl
 |map=>simp[World.shape?,ho]at hs
 |iter=>simp[World.shape?,ho]at hs
structure BRel (w:World) (G:Nat->Prop) (ρ:dH) (A:cF) (B:Blk) (b:Nat):Prop where
 ex:∃C o,(w.heap[b]? =aA o/\ObjC o C)/\∀r row c v,B.rows[r]? =aA row->row[c]? =aA v→
  ∃cv,C[r*B.sz+c]? =aA cv/\V w G (if B.pure then bX else ρ) (if B.pure then cQ else A) v cv
 len:∀(r:Nat) row,B.rows[r]? =aA row->row.length=B.sz
def BRel.old{b:Nat}(h:BRel w G ρ A B b)(hs:w.shape? b=aA x):
 (∃C ty,w.heap[b]? =aA (.cells C ty (0,0))/\∀r row c v,B.rows[r]? =aA row->row[c]? =aA v→
   ∃cv,C[r*B.sz+c]? =aA cv/\V w G (if B.pure then bX else ρ) (if B.pure then cQ else A) v cv)/\∀(r:Nat) row,B.rows[r]? =aA row->row.length=B.sz:=by obtain⟨⟨C,o,⟨h1,h2⟩,h3⟩,h4⟩:=h;exact⟨⟨C,_,h2.shaped h1 hs▸h1,h3⟩,h4⟩
abbrev mP:=Nat->Option (Blk×cF)
variable{H:mP}
structure HRel (Γ:List (Nat×List AVal)) (w:World) (G:Nat->Prop) (ρ:dH) (H:mP):Prop where
 dom:∀id,H id=aC->ρ id=aC
 blk:∀id B A,H id=aA (B,A)->A id/\∃b,ρ id=aA (b,B.sz)/\¬G b/\BRel w G ρ A B b
 inj:∀i j b s t,ρ i=aA (b,s)->ρ j=aA (b,t)->i=j
 ro:∀b,G b->b<w.heap.size
 glob:∀g cells,look Γ g=aA cells->V w G bX cQ (.rp cells) (.pointer (aA ⟨g,0,aC⟩))/\G g/\∃C ty x,w.heap[g]? =aA (.cells C ty x)/\C.size=cells.length
def HRel.owned_not_ro(h:HRel Γ w G ρ H){b:Nat}(ho:mK ρ b):¬G b:=by
 obtain⟨id,s,hr⟩:=ho
 cases hH:H id with
 |none=>rw[h.dom id hH]at hr;cases hr
 |some x=>obtain⟨B,A⟩:=x;obtain⟨_,b',hb',hg,_⟩:=h.blk id B A hH;rw[hr]at hb';cases hb';exact hg
def HRel.owned_lt(h:HRel Γ w G ρ H){b:Nat}(ho:mK ρ b):b<w.heap.size:=by
 obtain⟨id,s,hr⟩:=ho
 cases hH:H id with
 |none=>rw[h.dom id hH]at hr;cases hr
 |some x=>
  obtain⟨B,A⟩:=x;obtain⟨_,b',hb',_,hB⟩:=h.blk id B A hH;rw[hr]at hb';cases hb';obtain⟨C,o,⟨hc,_⟩,_⟩:=hB.ex;by_cases hb:b<w.heap.size;.exact hb
  rw[iS oO]at hc;cases hc
def V.step{B:cF}(h:V w G ρ A v cv)(hr:HRel Γ w G ρ H)
 (hs:Step B w G ρ w' G' ρ') (hB:∀i,A i->B i) (hA:∀i,A i->A' i):V w' G' ρ' A' v cv:=
 h.mono hs.g (λ b hb=>hs.keep b (hr.ro b hb) (λ ho=>hr.owned_not_ro ho hb)) hs.shape hA (λ id hi=>hs.ids id (hB id hi))
def KM{B:cF}(hr:HRel Γ w G ρ H)(hs:Step B w G ρ w' G' ρ'):
 ∀g cells,look Γ g=aA cells->V w' G' bX cQ (.rp cells) (.pointer (aA ⟨g,0,aC⟩))/\G' g/\∃C ty x,w'.heap[g]? =aA (.cells C ty x)/\C.size=cells.length:=λ g cells hg=>by
 obtain⟨h1,h2,C,ty,x,h3,h4⟩:=hr.glob g cells hg
 exact⟨h1.mono hs.g (λ b hb=>hs.keep b (hr.ro b hb) (λ ho=>hr.owned_not_ro ho hb)) hs.shape (λ _ h=>h) (λ _ h=>h.elim),hs.g _ h2,C,ty,x,
  by rw[hs.keep g (hr.ro g h2) (λ ho=>hr.owned_not_ro ho h2)];exact h3,h4⟩
def bK(H:aS)(A:cF):mP:=λ id=>(look H id).map λ B=>(B,A)
def lX(k:Nat):cF:=λ i=>i<k
def kI(A0:cF)(kb k:Nat):cF:=λ i=>A0 i\/(kb<=i/\i<k)
structure Inv (Γ:dW) (nt:Nat) (w:World) (G:Nat->Prop) (ρ:dH) (A:cF) (a:Act) (fr:Fr) (H:aS):Prop where
 rel:HRel Γ w G ρ (bK H A)
 size:a.tmps.size=nt
 defers:a.defers=[]
 frm:∀t v,look fr t=aA v->V w G ρ A v (a.tmps.getD t undef)
abbrev AQ:=Exit->Nat->Fr->aS->Prop
def Post(Γ:dW)(nt:Nat)(A0:cF)(kb:Nat)(w:World)(G:Nat->Prop)(ρ:dH)(Q:AQ):Exit->Act->World->Prop:=λ e a' w'=>
 ∃G' ρ' k' fr' H',Q e k' fr' H'/\kb<=k'/\Inv Γ nt w' G' ρ' (kI A0 kb k') a' fr' H'/\Step (lX kb) w G ρ w' G' ρ'
def W(P:Program)(Γ:dW)(nt kb:Nat)(c:Code)(Q:AQ)(k:Nat)(fr:Fr)(H:aS):Prop:=
 ∀A0:cF,(∀i,A0 i->i<kb)->kb<=k->∀w G ρ a,Inv Γ nt w G ρ (kI A0 kb k) a fr H->c.wp P (Post Γ nt A0 kb w G ρ Q) a w
variable{x:Operand}
section
variable{P:Program}{Γ:dW}{nt kb:Nat}{Q Q':AQ}{k:Nat}{fr:Fr}{H:aS}
def Post.trans{e:Exit}{a':Act}(hs:Step (lX kb) w G ρ w1 G1 ρ1)(h:Post Γ nt A0 kb w1 G1 ρ1 Q e a' w'):
 Post Γ nt A0 kb w G ρ Q e a' w':=by obtain⟨G',ρ',k',fr',H',hq,hk,hi,hst⟩:=h;exact⟨G',ρ',k',fr',H',hq,hk,hi,hs.trans hst (λ _ h=>h)⟩
def mD{c:Code}(h:W P Γ nt kb c Q k fr H)(hq:∀e k fr H,Q e k fr H->Q' e k fr H):W P Γ nt kb c Q' k fr H:=λ A0 hA0 hk w G ρ a hi=>
 wp_mono (h A0 hA0 hk w G ρ a hi) λ _ _ _ ⟨G',ρ',k',fr',H',hQ,r⟩=>⟨G',ρ',k',fr',H',hq _ _ _ _ hQ,r⟩
def SN{a:Act}{e:Exit}(hk:kb<=k)(hi:Inv Γ nt w G ρ (kI A0 kb k) a fr H)(h:Q e k fr H):Post Γ nt A0 kb w G ρ Q e a w:=
 ⟨G,ρ,k,fr,H,h,hk,hi,lF _ _ _ _⟩
def aJL(h:Q .normal k fr H):W P Γ nt kb .skip Q k fr H:=λ A0 _ hk _ _ _ _ hi=>wp_skip (SN hk hi h)
def a0Q(h:Q .ret k fr H):W P Γ nt kb .ret Q k fr H:=λ A0 _ hk _ _ _ _ hi=>wp_ret (SN hk hi h)
def aJM{id:Nat}(h:Q (.exit id) k fr H):W P Γ nt kb (.exit id) Q k fr H:=λ A0 _ hk _ _ _ _ hi=>wp_exit (SN hk hi h)
def mW(next:Nat->Fr->aS->Prop)(Q:AQ):AQ
 | .normal,k,fr,H=>next k fr H
 |e,k,fr,H=>Q e k fr H
def a0P{x y:Code}(h:W P Γ nt kb x (mW (W P Γ nt kb y Q) Q) k fr H):W P Γ nt kb (.seq x y) Q k fr H:=λ A0 hA0 hk w G ρ a hi=>
 wp_seq (wp_mono (h A0 hA0 hk w G ρ a hi) λ e a' w' hp=>by
  obtain⟨G',ρ',k',fr',H',hQ,hk',hi',hst⟩:=hp
  cases e with
  |normal=>exact wp_mono (hQ A0 hA0 hk' w' G' ρ' a' hi') λ _ _ _ hp=>Post.trans hst hp
  |exit id=>exact⟨G',ρ',k',fr',H',hQ,hk',hi',hst⟩
  |goto l=>exact⟨G',ρ',k',fr',H',hQ,hk',hi',hst⟩
  |ret=>exact⟨G',ρ',k',fr',H',hQ,hk',hi',hst⟩
  |panic ch=>exact⟨G',ρ',k',fr',H',hQ,hk',hi',hst⟩
  |outgrown=>exact⟨G',ρ',k',fr',H',hQ,hk',hi',hst⟩)
def lN(Γ:dW)(fr:Fr):Operand->Option AVal
 | .tmp t=>look fr t
 | .const v=>aA (.lit v)
 | .global g=>(look Γ g).map .rp
 | .func f=>aA (.fn f [])
def V.weaken(h:V w G bX cQ v cv):V w G ρ A v cv:=
 h.mono (λ _ h=>h) (λ _ _=>rfl) (λ _ _=>rfl) (λ _ h=>h.elim) (λ _ h=>h.elim)
def ZU{a:Act}(hi:Inv Γ nt w G ρ A a fr H)(h:lN Γ fr x=aA v):V w G ρ A v (a.eval x):=by
 cases x with
 |tmp t=>exact hi.frm t v h
 |const c=>cases h;exact .lit
 |global g=>simp only[lN,aK]at h;obtain⟨cells,hl,rfl⟩:=h;exact(hi.rel.glob g cells hl).1.weaken
 |func f=>cases h;exact .fn rfl (λ j v hj=>by simp at hj)
def iB(h:V w G ρ A (.lit u) cv):cv=u:=by cases h;rfl
def SK{c:Operand}{x y:Code}(t:Bool)(hc:lN Γ fr c=aA (.lit (.bool t)))(ht:t=aB->W P Γ nt kb x Q k fr H)(hf:t=aF->W P Γ nt kb y Q k fr H):
 W P Γ nt kb (.cond c x y) Q k fr H:=λ A0 hA0 hk w G ρ a hi=>
 wp_cond_split (iB (ZU hi hc)) (λ h=>ht h A0 hA0 hk w G ρ a hi) (λ h=>hf h A0 hA0 hk w G ρ a hi)
def GN(id:Nat)(Q:AQ):AQ
 | .exit id',k,fr,H=>if id'=id then Q .normal k fr H else Q (.exit id') k fr H
 |e,k,fr,H=>Q e k fr H
def ZW{id:Nat}{c:Code}(h:W P Γ nt kb c (GN id Q) k fr H):W P Γ nt kb (.block id c) Q k fr H:=λ A0 hA0 hk w G ρ a hi=>
 wp_block (wp_mono (h A0 hA0 hk w G ρ a hi) λ e a' w' hp=>by
  obtain⟨G',ρ',k',fr',H',hQ,hk',hi',hst⟩:=hp
  cases e with
  |exit id'=>
   simp only[Exit.inBlock];by_cases he:id'=id;.simp only[GN,he,if_true]at hQ;rw[iP he];exact⟨G',ρ',k',fr',H',hQ,hk',hi',hst⟩
   simp only[GN,he,if_false]at hQ;rw[iN he];exact⟨G',ρ',k',fr',H',hQ,hk',hi',hst⟩
  |normal=>exact⟨G',ρ',k',fr',H',hQ,hk',hi',hst⟩
  |goto l=>exact⟨G',ρ',k',fr',H',hQ,hk',hi',hst⟩
  |ret=>exact⟨G',ρ',k',fr',H',hQ,hk',hi',hst⟩
  |panic ch=>exact⟨G',ρ',k',fr',H',hQ,hk',hi',hst⟩
  |outgrown=>exact⟨G',ρ',k',fr',H',hQ,hk',hi',hst⟩)
def a0R{c:Code}(I:Nat->Nat->Fr->aS->Prop)(m:Nat)(h0:I m k fr H)
 (round:∀m k fr H,I m k fr H->W P Γ nt kb c (mW (λ k' fr' H'=>∃m',m'<m/\I m' k' fr' H') Q) k fr H):W P Γ nt kb (.loop c) Q k fr H:=λ A0 hA0 hk w G ρ a hi=>by
 refine wp_loop_ghost (λ m a1 w1=>∃G1 ρ1 k1 fr1 H1,I m k1 fr1 H1/\kb<=k1/\Inv Γ nt w1 G1 ρ1 (kI A0 kb k1) a1 fr1 H1/\Step (lX kb) w G ρ w1 G1 ρ1) m ⟨G,ρ,k,fr,H,h0,hk,hi,lF _ _ _ _⟩ ?_
 rintro m a1 w1 ⟨G1,ρ1,k1,fr1,H1,hI,hk1,hi1,hst1⟩
 refine wp_mono (round m k1 fr1 H1 hI A0 hA0 hk1 w1 G1 ρ1 a1 hi1) λ e a' w' hp=>?_
 obtain⟨G',ρ',k',fr',H',hQ,hk',hi',hst⟩:=hp
 have hs:=hst1.trans hst (λ _ h=>h)
 cases e with
 |normal=>obtain⟨m',hlt,hI'⟩:=hQ;exact⟨m',hlt,G',ρ',k',fr',H',hI',hk',hi',hs⟩
 |exit id=>exact⟨G',ρ',k',fr',H',hQ,hk',hi',hs⟩
 |goto l=>exact⟨G',ρ',k',fr',H',hQ,hk',hi',hs⟩
 |ret=>exact⟨G',ρ',k',fr',H',hQ,hk',hi',hs⟩
 |panic ch=>exact⟨G',ρ',k',fr',H',hQ,hk',hi',hs⟩
 |outgrown=>exact⟨G',ρ',k',fr',H',hQ,hk',hi',hs⟩
def iL(p:Nat->Bool):AVal->Bool
 | .ptr id _ _=>p id
 | .sl id _ _=>p id
 | .slc id _ _ _=>p id
 | .bfn _ id _ _=>p id
 | .mp id=>p id
 | .it id=>p id
 | .agg _=>aF
 | .tup _=>aF
 | .fn _ caps=>caps.isEmpty
 |_=>aB
def MG(p:Nat->Bool):AVal->Bool
 | .agg cs=>cs.all (iL p)
 | .fn _ cs=>cs.all (iL p)
 |v=>iL p v
def bd(p:Nat->Bool):AVal->Bool
 | .tup cs=>cs.all (MG p)
 |v=>MG p v
def WP(h:V w G ρ A v cv)(hb:iL p v=aB):V w G ρ (λ i=>A i/\p i=aB) v cv:=by
 cases h with
 |nn=>exact .nn
 |dangc ha hr=>exact .dangc ⟨ha,hb⟩ hr
 |slc ha hr h1 h2 h3 h4 h5=>exact .slc ⟨ha,hb⟩ hr h1 h2 h3 h4 h5
 |bfn h=>cases h with
  |dang ha hr=>exact .bfn (.dang ⟨ha,hb⟩ hr)
  |ptr ha hr hs=>exact .bfn (.ptr ⟨ha,hb⟩ hr hs)
 |dangm ha hr=>exact .dangm ⟨ha,hb⟩ hr
 |mp ha hr hs=>exact .mp ⟨ha,hb⟩ hr hs
 |dangi ha hr=>exact .dangi ⟨ha,hb⟩ hr
 |it ha hr hs=>exact .it ⟨ha,hb⟩ hr hs
 |junk=>exact .junk
 |lit=>exact .lit
 |dang ha hr=>exact .dang ⟨ha,hb⟩ hr
 |dangs ha hr=>exact .dangs ⟨ha,hb⟩ hr
 |ptr ha hr hs=>exact .ptr ⟨ha,hb⟩ hr hs
 |sl ha hr h1 h2 h3 h4 h5=>exact .sl ⟨ha,hb⟩ hr h1 h2 h3 h4 h5
 |sl0 ha hr=>exact .sl0 ⟨ha,hb⟩ hr
 |rp g h1 h2 h3=>exact .rp g h1 h2 h3
 |rd0=>exact .rd0
 |rd g h1 hcap hn h2 h3 h4=>exact .rd g h1 hcap hn h2 h3 h4
 |agg h1 h2=>simp[iL]at hb
 |tup h1 h2=>simp[iL]at hb
 | fn h1 h2=>rename_i f caps cs;cases caps with
   |nil=>exact .fn h1 (λ j v hj=>by simp at hj)
   |cons=>simp[iL]at hb
def iR{l:List α}{p:α->Bool}(h:l.all p=aB){v:α}(hj:l[j]? =aA v):p v=aB:=
 aY.1 h v (gL hj)
def a0S(h:V w G ρ A v cv)(hb:MG p v=aB):V w G ρ (λ i=>A i/\p i=aB) v cv:=by
 cases v with
 |agg cells=>cases h with|agg h1 h2=>exact .agg h1 λ j v hj=>WP (h2 j v hj) (iR hb hj)
 |fn f cells=>cases h with|fn h1 h2=>exact .fn h1 λ j v hj=>WP (h2 j v hj) (iR hb hj)
 |_=>exact WP h hb
def aEX(h:V w G ρ A v cv)(hb:bd p v=aB):V w G ρ (λ i=>A i/\p i=aB) v cv:=by
 cases v with
 |tup cells=>cases h with|tup h1 h2=>exact .tup h1 λ j v hj=>a0S (h2 j v hj) (iR hb hj)
 |_=>exact a0S h hb
def leF(fr:Fr):Fr->Prop
 |[]=>True
 |(t,v)::r=>look fr t=aA v/\leF fr r
def IA(H:aS):aS->Prop
 |[]=>True
 |(t,v)::r=>look H t=aA v/\IA H r
def bdF(p:Nat->Bool)(fr:Fr):Bool:=fr.all λ x=>bd p x.2
def oU(p:Nat->Bool)(H:aS):Bool:=H.all λ x=>p x.1&&(x.2.pure||x.2.rows.all λ row=>row.all (iL p))
def kC(k:Nat):Nat->Bool:=λ i=>decide (i<k)
def aCQ{fr:Fr}:∀ {fr1:Fr},leF fr fr1->∀t v,look fr1 t=aA v->look fr t=aA v
 |[],_,t,v,h=>by simp[look]at h
 |(t',v')::r,⟨h1,h2⟩,t,v,h=>by
  simp only[look]at h;split at h;.rename_i he;subst he;cases h;exact h1
  exact aCQ h2 t v h
def QG{H:aS}:∀ {H1:aS},IA H H1->∀t v,look H1 t=aA v->look H t=aA v
 |[],_,t,v,h=>by simp[look]at h
 |(t',v')::r,⟨h1,h2⟩,t,v,h=>by
  simp only[look]at h;split at h;.rename_i he;subst he;cases h;exact h1
  exact QG h2 t v h
def DH{α:Type}{p:Nat×α->Bool}:∀ {l:List (Nat×α)},l.all p=aB->∀ {t v},look l t=aA v->p (t,v)=aB
 |[],_,t,v,h=>by simp[look]at h
 |(t',v')::r,ha,t,v,h=>by
  simp only[gI,aO]at ha;simp only[look]at h;split at h;.rename_i he;subst he;cases h;exact ha.1
  exact DH ha.2 h
end
def Vs(w:World)(G:Nat->Prop)(ρ:dH)(A:cF)(vs:List AVal)(cs:Array Value):Prop:=
 vs.length=cs.size/\∀j v,vs[j]? =aA v->V w G ρ A v (cs.getD j undef)
def Tr(P:Program)(Γ:dW)(f:FuncId)(k:Nat)(args:List AVal)(H:aS)(Q:Nat->AVal->aS->Prop):Prop:=
 ∀ A:cF,(∀i,A i->i<k)->∀w G ρ cargs,HRel Γ w G ρ (bK H A)->Vs w G ρ A args cargs→
   Calls P f cargs w λ e w'=>∃cv G' ρ' k' r H',e= .returned cv/\Q k' r H'/\k<=k'/\HRel Γ w' G' ρ' (bK H' (kI A k k'))/\V w' G' ρ' (kI A k k') r cv/\Step (lX k) w G ρ w' G' ρ'
variable{H:aS}
def Tr.mono{Γ:dW}{f:FuncId}{k:Nat}{args:List AVal}{Q':Nat->AVal->aS->Prop}(h:Tr P Γ f k args H Q)(hq:∀k r H,Q k r H->Q' k r H):
 Tr P Γ f k args H Q':=λ A hA w G ρ cargs h1 h2=>
 (h A hA w G ρ cargs h1 h2).mono λ _ _ ⟨cv,G',ρ',k',r,H',he,hQ,rest⟩=>⟨cv,G',ρ',k',r,H',he,hq _ _ _ hQ,rest⟩
def tU:Nat->List AVal->Fr
 |_,[]=>[]
 |i,v::r=>(i,v)::tU (i+1) r
def RZ:∀(l:List AVal) (i t:Nat) (v:AVal),look (tU i l) t=aA v->i<=t/\l[t-i]? =aA v
 |[],i,t,v,h=>by simp[tU,look]at h
 |x::r,i,t,v,h=>by
  simp only[tU,look]at h;split at h;.rename_i he;subst he;cases h;exact⟨aJ _,by simp⟩
  rename_i hne;obtain⟨h1,h2⟩:=RZ r (i+1) t v h;refine⟨oO,?_⟩;have e:t-i=(t-(i+1))+1:=oO;rw[e,fY];exact h2
def jT(H:mP)(A:cF):List (Nat×Option Blk)->mP
 |[]=>H
 |(id,x)::r=>λ i=>if i=id then x.map λ B=>(B,A)else jT H A r i
def fQ(ρ:dH)(n:Nat)(x:Option (Nat×Nat)):dH:=λ i=>if i=n then x else ρ i
section
variable{Γ:dW}{w w':World}{G G':Nat->Prop}{ρ ρ':dH}{H:mP}
def BRel.step{b:Nat}(hB:BRel w G ρ A B b)(h:HRel Γ w G ρ H)(hs:Step S w G ρ w' G' ρ')(hS:∀i,A i->S i)(hA:∀i,A i->A' i)(hb:w'.heap[b]? =w.heap[b]?):
 BRel w' G' ρ' A' B b:=by
 obtain⟨⟨C,o,hC,hr⟩,hl⟩:=hB;refine⟨⟨C,o,⟨hb.trans hC.1,hC.2⟩,λ r row c v h1 h2=>?_⟩,hl⟩;obtain⟨cv,h3,h4⟩:=hr r row c v h1 h2;refine⟨cv,h3,?_⟩;by_cases hp:B.pure=aB
 .simp only[hp,if_true]at h4⊢
  exact h4.mono hs.g (λ b hb=>hs.keep b (h.ro b hb) (λ ho=>h.owned_not_ro ho hb)) hs.shape (λ _ h=>h) (λ _ h=>h.elim)
 simp only[hp]at h4⊢
 exact h4.step h hs hS hA
def HRel.after(h:HRel Γ w G ρ H)(hs:Step S w G ρ w' G' ρ')(H':mP)(hdom:∀id,H' id=aC->ρ' id=aC)
 (hblk:∀id B A,H' id=aA (B,A)->A id∧
   ((∃A0 b,H id=aA (B,A0)/\(∀i,A0 i->A i)/\(∀i,A0 i->S i)/\ρ' id=ρ id/\ρ id=aA (b,B.sz)/\w'.heap[b]? =w.heap[b]? /\¬G' b)∨
    (∃b,ρ' id=aA (b,B.sz)/\¬G' b/\BRel w' G' ρ' A B b)))
 (hinj:∀i j b s t,ρ' i=aA (b,s)->ρ' j=aA (b,t)->i=j) (hro:∀b,G' b->b<w'.heap.size):HRel Γ w' G' ρ' H' where
 dom:=hdom
 blk:=λ id B A hH=>by
  obtain⟨hA,hc⟩:=hblk id B A hH;refine⟨hA,?_⟩;rcases hc with⟨A0,b,h0,hA0,hS,hρ,hb,hk,hg⟩|hc;.obtain⟨_,b',hb',_,hBR⟩:=h.blk id B A0 h0;rw[hb]at hb';cases hb';exact⟨b,hρ.trans hb,hg,hBR.step h hs hS hA0 hk⟩
  exact hc
 inj:=hinj
 ro:=hro
 glob:=KM h hs
def yD(w:World)(o:Obj){b:Nat}(hb:b<w.heap.size):(w.alloc o).heap[b]? =w.heap[b]? :=by show(w.heap.push o)[b]? =_;rw[Array.getElem?_push,iN (Nat.ne_of_lt hb)]
def jD(w:World)(o:Obj):(w.alloc o).heap[w.heap.size]? =aA o:=by show(w.heap.push o)[w.heap.size]? =_;rw[Array.getElem?_push,iP rfl]
def mB(n sz:Nat)(o:Obj)(w1:World)(hw1:w1.heap=w.heap)(h1:w1.os=w.os)(h2:w1.tape=w.tape)(h3:w1.output=w.output):
 Step (λ i=>i≠n) w G ρ (w1.alloc o) G (fQ ρ n (aA (w.heap.size,sz))) where
 size:=by show _<=(w1.heap.push o).size;rw[Array.size_push,hw1];omega
 keep:=λ b hb _=>by rw[yD w1 o (by rw[hw1];exact hb),hw1]
 shape:=λ b hb=>shp_of (by rw[yD w1 o (by rw[hw1];exact hb),hw1])
 g:=λ _ h=>h
 g':=λ _ h=> .inl h
 own:=by
  rintro b ⟨id,s,hb⟩;simp only[fQ]at hb;split at hb;.cases hb;exact .inr (aJ _)
  exact .inl ⟨id,s,hb⟩
 ids:=λ id hi=> .inr (by simp[fQ,hi])
 os:=h1
 tape:=h2
 output:=h3
def HRel.allocO (h:HRel Γ w G ρ H)(n:Nat)(hn:ρ n=aC)(hf:∀id B A,H id=aA (B,A)->¬A n)(B:Blk)(C:Array Value)(o:Obj)(ho:ObjC o C)(A A':cF)(hAn:¬A n)(hA:∀i,A i->A' i)(hA':A' n)
 (hl:∀(r:Nat) row,B.rows[r]? =aA row->row.length=B.sz)
 (hr:∀r row c v,B.rows[r]? =aA row->row[c]? =aA v->∃cv,C[r*B.sz+c]? =aA cv/\V w G (if B.pure then bX else ρ) (if B.pure then cQ else A) v cv)
 (w1:World) (hw1:w1.heap=w.heap) (h1:w1.os=w.os) (h2:w1.tape=w.tape) (h3:w1.output=w.output):
 HRel Γ (w1.alloc o) G (fQ ρ n (aA (w.heap.size,B.sz))) (jT H A' [(n,aA B)]):=by
 have hs:=mB (G:=G) (ρ:=ρ) n B.sz o w1 hw1 h1 h2 h3;refine h.after hs _ ?_ ?_ ?_ ?_
 .intro id hid;simp only[jT]at hid;split at hid;.cases hid
  rename_i hne;simp only[fQ,hne,if_false];exact h.dom id hid
 .intro id B' A0 hid;simp only[jT]at hid;split at hid
  .rename_i he;subst he;cases hid;refine⟨hA',.inr ⟨w.heap.size,by simp[fQ],λ hg=>absurd (h.ro _ hg) (oX _),⟨⟨C,o,⟨by rw[<-hw1];exact jD w1 _,ho⟩,λ r row c v hrow hc=>?_⟩,hl⟩⟩⟩;obtain⟨cv,hcv,hv⟩:=hr r row c v hrow hc;refine⟨cv,hcv,?_⟩;by_cases hp:B.pure=aB
   .simp only[hp,if_true]at hv⊢
    exact hv.mono hs.g (λ b hb=>hs.keep b (h.ro b hb) (λ ho=>h.owned_not_ro ho hb)) hs.shape (λ _ h=>h) (λ _ h=>h.elim)
   simp only[hp]at hv⊢
   exact hv.step h hs (λ i hi=>λ he=>hAn (he▸hi)) hA
  rename_i hne;obtain⟨hAid,b,hb,hg,hBR⟩:=h.blk id B' A0 hid;refine⟨hAid,.inl ⟨A0,b,hid,λ _ h=>h,λ i hi he=>hf id B' A0 hid (he▸hi),by simp[fQ,hne],hb,?_,hg⟩⟩;have hlt:=h.owned_lt ⟨id,_,hb⟩;rw[yD w1 _ (by rw[hw1];exact hlt),hw1]
 .intro i j b s t hi hj;simp only[fQ]at hi hj;split at hi<;>split at hj;.rename_i e1 e2;rw[e1,e2]
  .cases hi;exact absurd (h.owned_lt ⟨j,t,hj⟩) (oX _)
  .cases hj;exact absurd (h.owned_lt ⟨i,s,hi⟩) (oX _)
  exact h.inj i j b s t hi hj
 intro b hb;have:=h.ro b hb;show b<(w1.heap.push _).size;rw[Array.size_push,hw1];omega
def HRel.alloc (h:HRel Γ w G ρ H)(n:Nat)(hn:ρ n=aC)(hf:∀id B A,H id=aA (B,A)->¬A n)(B:Blk)(C:Array Value)(ty:TypeId)(A A':cF)(hAn:¬A n)(hA:∀i,A i->A' i)(hA':A' n)
 (hl:∀(r:Nat) row,B.rows[r]? =aA row->row.length=B.sz)
 (hr:∀r row c v,B.rows[r]? =aA row->row[c]? =aA v->∃cv,C[r*B.sz+c]? =aA cv/\V w G (if B.pure then bX else ρ) (if B.pure then cQ else A) v cv)
 (w1:World) (hw1:w1.heap=w.heap) (h1:w1.os=w.os) (h2:w1.tape=w.tape) (h3:w1.output=w.output):
 HRel Γ (w1.alloc (.cells C ty)) G (fQ ρ n (aA (w.heap.size,B.sz))) (jT H A' [(n,aA B)]):=
 h.allocO n hn hf B C (.cells C ty) .cells A A' hAn hA hA' hl hr w1 hw1 h1 h2 h3
def a9Z{b:Nat}{ty:TypeId}(hC:w'.heap[b]? =aA (.cells C ty (0,0)))(h:w'.shape? b=w.shape? b):shp w' b=shp w b:=by
 have e:shp w' b=aA (aA (ty,C.size)):=by unfold shp;rw[hC];rfl
 rw[EH,EH,e]at h;rw[e]
 cases hw:shp w b with
 |none=>rw[hw]at h;cases h
 | some x=>rw[hw]at h;cases x with
   |none=>cases h
   |some y=>cases h;rfl
def HRel.rewriteO(h:HRel Γ w G ρ H){id b:Nat}(hb:ρ id=aA (b,B.sz))(n:Nat)(hn:n=id\/(ρ n=aC/\∀i B A,H i=aA (B,A)->¬A n))
 (B':Blk) (hsz:B'.sz=B.sz) (C':Array Value) (o:Obj) (ho:ObjC o C') (A A':cF) (hAn:n=id\/¬A n) (hA:∀i,A i->A' i) (hA':A' n)
 (w':World) (hC:w'.heap[b]? =aA o) (hother:∀j,j≠b->w'.heap[j]? =w.heap[j]?) (hsize:w'.heap.size=w.heap.size) (hshape:shp w' b=shp w b)
 (h1:w'.os=w.os) (h2:w'.tape=w.tape) (h3:w'.output=w.output)
 (hl:∀(r:Nat) row,B'.rows[r]? =aA row->row.length=B'.sz)
 (hr:∀r row c v,B'.rows[r]? =aA row->row[c]? =aA v->∃cv,C'[r*B'.sz+c]? =aA cv/\V w G (if B'.pure then bX else ρ) (if B'.pure then cQ else A) v cv):
 HRel Γ w' G (fQ (fQ ρ id aC) n (aA (b,B.sz))) (jT H A' [(n,aA B'),(id,aC)])/\Step (λ i=>i≠n\/n=id) w G ρ w' G (fQ (fQ ρ id aC) n (aA (b,B.sz))):=by
 have hbo:mK ρ b:=⟨id,_,hb⟩;have hbg:=h.owned_not_ro hbo
 have hs:Step (λ i=>i≠n\/n=id) w G ρ w' G (fQ (fQ ρ id aC) n (aA (b,B.sz))):=by
  refine⟨oO,λ j hj ho=>hother j (λ he=>ho (he▸hbo)),λ j hj=>?_,λ _ h=>h,λ _ h=> .inl h,?_,?_,h1,h2,h3⟩
  .by_cases he:j=b;.rw[he];exact hshape
   exact shp_of (hother j he)
  .rintro j ⟨i,s,hj⟩;simp only[fQ]at hj;split at hj;.cases hj;exact .inl hbo
   split at hj;.cases hj
   exact .inl ⟨i,s,hj⟩
  intro i hi;simp only[fQ];split
  .rename_i he;rcases hi with hi|hi;.exact absurd he hi
   right;rw[he,hi,hb]
  split;.exact .inl rfl
  exact .inr rfl
 refine⟨h.after hs _ ?_ ?_ ?_ ?_,hs⟩
 .intro i hi;simp only[jT]at hi;simp only[fQ];split at hi;.cases hi
  rename_i h4;rw[iN h4];split at hi;.rename_i h5;rw[iP h5]
  rename_i h5;rw[iN h5];exact h.dom i hi
 .intro i B1 A1 hi;simp only[jT]at hi;split at hi
  .rename_i he;subst he;cases hi;refine⟨hA',.inr ⟨b,by simp[fQ,hsz],hbg,⟨⟨C',o,⟨hC,ho⟩,λ r row c v hrow hc=>?_⟩,hl⟩⟩⟩;obtain⟨cv,hcv,hv⟩:=hr r row c v hrow hc;refine⟨cv,hcv,?_⟩;by_cases hp:B'.pure=aB
   .simp only[hp,if_true]at hv⊢
    exact hv.mono hs.g (λ b hb=>hs.keep b (h.ro b hb) (λ ho=>h.owned_not_ro ho hb)) hs.shape (λ _ h=>h) (λ _ h=>h.elim)
   simp only[hp]at hv⊢
   refine hv.step h hs (λ j hj=>?_) hA;rcases hAn with e|e;.exact .inr e
   exact .inl (λ he=>e (he▸hj))
  rename_i hne;split at hi;.cases hi
  rename_i hne2;obtain⟨hAid,b1,hb1,hg1,hBR⟩:=h.blk i B1 A1 hi;refine⟨hAid,.inl ⟨A1,b1,hi,λ _ h=>h,λ j hj=>?_,by simp[fQ,hne,hne2],hb1,hother b1 ?_,hg1⟩⟩
  .rcases hn with e|⟨_,e⟩;.exact .inr e
   exact .inl (λ he=>e i B1 A1 hi (he▸hj))
  rintro rfl;exact hne2 (h.inj i id _ _ _ hb1 hb)
 .intro i j c s t hi hj;simp only[fQ]at hi hj;split at hi<;>split at hj;.rename_i e1 e2;rw[e1,e2]
  .rename_i e1 e2;cases hi;split at hj;.cases hj
   rename_i e3;exact absurd (h.inj j id _ _ _ hj hb) e3
  .rename_i e1 e2;cases hj;split at hi;.cases hi
   rename_i e3;exact absurd (h.inj i id _ _ _ hi hb) e3
  split at hi;.cases hi
  split at hj;.cases hj
  exact h.inj i j c s t hi hj
 intro c hc;rw[hsize];exact h.ro c hc
def uC(h:HRel Γ w G ρ H){id b:Nat}(hb:ρ id=aA (b,B.sz))(n:Nat)(hn:n=id\/(ρ n=aC/\∀i B A,H i=aA (B,A)->¬A n))
 (B':Blk) (hsz:B'.sz=B.sz) (C':Array Value) (ty:TypeId) (A A':cF) (hAn:n=id\/¬A n) (hA:∀i,A i->A' i) (hA':A' n)
 (w':World) (hC:w'.heap[b]? =aA (.cells C' ty (0,0))) (hother:∀j,j≠b->w'.heap[j]? =w.heap[j]?) (hsize:w'.heap.size=w.heap.size) (hshape:w'.shape? b=w.shape? b)
 (h1:w'.os=w.os) (h2:w'.tape=w.tape) (h3:w'.output=w.output)
 (hl:∀(r:Nat) row,B'.rows[r]? =aA row->row.length=B'.sz)
 (hr:∀r row c v,B'.rows[r]? =aA row->row[c]? =aA v->∃cv,C'[r*B'.sz+c]? =aA cv/\V w G (if B'.pure then bX else ρ) (if B'.pure then cQ else A) v cv):
 HRel Γ w' G (fQ (fQ ρ id aC) n (aA (b,B.sz))) (jT H A' [(n,aA B'),(id,aC)])/\Step (λ i=>i≠n\/n=id) w G ρ w' G (fQ (fQ ρ id aC) n (aA (b,B.sz))):=
 h.rewriteO hb n hn B' hsz C' (.cells C' ty (0,0)) .cells A A' hAn hA hA' w' hC hother hsize (a9Z hC hshape) h1 h2 h3 hl hr
def UA(S:cF)(hw:w'.heap=w.heap)(h1:w'.os=w.os)(h2:w'.tape=w.tape)(h3:w'.output=w.output):Step S w G ρ w' G ρ:=
 ⟨by rw[hw];exact aJ _,λ _ _ _=>by rw[hw],λ _ _=>shp_of (by rw[hw]),λ _ h=>h,λ _ h=> .inl h,λ _ h=> .inl h,λ _ _=> .inr rfl,h1,h2,h3⟩
def HRel.same (h:HRel Γ w G ρ H)(hw:w'.heap=w.heap)(h1:w'.os=w.os)(h2:w'.tape=w.tape)(h3:w'.output=w.output):HRel Γ w' G ρ H:=
 h.after (UA (λ _=>True) hw h1 h2 h3) H h.dom (λ id B A hH=>by obtain⟨hA,b,hb,hg,_⟩:=h.blk id B A hH;exact⟨hA,.inl ⟨A,b,hH,λ _ h=>h,λ _ _=>trivial,rfl,hb,by rw[hw],hg⟩⟩) h.inj (λ b hb=>by rw[hw];exact h.ro b hb)
def HRel.allow (h:HRel Γ w G ρ H)(H':mP)(hd:∀id,H' id=aC->H id=aC)(hh:∀id B A',H' id=aA (B,A')->∃A,H id=aA (B,A)/\∀i,A i->A' i):HRel Γ w G ρ H':=
 h.after (lF (λ _=>True) _ _ _) H' (λ id hid=>h.dom id (hd id hid)) (λ id B A' hH=>by obtain⟨A,h1,h2⟩:=hh id B A' hH;obtain⟨hA,b,hb,hg,_⟩:=h.blk id B A h1;exact⟨h2 id hA,.inl ⟨A,b,h1,h2,λ _ _=>trivial,rfl,hb,rfl,hg⟩⟩) h.inj h.ro
end
structure Out where
 v:AVal
 k:Nat
 upd:List (Nat×Option Blk)
 rds:List Nat
def OpOk(P:Program)(Γ:dW)(o:Oper)(ev:Operand->Option AVal)(get:Nat->Option Blk)(k:Nat)(out:Out):Prop:=
 ∀ w G ρ H (A:cF) (a:Act),HRel Γ w G ρ H->(∀i,A i->i<k)->(∀i,k<=i->i<out.k->ρ i=aC/\∀id B A',H id=aA (B,A')->¬A' i)→
   (∀id,id∈out.rds->∃B A',get id=aA B/\H id=aA (B,A')/\∀i,A' i->A i)→
   (∀x,x∈o.op.operands->∀v,ev x=aA v->V w G ρ A v (a.eval x))→
   ∀ (next:Act->World->Prop) (Q:Exit->Act->World->Prop),
     (∀w' G' ρ' cv,HRel Γ w' G' ρ' (jT H (λ i=>A i\/(k<=i/\i<out.k)) out.upd)->V w' G' ρ' (λ i=>A i\/(k<=i/\i<out.k)) out.v cv→
       Step (λ i=>¬(k<=i/\i<out.k)) w G ρ w' G' ρ'->next (a.put o.dst cv) w')->o.wp P a w next Q
section
variable{P:Program}{Γ:dW}{o:Oper}{ev:Operand->Option AVal}{get:Nat->Option Blk}{k:Nat}
def cL{rds:List Nat}
 (h:∀w G ρ H (A:cF) (a:Act),HRel Γ w G ρ H->(∀id,id∈rds->∃B A',get id=aA B/\H id=aA (B,A')/\∀i,A' i->A i)→
   (∀x,x∈o.op.operands->∀v,ev x=aA v->V w G ρ A v (a.eval x))->∃cv,(execOp a.eval o).run P w= .ok (.value cv) w/\V w G ρ A v cv):
 OpOk P Γ o ev get k ⟨v,k,[],rds⟩:=by
 intro w G ρ H A a hr hA hf hrd hop next Q hn
 obtain⟨cv,hrun,hv⟩:=h w G ρ H A a hr hrd hop;unfold Oper.wp;rw[hrun];refine hn w G ρ cv ?_ (hv.mono (λ _ h=>h) (λ _ _=>rfl) (λ _ _=>rfl) (λ _ h=> .inl h) (λ _ _=> .inr rfl)) (lF _ _ _ _);exact hr
def aWD:AVal->Option Value
 | .lit v=>aA v
 | .fn f []=>aA (.func (.func f) #[] #[])
 |_=>aC
def nY:List AVal->Option (List Value)
 |[]=>aA []
 | x::r=>match aWD x,nY r with
   |some v,aA vs=>aA (v::vs)
   |_,_=>aC
def TZ:AVal->Option Value
 | .agg cs=>(nY cs).map λ l=> .agg l.toArray
 |v=>aWD v
def aLS(h:V w G ρ A v cv)(hl:aWD v=aA u):cv=u:=by
 cases h with
 |lit=>cases hl;rfl
 |fn h1 h2=>
  rename_i f caps cs
  cases caps with
  |nil=>cases hl;have:cs= #[]:=kH (by simpa using h1.symm);rw[this]
  |cons=>cases hl
 |_=>cases hl
def aCM:∀ {cs:List AVal} {vs:List Value},nY cs=aA vs->vs.length=cs.length/\∀ {w:World} {G:Nat->Prop} {ρ:dH} {A:cF} {j:Nat} {v:AVal} {cv:Value},cs[j]? =aA v->V w G ρ A v cv->vs[j]? =aA cv
 |[],vs,h=>by cases h;exact⟨rfl,λ hj=>by simp at hj⟩
 |x::r,vs,h=>by
  simp only[nY]at h;split at h
  .rename_i v vs' h1 h2;cases h;obtain⟨hl,ih⟩:=aCM h2;refine⟨by simp[hl],λ {w G ρ A j u cv} hj hv=>?_⟩
   cases j with
   |zero=>simp only[lY,aA.injEq]at hj⊢;subst hj;exact(aLS hv h1).symm
   |succ j=>simp only[fY]at hj⊢;exact ih hj hv
  cases h
def ND(h:V w G ρ A v cv)(hl:TZ v=aA u):cv=u:=by
 cases v with
 |agg cells=>
  simp only[TZ,aK]at hl;obtain⟨vs,h1,rfl⟩:=hl
  cases h with
  |agg h2 h3=>
   rename_i cs;obtain⟨h4,h5⟩:=aCM h1;congr 1;apply aJX;.simp[h4,h2]
   intro i hi1 hi2;have hc:i<cells.length:=oO;have h6:=h5 (aN hc) (h3 i _ (aN hc));rw[aM,aW hi1]at h6;rw[List.getElem_toArray];have h7:=(aL.1 h6).2;exact h7.symm
 |_=>exact aLS h hl
def NI{α:Type}(P:Program):Sem α->Option α
 | .pure a=>aA a
 | .program k=>NI P (k P)
 | .mark _ k=>NI P k
 |_=>aC
def aBP(P:Program)(w:World):∀(s:Sem α) (v:α),NI P s=aA v->s.run P w= .ok v w:=by
 intro s
 induction s with
 |pure a=>intro v h;cases h;rfl
 |program kk ih=>intro v h;exact ih P v h
 |mark m kk ih=>intro v h;exact ih v h
 |_=>intro v h;cases h
def aLH(ho:o.op= .move x\/o.op= .assign x)(hx:ev x=aA v):OpOk P Γ o ev get k ⟨v,k,[],[]⟩:=by
 refine cL λ w G ρ H A a hr _ hop=>⟨a.eval x,?_,hop x ?_ v hx⟩;.rcases ho with ho|ho<;>simp[execOp,ho]
 rcases ho with ho|ho<;>simp[ho,Op.operands]
def a3D{c:Operand}{t:Bool}(ho:o.op= .pick c x y)(hc:ev c=aA (.lit (.bool t)))(hx:(if t then ev x else ev y)=aA v):OpOk P Γ o ev get k ⟨v,k,[],[]⟩:=by
 refine cL λ w G ρ H A a hr _ hop=>?_;have h1:a.eval c= .bool t:=iB (hop c pS _ hc)
 cases t with
 |true=>simp only[if_true]at hx;exact⟨a.eval x,by simp[execOp,ho,h1,asBool],hop x pS v hx⟩
 |false=>exact⟨a.eval y,by simp[execOp,ho,h1,asBool],hop y pS v (by simpa using hx)⟩
def LO(ho:o.op= .nilCheck x)(hx:ev x=aA v)(hv:(∃c,v= .rp c)\/(∃i r c,v= .ptr i r c/\(get i).isSome)):
 OpOk P Γ o ev get k ⟨v,k,[],match v with| .ptr i _ _=>[i]|_=>[]⟩:=by
 refine cL λ w G ρ H A a hr hrd hop=>⟨a.eval x,?_,hop x pS v hx⟩;have h1:=hop x pS v hx;rcases hv with⟨c,rfl⟩|⟨i,r,c,rfl,_⟩
 .generalize hev:a.eval x=cv at h1⊢
  cases h1 with
  |rp=>simp[execOp,ho,hev]
 generalize hev:a.eval x=cv at h1⊢
 obtain⟨B,A',_,hH,_⟩:=hrd i (by simp);obtain⟨_,b,hb,_⟩:=hr.blk i B A' hH
 cases h1 with
 |dang _ hn=>rw[hb]at hn;cases hn
 |ptr=>simp[execOp,ho,hev]
def cC(P:Program)(s f:Nat):Option Nat:=
 match P.underlying s with
 | some (.struct fields)=>match fields[f]? with
   | some x=>match P.info? x.type with
     |some i=>if i.size=0 then aC else aA x.offset
     |none=>aC
   |none=>aC
 |_=>aC
def II{f b o':Nat}(h:cC P s f=aA off)(w:World):(Instr.fieldAt s (.pointer (aA ⟨b,o',aC⟩)) f).run P w= .ok (.pointer (aA ⟨b,o'+off,aC⟩)) w:=by
 unfold cC at h;split at h
 .rename_i fields hu;split at h
  .rename_i x hx;split at h
   .rename_i i hi;split at h;.cases h
    rename_i hz;cases h;simp[Instr.fieldAt,underlying,hu,hx,Instr.sureAddr,fieldPlace,sizeOf,typeInfo,hi,hz,Addr.add_mid]
   cases h
  cases h
 cases h
def IJ{f:Nat}(ho:o.op= .fieldAddr s x f)(hoff:cC P s f=aA off)
 (hx:(∃cells,ev x=aA (.rp cells)/\v= .rp (cells.drop off))\/(∃i r c,ev x=aA (.ptr i r c)/\(get i).isSome/\v= .ptr i r (c+off))):
 OpOk P Γ o ev get k ⟨v,k,[],match v with| .ptr i _ _=>[i]|_=>[]⟩:=by
 refine cL λ w G ρ H A a hr hrd hop=>?_;rcases hx with⟨cells,hx,rfl⟩|⟨i,r,c,hx,_,rfl⟩
 .have h1:=hop x pS _ hx;generalize hev:a.eval x=cv at h1
  cases h1 with
  |rp g hb hc hv=>
   refine⟨_,by simp only[execOp,ho,hev];simp[II hoff w];rfl,.rp (λ j=>g (off+j)) hb (λ j v hj=>?_) (λ j v hj=>?_)⟩;.rw[fJ]at hj;rw[gM];exact hc _ v hj
   rw[fJ]at hj;exact hv _ v hj
 have h1:=hop x pS _ hx;obtain⟨B,A',_,hH,_⟩:=hrd i (by simp);obtain⟨_,b,hb,_⟩:=hr.blk i B A' hH;generalize hev:a.eval x=cv at h1
 cases h1 with
 |dang _ hn=>rw[hb]at hn;cases hn
 |ptr ha hρ hsh=>refine⟨_,by simp only[execOp,ho,hev];simp[II hoff w];rfl,?_⟩;rw[gM];exact .ptr ha hρ hsh
end
def pG(P:Program)(t:TypeId):Option Nat:=(P.info? t).map (·.size)
def kK(P:Program)(t:TypeId):Option Bool:=
 match P.underlying t with
 |some d=>aA d.isRow
 |none=>aC
def DQ(P:Program)(t:TypeId):Option Nat:=
 match P.underlying t with
 |some (.slice e)=>pG P e
 |_=>aC
def EZ(P:Program)(t:TypeId):Option (Nat×Nat):=
 match P.underlying t with
 |some (.array n e)=>(pG P e).map λ s=>(n,s)
 |_=>aC
section
variable{P:Program}{Γ:dW}{o:Oper}{ev:Operand->Option AVal}{get:Nat->Option Blk}{k:Nat}
def IN(h:DQ P t=aA s):∃e i,P.underlying t=aA (.slice e)/\P.info? e=aA i/\i.size=s:=by
 unfold DQ at h;split at h;.rename_i e he;simp only[pG,aK]at h;obtain⟨i,hi,hs⟩:=h;exact⟨e,i,he,hi,hs⟩
 cases h
def aEL(h:EZ P t=aA (n,s)):∃e i,P.underlying t=aA (.array n e)/\P.info? e=aA i/\i.size=s:=by
 unfold EZ at h;split at h;.rename_i m e he;simp only[pG,Option.map_map,aK]at h;obtain⟨i,hi,hs⟩:=h;cases hs;exact⟨e,i,he,hi,rfl⟩
 cases h
def xO(h:DQ P t=aA s)(b off n cap:Nat)(kk:IntKind)(i:Int)(h0:0<=i)(h1:i<n)(w:World):
 (Instr.indexAt t (.slice (aA ⟨b,off,aC⟩) n cap) (.int kk i)).run P w= .ok (.pointer (aA ⟨b,off+i.toNat*s,aC⟩)) w:=by obtain⟨e,inf,hu,hi,rfl⟩:=IN h;simp[Instr.indexAt,asIntOf,underlying,hu,h0,h1,sizeOf,typeInfo,hi,Addr.add_mid]
def xP(h:EZ P t=aA (m,s))(b off:Nat)(kk:IntKind)(i:Int)(h0:0<=i)(h1:i<m)(w:World):
 (Instr.indexAt t (.pointer (aA ⟨b,off,aC⟩)) (.int kk i)).run P w= .ok (.pointer (aA ⟨b,off+i.toNat*s,aC⟩)) w:=by obtain⟨e,inf,hu,hi,rfl⟩:=aEL h;simp[Instr.indexAt,asIntOf,underlying,hu,h0,h1,sizeOf,typeInfo,hi,Addr.add_mid,Instr.sureAddr]
def aCX{f:Nat->List AVal}{i:Int}(ho:o.op= .indexAddr t x y)(hs:DQ P t=aA s)(hx:ev x=aA (.rd s n f))(hy:ev y=aA (.lit (.int kk i)))
 (h0:0<=i) (h1:i<n):OpOk P Γ o ev get k ⟨.rp (f i.toNat),k,[],[]⟩:=by
 refine cL λ w G ρ H A a hr _ hop=>?_;have hvx:=hop x pS _ hx;have hvy:=iB (hop y pS _ hy);generalize hev:a.eval x=cv at hvx
 cases hvx with
 |rd0=>omega
 |rd g hb hcap hn hl hc hv=>refine⟨_,by simp only[execOp,ho,hev,hvy];simp[xO hs _ _ _ _ kk i h0 h1 w],.rp (λ j=>g i.toNat j) hb (λ j v hj=>hc i.toNat j v oO hj) (λ j v hj=>hv i.toNat j v oO hj)⟩
def aCV{id:Nat}{i:Int}(ho:o.op= .indexAddr t x y)(hs:DQ P t=aA s)(hx:ev x=aA (.sl id r n))(hy:ev y=aA (.lit (.int kk i)))
 (hB:get id=aA B) (hsz:B.sz=s) (h0:0<=i) (h1:i<n):OpOk P Γ o ev get k ⟨.ptr id (r+i.toNat) 0,k,[],[id]⟩:=by
 refine cL λ w G ρ H A a hr hrd hop=>?_;have hvx:=hop x pS _ hx;have hvy:=iB (hop y pS _ hy);obtain⟨B',A',h2,hH,_⟩:=hrd id (by simp);rw[hB]at h2;cases h2;obtain⟨_,b,hb,_⟩:=hr.blk id B A' hH;generalize hev:a.eval x=cv at hvx
 cases hvx with
 |dangs _ hn=>rw[hb]at hn;cases hn
 |sl0=>omega
 |sl ha hρ hsh hm hn hc hoff=>
  rw[hb]at hρ;cases hρ;rename_i cap off;have hoff':off=r*B.sz:=hoff.resolve_left oO;subst hoff';refine⟨_,by simp only[execOp,ho,hev,hvy];simp[xO hs _ _ _ _ kk i h0 h1 w];rfl,?_⟩;have e:r*B.sz+i.toNat*s=(r+i.toNat)*B.sz+0:=by rw[hsz,cW,kG]
  rw[e];exact .ptr ha hb hsh
def aCW{cells:List AVal}{i:Int}(ho:o.op= .indexAddr t x y)(hs:EZ P t=aA (m,s))(hx:ev x=aA (.rp cells))(hy:ev y=aA (.lit (.int kk i)))
 (h0:0<=i) (h1:i<m):OpOk P Γ o ev get k ⟨.rp (cells.drop (i.toNat*s)),k,[],[]⟩:=by
 refine cL λ w G ρ H A a hr _ hop=>?_;have hvx:=hop x pS _ hx;have hvy:=iB (hop y pS _ hy);generalize hev:a.eval x=cv at hvx
 cases hvx with
 |rp g hb hc hv=>
  refine⟨_,by simp only[execOp,ho,hev,hvy];simp[xP hs _ _ kk i h0 h1 w];rfl,.rp (λ j=>g (i.toNat*s+j)) hb (λ j v hj=>?_) (λ j v hj=>?_)⟩;.rw[fJ]at hj;rw[gM];exact hc _ v hj
  rw[fJ]at hj;exact hv _ v hj
def YJ{id c:Nat}{i:Int}(ho:o.op= .indexAddr t x y)(hs:EZ P t=aA (m,s))(hx:ev x=aA (.ptr id r c))(hy:ev y=aA (.lit (.int kk i)))
 (hB:get id=aA B) (h0:0<=i) (h1:i<m):OpOk P Γ o ev get k ⟨if B.sz=s/\c=0 then .ptr id (r+i.toNat) 0 else .ptr id r (c+i.toNat*s),k,[],[id]⟩:=by
 refine cL λ w G ρ H A a hr hrd hop=>?_;have hvx:=hop x pS _ hx;have hvy:=iB (hop y pS _ hy);obtain⟨B',A',h2,hH,_⟩:=hrd id (by simp);rw[hB]at h2;cases h2;obtain⟨_,b,hb,_⟩:=hr.blk id B A' hH;generalize hev:a.eval x=cv at hvx
 cases hvx with
 |dang _ hn=>rw[hb]at hn;cases hn
 |ptr ha hρ hsh=>
  rw[hb]at hρ;cases hρ;refine⟨_,by simp only[execOp,ho,hev,hvy];simp[xP hs _ _ kk i h0 h1 w];rfl,?_⟩;split
  .rename_i hc;have e:r*B.sz+c+i.toNat*s=(r+i.toNat)*B.sz+0:=by rw[hc.2,<-hc.1,cW];omega
   rw[e];exact .ptr ha hb hsh
  rw[gM];exact .ptr ha hb hsh
def iX(agg:Bool)(n:Nat)(row:List AVal)(c:Nat):Option AVal:=
 if agg then(if c+n<=row.length then aA (.agg ((row.drop c).take n))else aC)else row[c]?
def XI{b:Nat}(ht:kK P t=aA aB)(hn:pG P t=aA n)(cs:List Value)(hl:cs.length=n)(w:World)(hc:w.rangeAt b off cs):
 (Instr.loadAt t (.pointer (aA ⟨b,off,aC⟩))).run P w= .ok (.agg cs.toArray) w:=by
 unfold kK at ht;split at ht
 .rename_i d hd
  cases hdr:d.isRow with
  |false=>rw[hdr]at ht;cases ht
  |true=>exact run_loadAt_mid w b off t cs d hc hd hdr (by rw[hl];exact hn)
 cases ht
def XH{b:Nat}(ht:kK P t=aA aF)(u:Value)(w:World)(hc:w.cell? ⟨b,off,aC⟩=aA u):
 (Instr.loadAt t (.pointer (aA ⟨b,off,aC⟩))).run P w= .ok u w:=by
 unfold kK at ht;split at ht
 .rename_i d hd;have hagg:(isAgg t).run P w= .ok aF w:=by unfold isAgg;rw[bS,run_underlying hd w];cases d<;>simp_all
  simp[Instr.loadAt,Instr.sureAddr,loadVar,bS,hagg,hc]
 cases ht
def bDJ(cells:List AVal)(g:Nat->Value)(hv:∀(j:Nat) v,cells[j]? =aA v->V w G ρ A v (g j)):
 V w G ρ A (.agg cells) (.agg ((aR cells.length).map g).toArray):=by
 refine .agg (by simp) λ j v hj=>?_;have hlt:=(aL.1 hj).1;have:((aR cells.length).map g).toArray.getD j undef=g j:=by rw[aM,cH,aV,nD hlt];rfl
 rw[this];exact hv j v hj
def yW{b c:Nat}{row:List AVal}(ht:kK P t=aA ag)(hn:pG P t=aA n)(hp:iX ag n row c=aA v)
 (g:Nat->Value) (hc:∀j u,row[j]? =aA u->w.cell? ⟨b,off+j,aC⟩=aA (g j)) (hv:∀j u,row[j]? =aA u->V w G ρ A u (g j)):
 ∃cv,(Instr.loadAt t (.pointer (aA ⟨b,off+c,aC⟩))).run P w= .ok cv w/\V w G ρ A v cv:=by
 unfold iX at hp
 cases ag with
 |true=>
  simp only[if_true]at hp;split at hp
  .rename_i hle;cases hp;have hlen:((row.drop c).take n).length=n:=by simp;omega
   have hsub:∀(j:Nat) u,((row.drop c).take n)[j]? =aA u->row[c+j]? =aA u:=λ j u hj=>by
    rw[fA]at hj;split at hj;.rw[fJ]at hj;exact hj
    cases hj
   have hV:=bDJ (w:=w) (G:=G) (ρ:=ρ) (A:=A) ((row.drop c).take n) (λ j=>g (c+j)) (λ j u hj=>hv _ u (hsub j u hj));refine⟨_,XI ht hn ((aR ((row.drop c).take n).length).map λ j=>g (c+j)) (by simpa using hlen) w ?_,hV⟩;intro j u hj;rw[aV]at hj;simp only[aK]at hj;obtain⟨i,hi,rfl⟩:=hj;have hi':=aL.1 hi;obtain⟨hlt,he⟩:=hi';simp at he;subst he;have hlt':j<((row.drop c).take n).length:=by simpa using hlt
   rw[gM];exact hc (c+j) _ (hsub j _ (aN hlt'))
  cases hp
 |false=>simp only[bP,if_false]at hp;exact⟨g c,XH ht _ w (hc c v hp),hv c v hp⟩
def aGW{cells:List AVal}(ho:o.op= .load t x)(ht:kK P t=aA ag)(hn:pG P t=aA n)(hx:ev x=aA (.rp cells))
 (hp:iX ag n cells 0=aA v):OpOk P Γ o ev get k ⟨v,k,[],[]⟩:=by
 refine cL λ w G ρ H A a hr _ hop=>?_;have hvx:=hop x pS _ hx;generalize hev:a.eval x=cv at hvx
 cases hvx with
 |rp g hb hc hv=>obtain⟨cv,hrun,hV⟩:=yW (P:=P) (G:=G) (ρ:=bX) (A:=cQ) ht hn hp g hc hv;exact⟨cv,by simp only[execOp,ho,hev];simp only[kG]at hrun;simp[hrun],hV.weaken⟩
def aCK{id c:Nat}{row:List AVal}(ho:o.op= .load t x)(ht:kK P t=aA ag)(hn:pG P t=aA n)(hx:ev x=aA (.ptr id r c))
 (hB:get id=aA B) (hrow:B.rows[r]? =aA row) (hp:iX ag n row c=aA v):OpOk P Γ o ev get k ⟨v,k,[],[id]⟩:=by
 refine cL λ w G ρ H A a hr hrd hop=>?_;have hvx:=hop x pS _ hx;obtain⟨B',A',h2,hH,hAA⟩:=hrd id (by simp);rw[hB]at h2;cases h2;obtain⟨_,b,hb,_,hBR⟩:=hr.blk id B A' hH;generalize hev:a.eval x=cv at hvx
 cases hvx with
 |dang _ hn=>rw[hb]at hn;cases hn
 |ptr ha hρ hsh=>
  rw[hb]at hρ;cases hρ;obtain⟨⟨C,ty,hC,hrows⟩,hlen⟩:=hBR.old hsh;have hcell:∀j u,row[j]? =aA u->w.cell? ⟨b,r*B.sz+j,aC⟩=aA (C.getD (r*B.sz+j) undef):=λ j u hj=>by obtain⟨cv,h3,_⟩:=hrows r row j u hrow hj;rw[cell_of_row w b _ C ty (0,0) hC,h3,aM,h3];rfl
  have hval:∀j u,row[j]? =aA u->V w G ρ A u (C.getD (r*B.sz+j) undef):=λ j u hj=>by
   obtain⟨cv,h3,h4⟩:=hrows r row j u hrow hj;rw[aM,h3];by_cases hp:B.pure=aB;.simp only[hp,if_true]at h4;exact h4.weaken
   simp only[hp]at h4;exact h4.mono (λ _ h=>h) (λ _ _=>rfl) (λ _ _=>rfl) hAA (λ _ _=> .inr rfl)
  obtain⟨cv,hrun,hV⟩:=yW (P:=P) ht hn hp (λ j=>C.getD (r*B.sz+j) undef) hcell hval;exact⟨cv,by simp only[execOp,ho,hev];simp[hrun],hV⟩
def gK(P:Program)(t:TypeId):Bool:=match P.underlying t with|some (.slice _)=>aB|_=>aF
def aWJ(ho:o.op= .call {callee:= .builtin .len,args:= #[x],argTypes:=ty})(hty:ty[0]? =aA t)(ht:gK P t=aB)
 (hx:ev x=aA v) (hv:(∃s f,v= .rd s n f)\/(∃id r,v= .sl id r n/\(get id).isSome)):
 OpOk P Γ o ev get k ⟨.lit (.int .i64 n),k,[],match v with| .sl id _ _=>[id]|_=>[]⟩:=by
 refine cL λ w G ρ H A a hr hrd hop=>?_;have hvx:=hop x pC _ hx;unfold gK at ht
 have hsl:∃p m c,a.eval x= .slice p m c/\m=n:=by
  generalize hev:a.eval x=cv at hvx;rcases hv with⟨s,f,rfl⟩|⟨id,r,rfl,_⟩
  .cases hvx with
   |rd0=>exact⟨_,_,_,rfl,rfl⟩
   |rd=>exact⟨_,_,_,rfl,rfl⟩
  obtain⟨B',A',h2,hH,_⟩:=hrd id (by simp);obtain⟨_,b,hb,_⟩:=hr.blk id B' A' hH
  cases hvx with
  |dangs _ hn=>rw[hb]at hn;cases hn
  |sl=>exact⟨_,_,_,rfl,rfl⟩
  |sl0=>exact⟨_,_,_,rfl,rfl⟩
 obtain⟨p,m,c,hev,rfl⟩:=hsl;split at ht;.rename_i e hu;refine⟨.int .i64 m,?_,.lit⟩;simp[execOp,ho,resolve,invoke,builtin,Builtin.len_,hty,hev,underlying,hu,goInt]
 cases ht
def aHU{i:Nat}(ho:o.op= .extract x i)(hx:ev x=aA (.tup vs))(hv:vs[i]? =aA v):OpOk P Γ o ev get k ⟨v,k,[],[]⟩:=by
 refine cL λ w G ρ H A a hr _ hop=>?_;have hvx:=hop x pS _ hx;generalize hev:a.eval x=cv at hvx
 cases hvx with
 |tup hl hvs=>rename_i cs;have hlt:=(aL.1 hv).1;have h2:=hvs i v hv;obtain⟨u,hg,hu⟩:∃u,cs[i]? =aA u/\cs.getD i undef=u:=⟨cs[i]'oO,aW oO,by rw[aM,aW oO];rfl⟩;rw[hu]at h2;exact⟨u,by simp[execOp,ho,hev,Instr.extract,hg],h2⟩
def fieldAt(P:Program)(s f:Nat):Option (Nat×Nat×Bool):=
 match P.underlying s with
 | some (.struct fields)=>match fields[f]? with
   | some x=>match kK P x.type,pG P x.type with
     |some ag,aA n=>aA (x.offset,n,ag)
     |_,_=>aC
   |none=>aC
 |_=>aC
def aBI(ht:kK P t=aA ag)(hn:pG P t=aA n)(cells:List AVal)(off:Nat)(v:AVal)(hp:iX ag n cells off=aA v)(cs:Array Value)(hl:cells.length=cs.size)
     (hv:∀(j:Nat) u,cells[j]? =aA u->V w G ρ A u (cs.getD j undef)):∃cv,(part t cs off).run P w= .ok cv w/\V w G ρ A v cv:=by
 unfold kK at ht;split at ht
 .rename_i d hd;have hagg:(isAgg t).run P w= .ok d.isRow w:=by unfold isAgg;rw[bS,run_underlying hd w];cases d<;>simp_all
  cases ht;simp only[pG,aK]at hn;obtain⟨inf,hinf,rfl⟩:=hn;unfold iX at hp
  cases hrow:d.isRow with
  |true=>
   simp only[hrow,if_true]at hp;split at hp
   .rename_i hle;cases hp;refine⟨.agg (cs.extract off (off+inf.size)),by simp[part,hagg,hrow,sizeOf,typeInfo,hinf],.agg sO λ j u hj=>?_⟩;rw[fA]at hj;split at hj
    .rename_i hlt;rw[fJ]at hj;have h2:=hv _ u hj;have hlt2:=(aL.1 hj).1;have e:(cs.extract off (off+inf.size)).getD j undef=cs.getD (off+j) undef:=by rw[aM,aM,Array.getElem?_extract_of_lt oO,aW oO]
     rw[e];exact h2
    cases hj
   cases hp
  |false=>simp only[hrow,bP,if_false]at hp;have hlt:=(aL.1 hp).1;obtain⟨u,hg,hu⟩:∃u,cs[off]? =aA u/\cs.getD off undef=u:=⟨cs[off]'oO,aW oO,by rw[aM,aW oO];rfl⟩;have h2:=hv off v hp;rw[hu]at h2;exact⟨u,by simp[part,hagg,hrow,hg],h2⟩
 cases ht
def aXP{f:Nat}{cells:List AVal}(ho:o.op= .field s x f)(hf:fieldAt P s f=aA (off,n,ag))(hx:ev x=aA (.agg cells))
 (hp:iX ag n cells off=aA v):OpOk P Γ o ev get k ⟨v,k,[],[]⟩:=by
 refine cL λ w G ρ H A a hr _ hop=>?_;have hvx:=hop x pS _ hx;generalize hev:a.eval x=cv at hvx;unfold fieldAt at hf;split at hf
 .rename_i fields hu;split at hf
  .rename_i fl hfl;split at hf
   .rename_i ag' n' h1 h2;cases hf
    cases hvx with
    |agg hl hvs=>obtain⟨cv,hrun,hV⟩:=aBI h1 h2 cells _ v hp _ hl hvs;exact⟨cv,by simp[execOp,ho,hev,Instr.field,underlying,hu,hfl,asAgg,hrun],hV⟩
   cases hf
  cases hf
 cases hf
def YK{cells:List AVal}{i:Int}{e:TypeId}(ho:o.op= .index t x y)(hu:P.underlying t=aA (.array m e))(ht:kK P e=aA ag)(hs:pG P e=aA s)
 (hx:ev x=aA (.agg cells)) (hy:ev y=aA (.lit (.int kk i))) (h0:0<=i) (h1:i<m) (hp:iX ag s cells (i.toNat*s)=aA v):OpOk P Γ o ev get k ⟨v,k,[],[]⟩:=by
 refine cL λ w G ρ H A a hr _ hop=>?_;have hvx:=hop x pS _ hx;have hvy:=iB (hop y pS _ hy);generalize hev:a.eval x=cv at hvx
 cases hvx with
 |agg hl hvs=>obtain⟨cv,hrun,hV⟩:=aBI ht hs cells _ v hp _ hl hvs;simp only[pG,aK]at hs;obtain⟨inf,hinf,rfl⟩:=hs;exact⟨cv,by simp[execOp,ho,hev,hvy,Instr.index,asIntOf,underlying,hu,h0,h1,sizeOf,typeInfo,hinf,hrun],hV⟩
def aCH{f:FuncId}(ho:o.op= .makeFunc (.func f) #[] caps)(hl:vs.length=caps.size)(hc:∀(j:Nat) x v,caps[j]? =aA x->vs[j]? =aA v->ev x=aA v):
 OpOk P Γ o ev get k ⟨.fn f vs,k,[],[]⟩:=by
 refine cL λ w G ρ H A a hr _ hop=>⟨.func (.func f) #[] (caps.map a.eval),by simp[execOp,ho,Instr.makeFunc],.fn (by simpa using hl) λ j v hj=>?_⟩;have hlt:=(aL.1 hj).1;have hx:caps[j]? =aA caps[j]:=aW oO;have e:(caps.map a.eval).getD j undef=a.eval caps[j]:=by rw[aM,Array.getElem?_map,hx];rfl
 rw[e];exact hop _ (by simp[ho,Op.operands,bQU hx]) v (hc j _ v hx hj)
end
def clean:AVal->Bool
 | .lit _=>aB
 | .rd .. =>aB
 | .rp _=>aB
 | .junk=>aB
 | .fn _ []=>aB
 | .nn=>aB
 |_=>aF
def one:AVal->Bool
 | .lit v=>v.oneCell'
 | .junk=>aF
 | .agg _=>aF
 | .tup _=>aF
 |_=>aB
def xB:AVal->Option (List AVal)
 | .agg cs=>aA cs
 | .lit (.agg cs)=>aA (cs.toList.map .lit)
 | .junk=>aC
 | .tup _=>aC
 |v=>aA [v]
def pI(s n:Nat)(cells:List AVal):List (List AVal):=(aR n).map λ i=>(cells.drop (i*s)).take s
def DB(P:Program)(t:TypeId)(cells:List AVal):Blk:=
 match EZ P t with
 |some (n,s)=>if 0<s/\cells.length=n*s then⟨s,cells.all clean,pI s n cells⟩else⟨cells.length,cells.all clean,[cells]⟩
 |none=>⟨cells.length,cells.all clean,[cells]⟩
def jP(P:Program)(t:TypeId):Option (List AVal):=((P.info? t).bind (·.zero)).map λ z=>z.cells.toList.map .lit
def IY(h:V w G ρ A v cv)(hc:clean v=aB):V w G bX cQ v cv:=by
 cases h with
 |junk=>exact .junk
 |lit=>exact .lit
 |rp g h1 h2 h3=>exact .rp g h1 h2 h3
 |nn=>exact .nn
 |rd0=>exact .rd0
 |rd g h1 h2 h3 h4 h5 h6=>exact .rd g h1 h2 h3 h4 h5 h6
 | fn h1 h2=>rename_i f caps cs;cases caps with
   |nil=>exact .fn h1 (λ j v hj=>by simp at hj)
   |cons=>simp[clean]at hc
 |_=>simp[clean]at hc
def aBX(h:V w G ρ A v cv)(hc:one v=aB):cv.oneCell'=aB:=by cases h<;>simp_all [one,Value.oneCell']
def JF{cs:List AVal}(h:V w G ρ A v cv)(hc:xB v=aA cs):
 cs.length=cv.cells.size/\∀(j:Nat) u,cs[j]? =aA u->V w G ρ A u (cv.cells.getD j undef):=by
 have single:∀(x:Value),(∀ys,x≠ .agg ys)->x.cells= #[x]:=λ x hx=>by cases x<;>simp_all [Value.cells]
 cases h with
 |junk=>cases hc
 |tup h1 h2=>cases hc
 |agg h1 h2=>cases hc;exact⟨h1,h2⟩
 |lit=>
  cases cv with
  |agg ys=>
   cases hc;refine⟨by simp[Value.cells],λ j u hj=>?_⟩;simp only[aV,aK]at hj;obtain⟨x,hx,rfl⟩:=hj;have:(Value.agg ys).cells.getD j undef=x:=by simp only[Value.cells];rw[aM,<-bH,hx];rfl
   rw[this];exact .lit
  |_=>
   cases hc;refine⟨rfl,λ j u hj=>?_⟩
   cases j with
   |zero=>cases hj;exact .lit
   |succ j=>simp at hj
 |dang h1 h2=>cases hc;exact⟨rfl,λ j u hj=>by cases j with|zero=>cases hj;exact .dang h1 h2|succ j=>simp at hj⟩
 |dangs h1 h2=>cases hc;exact⟨rfl,λ j u hj=>by cases j with|zero=>cases hj;exact .dangs h1 h2|succ j=>simp at hj⟩
 |ptr h1 h2 h3=>cases hc;exact⟨rfl,λ j u hj=>by cases j with|zero=>cases hj;exact .ptr h1 h2 h3|succ j=>simp at hj⟩
 |dangm h1 h2=>cases hc;exact⟨rfl,λ j u hj=>by cases j with|zero=>cases hj;exact .dangm h1 h2|succ j=>simp at hj⟩
 |mp h1 h2 h3=>cases hc;exact⟨rfl,λ j u hj=>by cases j with|zero=>cases hj;exact .mp h1 h2 h3|succ j=>simp at hj⟩
 |dangi h1 h2=>cases hc;exact⟨rfl,λ j u hj=>by cases j with|zero=>cases hj;exact .dangi h1 h2|succ j=>simp at hj⟩
 |it h1 h2 h3=>cases hc;exact⟨rfl,λ j u hj=>by cases j with|zero=>cases hj;exact .it h1 h2 h3|succ j=>simp at hj⟩
 |sl h1 h2 h3 h4 h5 h6 h7=>cases hc;exact⟨rfl,λ j u hj=>by cases j with|zero=>cases hj;exact .sl h1 h2 h3 h4 h5 h6 h7|succ j=>simp at hj⟩
 |sl0 h1 h2=>cases hc;exact⟨rfl,λ j u hj=>by cases j with|zero=>cases hj;exact .sl0 h1 h2|succ j=>simp at hj⟩
 |rp g h1 h2 h3=>cases hc;exact⟨rfl,λ j u hj=>by cases j with|zero=>cases hj;exact .rp g h1 h2 h3|succ j=>simp at hj⟩
 |rd0=>cases hc;exact⟨rfl,λ j u hj=>by cases j with|zero=>cases hj;exact .rd0|succ j=>simp at hj⟩
 |rd g h1 h2 h3 h4 h5 h6=>cases hc;exact⟨rfl,λ j u hj=>by cases j with|zero=>cases hj;exact .rd g h1 h2 h3 h4 h5 h6|succ j=>simp at hj⟩
 |fn h1 h2=>cases hc;exact⟨rfl,λ j u hj=>by cases j with|zero=>cases hj;exact .fn h1 h2|succ j=>simp at hj⟩
 |nn=>cases hc;exact⟨rfl,λ j u hj=>by cases j with|zero=>cases hj;exact .nn|succ j=>simp at hj⟩
 |dangc h1 h2=>cases hc;exact⟨rfl,λ j u hj=>by cases j with|zero=>cases hj;exact .dangc h1 h2|succ j=>simp at hj⟩
 |slc h1 h2 h3 h4 h5 h6 h7=>cases hc;exact⟨rfl,λ j u hj=>by cases j with|zero=>cases hj;exact .slc h1 h2 h3 h4 h5 h6 h7|succ j=>simp at hj⟩
 |bfn h1=>cases hc;exact⟨rfl,λ j u hj=>by cases j with|zero=>cases hj;exact .bfn h1|succ j=>simp at hj⟩
def RO{cells:List AVal}{row:List AVal}(h:(pI s n cells)[r]? =aA row):r<n/\row=(cells.drop (r*s)).take s:=by unfold pI at h;rw[aV]at h;simp only[aK]at h;obtain⟨i,hi,rfl⟩:=h;obtain⟨hlt,he⟩:=aL.1 hi;simp at he hlt;subst he;exact⟨hlt,rfl⟩
def DU{cells:List AVal}{c:Nat}{row:List AVal}(h:(pI s n cells)[r]? =aA row)(hc:row[c]? =aA v):cells[r*s+c]? =aA v:=by
 obtain⟨_,rfl⟩:=RO h;rw[fA]at hc;split at hc;.rw[fJ]at hc;exact hc
 cases hc
def GK{cells:List AVal}(hl:cells.length=n*s){row:List AVal}(h:(pI s n cells)[r]? =aA row):row.length=s:=by obtain⟨hlt,rfl⟩:=RO h;have:(r+1)*s<=n*s:=bZ s hlt;rw[cW]at this;simp;omega
def aJU(cells:List AVal)(B:Blk):Prop:=(∀(r:Nat) row,B.rows[r]? =aA row->row.length=B.sz)/\∀(r:Nat) row (c:Nat) v,B.rows[r]? =aA row->row[c]? =aA v->cells[r*B.sz+c]? =aA v
def LP(P:Program)(t:TypeId)(cells:List AVal):aJU cells (DB P t cells)/\(DB P t cells).pure=cells.all clean:=by
 have one_row:aJU cells ⟨cells.length,cells.all clean,[cells]⟩:=by
  refine⟨λ r row h=>?_,λ r row c v h hc=>?_⟩
  .cases r with
   |zero=>cases h;rfl
   |succ r=>simp at h
  cases r with
  |zero=>cases h;simpa using hc
  |succ r=>simp at h
 unfold DB;split
 .split;.rename_i h;exact⟨⟨λ r row hr=>GK h.2 hr,λ r row c v hr hc=>DU hr hc⟩,rfl⟩
  exact⟨one_row,rfl⟩
 exact⟨one_row,rfl⟩
section
variable{P:Program}{Γ:dW}{o:Oper}{ev:Operand->Option AVal}{get:Nat->Option Blk}{k:Nat}
def JJ{cells:List AVal}{rds:List Nat}(hB:aJU cells B)(hp:B.pure=aB->cells.all clean=aB)
 (h:∀w G ρ H (A:cF) (a:Act),HRel Γ w G ρ H->(∀id,id∈rds->∃B A',get id=aA B/\H id=aA (B,A')/\∀i,A' i->A i)→
   (∀x,x∈o.op.operands->∀v,ev x=aA v->V w G ρ A v (a.eval x))→
   ∃ (C:Array Value) (ty:TypeId) (w1:World) (cv:Value),(execOp a.eval o).run P w= .ok (.value cv) (w1.alloc (.cells C ty))/\w1.heap=w.heap/\w1.os=w.os/\w1.tape=w.tape/\w1.output=w.output∧
     (∀(j:Nat) u,cells[j]? =aA u->∃cu,C[j]? =aA cu/\V w G ρ A u cu)∧
     ((v= .ptr k 0 0/\cv= .pointer (aA ⟨w.heap.size,0,aC⟩))\/(∃n cap,v= .sl k 0 n/\cv= .slice (aA ⟨w.heap.size,0,aC⟩) n cap/\n<=cap/\cap<=maxLen/\cap*B.sz<=C.size))):
 OpOk P Γ o ev get k ⟨v,k+1,[(k,aA B)],rds⟩:=by
 intro w G ρ H A a hr hA hf hrd hop next Q hn
 obtain⟨C,ty,w1,cv,hrun,hw,ho,ht,hou,hC,hv⟩:=h w G ρ H A a hr hrd hop;have hkA:¬A k:=λ hk=>oX _ (hA k hk);obtain⟨hρ,hfr⟩:=hf k (aJ _) (cY _);unfold Oper.wp;rw[hrun]
 have hcon:∀r row c v,B.rows[r]? =aA row->row[c]? =aA v->∃cv,C[r*B.sz+c]? =aA cv/\V w G (if B.pure then bX else ρ) (if B.pure then cQ else A) v cv:=λ r row c v h1 h2=>by
  have h3:=hB.2 r row c v h1 h2;obtain⟨cu,h4,h5⟩:=hC _ v h3;refine⟨cu,h4,?_⟩;by_cases hpb:B.pure=aB;.simp only[hpb,if_true];exact IY h5 (iR (hp hpb) h3)
  simp only[hpb];exact h5
 have hrel:=hr.alloc k hρ hfr B C ty A (λ i=>A i\/(k<=i/\i<k+1)) hkA (λ _ h=> .inl h) (.inr ⟨aJ _,cY _⟩) hB.1 hcon w1 hw ho ht hou;have hst:=mB (w:=w) (G:=G) (ρ:=ρ) k B.sz (.cells C ty) w1 hw ho ht hou;refine hn _ G _ cv hrel ?_ ⟨hst.size,hst.keep,hst.shape,hst.g,hst.g',hst.own,λ id hid=>hst.ids id (λ he=>hid (oO:k<=id/\id<k+1)),hst.os,hst.tape,hst.output⟩;rcases hv with⟨rfl,rfl⟩|⟨n,cap,rfl,rfl,h1,h2,h3⟩
 .have:=V.ptr (w:=w1.alloc (.cells C ty)) (G:=G) (ρ:=fQ ρ k (aA (w.heap.size,B.sz))) (A:=λ i=>A i\/(k<=i/\i<k+1)) (id:=k) (r:=0) (c:=0) (b:=w.heap.size) (s:=B.sz) (.inr ⟨aJ _,cY _⟩) (by simp[fQ]) (ty:=ty) (m:=C.size) (by have:=jD w1 (.cells C ty);rw[hw]at this;simp[World.shape?,this])
  simpa using this
 refine .sl (b:=w.heap.size) (s:=B.sz) (ty:=ty) (m:=C.size) (.inr ⟨aJ _,cY _⟩) (by simp[fQ]) ?_ (by simpa using h3) h1 h2 (.inr (by simp));have:=jD w1 (.cells C ty);rw[hw]at this;simp[World.shape?,this]
def a0I{cells:List AVal}(ho:o.op= .alloc t)(hz:jP P t=aA cells):OpOk P Γ o ev get k ⟨.ptr k 0 0,k+1,[(k,aA (DB P t cells))],[]⟩:=by
 have hb:=LP P t cells;refine JJ hb.1 (λ h=>hb.2▸h) λ w G ρ H A a hr _ hop=>?_;simp only[jP,aK,cJ]at hz;obtain⟨z,⟨i,hi,hz⟩,rfl⟩:=hz;refine⟨z.cells,t,w,.pointer (aA ⟨w.heap.size,0,aC⟩),?_,rfl,rfl,rfl,rfl,λ j u hj=>?_,.inl ⟨rfl,rfl⟩⟩;.simp[execOp,ho,Instr.alloc,zeroValue,typeInfo,hi,hz,newVar,newRow]
 simp only[aV,aK]at hj;obtain⟨x,hx,rfl⟩:=hj;exact⟨x,by rw[<-bH];exact hx,.lit⟩
def AO(h:j<cs.size):cs[j]? =aA (cs.getD j undef):=by rw[aM,aW h];rfl
def bCW{cells:List AVal}(ho:o.op= .box t x)(hx:ev x=aA v)(hc:xB v=aA cells):OpOk P Γ o ev get k ⟨.ptr k 0 0,k+1,[(k,aA (DB P t cells))],[]⟩:=by
 have hb:=LP P t cells;refine JJ hb.1 (λ h=>hb.2▸h) λ w G ρ H A a hr _ hop=>?_;obtain⟨hl,hv⟩:=JF (hop x pS v hx) hc;refine⟨(a.eval x).cells,t,w,.pointer (aA ⟨w.heap.size,0,aC⟩),?_,rfl,rfl,rfl,rfl,λ j u hj=>?_,.inl ⟨rfl,rfl⟩⟩;.simp[execOp,ho,Instr.box,newVar,newRow]
 have hlt:=(aL.1 hj).1;exact⟨_,AO oO,hv j u hj⟩
def iD(P:Program)(t:TypeId):Option (Nat×Nat×List AVal):=
 match P.underlying t with
 | some (.slice e)=>match P.info? e with
   | some i=>match i.zero with
     |some z=>if z.cells.size=i.size/\0<i.size then aA (i.size,i.bytes,z.cells.toList.map .lit)else aC
     |none=>aC
   |none=>aC
 |_=>aC
def FR(hs:z.size=s)(h0:0<s){c:Nat}(hr:r<n)(hc:c<s):(madeCells z (n*s))[r*s+c]? =z[c]? :=by
 unfold madeCells;have hlt:r*s+c<n*s:=by have:(r+1)*s<=n*s:=bZ s hr;rw[cW]at this;omega
 have hm:(r*s+c)%s=c:=by rw[bQQ,Nat.add_mul_mod_self_right];exact LC hc
 rw[Array.getElem?_map,Array.getElem?_range,iP hlt];simp only[bO,hs,hm];rw[Array.getElem!_eq_getD,aM,aW oO];rfl
def a4E{kl kc:IntKind}{l c:Int}(ho:o.op= .makeSlice t x y)(hz:iD P t=aA (s,by',zrow))(hx:ev x=aA (.lit (.int kl l)))(hy:ev y=aA (.lit (.int kc c)))
 (h0:0<=l) (h1:l<=c) (h2:(by':Int)*c<=281474976710656) (h3:c<=9223372036854775807):
 OpOk P Γ o ev get k ⟨.sl k 0 l.toNat,k+1,[(k,aA ⟨s,aB,bI l.toNat zrow⟩)],[]⟩:=by
 unfold iD at hz;split at hz
 .rename_i e hu;split at hz
  .rename_i i hi;split at hz
   .rename_i z hzz;split at hz
    .rename_i hsz;cases hz
     have hlen:∀(r:Nat) row,(bI l.toNat (z.cells.toList.map AVal.lit))[r]? =aA row->r<l.toNat/\row=z.cells.toList.map AVal.lit:=λ r row h=>by
      rw[oY]at h;split at h;.cases h;exact⟨‹_›,rfl⟩
      cases h
     refine JJ (cells:=(madeCells z.cells (c.toNat*i.size)).toList.map .lit) ⟨λ r row h=>by rw[(hlen r row h).2];simp[hsz.1],λ r row j v h hj=>?_⟩ (λ _=>by simp[clean]) λ w G ρ H A a hr _ hop=>?_
     .obtain⟨hr1,rfl⟩:=hlen r row h;rw[aV]at hj⊢
      simp only[aK]at hj⊢
      obtain⟨u,hu1,rfl⟩:=hj;refine⟨u,?_,rfl⟩;have hjlt:j<i.size:=by have:=(aL.1 hu1).1;simp at this;omega
      rw[bH,FR hsz.1 hsz.2 oO hjlt,<-bH];exact hu1
     have hvx:=iB (hop x pS _ hx);have hvy:=iB (hop y pS _ hy);have hrun:=run_make (P:=P) w t e i z hu hi hzz kl kc l c h0 h1 h2 h3;refine⟨madeCells z.cells (c.toNat*i.size),e,w,.slice (aA ⟨w.heap.size,0,aC⟩) l.toNat c.toNat,by simp[execOp,ho,hvx,hvy,hrun],rfl,rfl,rfl,rfl,λ j u hj=>?_,.inr ⟨l.toNat,c.toNat,rfl,rfl,oO,by unfold maxLen;omega,by rw[size_madeCells];exact aJ _⟩⟩;rw[aV]at hj;simp only[aK]at hj;obtain⟨u',hu1,rfl⟩:=hj;exact⟨u',by rw[<-bH];exact hu1,.lit⟩
    cases hz
   cases hz
  cases hz
 cases hz
def EL{l vs:List α}{o:Nat}(h:o+vs.length<=l.length)(i:Nat):
 (l.take o++vs++l.drop (o+vs.length))[i]? =if i<o then l[i]? else if i<o+vs.length then vs[i-o]? else l[i]? :=by
 have ho:(l.take o).length=o:=by simp;omega
 by_cases h1:i<o;.rw[iP h1,dA,gN oO,fA,iP h1]
 rw[iN h1];by_cases h2:i<o+vs.length;.rw[iP h2,dA,iY oO,ho,gN oO]
 rw[iN h2,iY sO,fJ];congr 1;simp;omega
def aPI{sz r' c c':Nat}(h1:c'<sz)(h2:c+n<=sz)(hne:r'≠r):r'*sz+c'<r*sz+c\/r*sz+c+n<=r'*sz+c':=by
 rcases Nat.lt_or_gt_of_ne hne with h|h;.left;have:(r'+1)*sz<=r*sz:=bZ sz h;rw[cW]at this;omega
 right;have:(r+1)*sz<=r'*sz:=bZ sz h;rw[cW]at this;omega
def vX{b:Nat}{ty:TypeId}(hC:w.heap[b]? =aA (.cells C ty (0,0)))(hn:pG P t=aA n)(v:Value)(hv:v.cells.size=n)(h1:∀u∈v.cells.toList,u.oneCell'=aB)(hfit:off+n<=C.size):
 (Instr.storeAt t (.pointer (aA ⟨b,off,aC⟩)) v).run P w= .ok () (w.setRow b (C.toList.take off++v.cells.toList++C.toList.drop (off+v.cells.toList.length)).toArray):=by simp only[pG,aK]at hn;obtain⟨i,hi,rfl⟩:=hn;have:=run_storeCells_at (P:=P) b off ty v.cells.toList 0 C w hC sO h1;simp only[kG]at this;simp only[Instr.storeAt,Instr.sureAddr,storeVar,sizeOf,typeInfo,bS,dO,bJ,run_program,hi,hv];simp[this]
def lG(row vs:List AVal)(c:Nat):List AVal:=row.take c++vs++row.drop (c+vs.length)
def aTF{id c:Nat}{row cells:List AVal}(ho:o.op= .store t x y)(hn:pG P t=aA n)(hx:ev x=aA (.ptr id r c))(hy:ev y=aA v)(hc:xB v=aA cells)
 (hl:cells.length=n) (h1:cells.all one=aB) (hB:get id=aA B) (hrow:B.rows[r]? =aA row) (hfit:c+n<=row.length):
 OpOk P Γ o ev get k ⟨.junk,k,[(id,aA ⟨B.sz,B.pure&&cells.all clean,B.rows.set r (lG row cells c)⟩)],[id]⟩:=by
 intro w G ρ H A a hr hA hf hrd hop next Q hn'
 have hvx:=hop x pS _ hx;have hvy:=hop y pS _ hy;obtain⟨B',A',h2,hH,hAA⟩:=hrd id (by simp);rw[hB]at h2;cases h2;obtain⟨hAid,b,hb,hg,hBR⟩:=hr.blk id B A' hH;have hlen:=hBR.len;obtain⟨hcl,hcv⟩:=JF hvy hc;have hrl:=hlen r row hrow;generalize hev:a.eval x=cv at hvx
 cases hvx with
 |dang _ hn=>rw[hb]at hn;cases hn
 |ptr ha hρ hsh=>
  rw[hb]at hρ;cases hρ;obtain⟨⟨C,ty,hC,hrows⟩,_⟩:=hBR.old hsh
  have hone:∀u∈(a.eval y).cells.toList,u.oneCell'=aB:=λ u hu=>by
   obtain⟨j,hj⟩:=pF hu;have hjl:=(aL.1 hj).1;have hjl':j<cells.length:=by simp at hjl;omega
   have h3:=hcv j _ (aN hjl');have e:(a.eval y).cells.getD j undef=u:=by rw[aM,<-bH,hj];rfl
   rw[e]at h3;exact aBX h3 (iR h1 (aN hjl'))
  have hsz:r*B.sz+row.length<=C.size:=by
   by_cases h0:row.length=0
   .have:0<row.length\/row.length=0:=oO
    cases hrw:row with
    |nil=>
     have:n=0:=by rw[hrw]at hfit;simp at hfit;omega
     rw[hrw]at hrl;simp at hrl;rw[<-hrl];simp
    |cons=>rw[hrw]at h0;simp at h0
   have hlast:row[row.length-1]? =aA row[row.length-1]:=aN oO;obtain⟨cu,h4,_⟩:=hrows r row _ _ hrow hlast;have:=(dK.1 h4).1;omega
  have hrun:=vX (P:=P) (off:=r*B.sz+c) hC hn (a.eval y) oO hone oO;unfold Oper.wp;have hrun':(execOp a.eval o).run P w= .ok .skip (w.setRow b (C.toList.take (r*B.sz+c)++(a.eval y).cells.toList++C.toList.drop (r*B.sz+c+(a.eval y).cells.toList.length)).toArray):=by simp only[execOp,ho,hev];simp[hrun]
  rw[hrun'];have hvl:(a.eval y).cells.toList.length=n:=by simp;omega
  have hseg:=EL (l:=C.toList) (vs:=(a.eval y).cells.toList) (o:=r*B.sz+c) sO
  have hrw:=uC hr hb id (.inl rfl) ⟨B.sz,B.pure&&cells.all clean,B.rows.set r (lG row cells c)⟩ rfl
   (C.toList.take (r*B.sz+c)++(a.eval y).cells.toList++C.toList.drop (r*B.sz+c+(a.eval y).cells.toList.length)).toArray ty A (λ i=>A i\/(k<=i/\i<k)) (.inl rfl) (λ _ h=> .inl h) (.inl (hAA _ hAid))
   (w.setRow b (C.toList.take (r*B.sz+c)++(a.eval y).cells.toList++C.toList.drop (r*B.sz+c+(a.eval y).cells.toList.length)).toArray)
   (setRow_heap w b C _ ty _ hC) (λ j hj=>setRow_other w b j _ hj) (size_setRow _ _ _)
   (by unfold World.shape?;rw[setRow_heap w b C _ ty _ hC,hC];simp;omega)
   rfl rfl rfl ?_ ?_
  .obtain⟨hrel,hst⟩:=hrw
   have hnm:fQ (fQ ρ id aC) id (aA (b,B.sz))=ρ:=funext λ i=>by
    simp only[fQ];split;.rename_i he;rw[he,hb]
    rfl
   rw[hnm]at hrel hst
   have hup:jT H (λ i=>A i\/(k<=i/\i<k)) [(id,aA ⟨B.sz,B.pure&&cells.all clean,B.rows.set r (lG row cells c)⟩),(id,aC)]
    =jT H (λ i=>A i\/(k<=i/\i<k)) [(id,aA ⟨B.sz,B.pure&&cells.all clean,B.rows.set r (lG row cells c)⟩)]:=funext λ i=>by
    simp only[jT];split<;>rfl
   rw[hup]at hrel;exact hn' _ G ρ undef hrel .junk ⟨hst.size,hst.keep,hst.shape,hst.g,hst.g',hst.own,λ i hi=>hst.ids i (.inr rfl),hst.os,hst.tape,hst.output⟩
  .intro r' row' h;simp only[dS]at h;split at h
   .split at h;.cases h;show(lG row cells c).length=B.sz;unfold lG;simp;omega
    cases h
   exact hlen r' row' h
  intro r' row' c' v' h hv';change (B.rows.set r (lG row cells c))[r']? =aA row' at h
  show ∃cv,(C.toList.take (r*B.sz+c)++(a.eval y).cells.toList++C.toList.drop (r*B.sz+c+(a.eval y).cells.toList.length)).toArray[r'*B.sz+c']? =aA cv∧
   V w G (if(B.pure&&cells.all clean)then bX else ρ) (if(B.pure&&cells.all clean)then cQ else A) v' cv
  have hc'lt:=(aL.1 hv').1
  have tovb:∀u cu,V w G (if B.pure then bX else ρ) (if B.pure then cQ else A') u cu->V w G (if(B.pure&&cells.all clean)then bX else ρ) (if(B.pure&&cells.all clean)then cQ else A) u cu:=λ u cu hu=>by
   by_cases hp:B.pure=aB
   .simp only[hp,if_true]at hu;by_cases hq:cells.all clean=aB;.simp only[hp,hq,Bool.and_self,if_true];exact hu
    simp only[hq,MN,bP,if_false];exact hu.weaken
   have hp':B.pure=aF:=by simpa using hp
   simp only[hp',MM,bP,if_false]at hu⊢
   exact hu.mono (λ _ h=>h) (λ _ _=>rfl) (λ _ _=>rfl) hAA (λ _ _=> .inr rfl)
  simp only[dS]at h;rw[cH,hseg];split at h
  .rename_i hre;subst hre;split at h
   .cases h;unfold lG at hv';have hs2:=EL (l:=row) (vs:=cells) (o:=c) oO c';rw[hs2]at hv';by_cases h3:c'<c;.rw[iP h3]at hv';rw[iP oO];obtain⟨cu,h4,h5⟩:=hrows r row c' v' hrow hv';exact⟨cu,by rw[bH];exact h4,tovb _ _ h5⟩
    rw[iN h3]at hv';by_cases h4:c'<c+cells.length
    .rw[iP h4]at hv';rw[iN oO,iP oO];have e:r*B.sz+c'-(r*B.sz+c)=c'-c:=oO;rw[e];refine⟨(a.eval y).cells.getD (c'-c) undef,?_,?_⟩;.rw[bH];exact AO oO
     have h6:=hcv _ _ hv';by_cases hq:(B.pure&&cells.all clean)=aB;.simp only[hq,if_true];simp only[aO]at hq;exact IY h6 (iR hq.2 hv')
     simp only[hq];exact h6
    rw[iN h4]at hv';rw[iN oO,iN oO];obtain⟨cu,h5,h6⟩:=hrows r row c' v' hrow hv';exact⟨cu,by rw[bH];exact h5,tovb _ _ h6⟩
   cases h
  rename_i hre;obtain⟨cu,h5,h6⟩:=hrows r' row' c' v' h hv';have hl':=hlen r' row' h;have hap:=aPI (sz:=B.sz) (r:=r) (r':=r') (c:=c) (c':=c') (n:=n) oO oO (λ e=>hre e.symm);refine⟨cu,?_,tovb _ _ h6⟩;rcases hap with h7|h7;.rw[iP h7,bH];exact h5
  rw[iN oO,iN oO,bH];exact h5
def DM{s:Nat}:∀ {rows:List (List AVal)},(∀(r:Nat) row,rows[r]? =aA row->row.length=s)->∀(j:Nat) u,rows.flatten[j]? =aA u->∃r row c,rows[r]? =aA row/\row[c]? =aA u/\j=r*s+c
 |[],_,j,u,h=>by simp at h
 |x::rest,hl,j,u,h=>by
  rw[List.flatten_cons,dQ]at h;split at h;.exact⟨0,x,j,rfl,h,oO⟩
  rename_i hj;have hx:x.length=s:=hl 0 x rfl;obtain⟨r,row,c,h1,h2,h3⟩:=DM (rows:=rest) (λ r row hr=>hl (r+1) row (by simpa using hr)) (j-x.length) u h;refine⟨r+1,row,c,by simpa using h1,h2,?_⟩;rw[cW];omega
def aCL{id:Nat}(ho:o.op= .load t x)(ht:kK P t=aA ag)(hn:pG P t=aA n)(hx:ev x=aA (.ptr id 0 0))
 (hB:get id=aA B) (hp:iX ag n B.rows.flatten 0=aA v):OpOk P Γ o ev get k ⟨v,k,[],[id]⟩:=by
 refine cL λ w G ρ H A a hr hrd hop=>?_;have hvx:=hop x pS _ hx;obtain⟨B',A',h2,hH,hAA⟩:=hrd id (by simp);rw[hB]at h2;cases h2;obtain⟨_,b,hb,_,hBR⟩:=hr.blk id B A' hH;generalize hev:a.eval x=cv at hvx
 cases hvx with
 |dang _ hn=>rw[hb]at hn;cases hn
 |ptr ha hρ hsh=>
  rw[hb]at hρ;cases hρ;obtain⟨⟨C,ty,hC,hrows⟩,hlen⟩:=hBR.old hsh;have hcell:∀(j:Nat) u,B.rows.flatten[j]? =aA u->w.cell? ⟨b,0*B.sz+j,aC⟩=aA (C.getD (0*B.sz+j) undef):=λ j u hj=>by obtain⟨r,row,c,h3,h4,rfl⟩:=DM hlen j u hj;obtain⟨cv,h5,_⟩:=hrows r row c u h3 h4;rw[rT,eQ,cell_of_row w b _ C ty (0,0) hC,h5,aM,h5];rfl
  have hval:∀(j:Nat) u,B.rows.flatten[j]? =aA u->V w G ρ A u (C.getD (0*B.sz+j) undef):=λ j u hj=>by
   obtain⟨r,row,c,h3,h4,rfl⟩:=DM hlen j u hj;obtain⟨cv,h5,h6⟩:=hrows r row c u h3 h4;rw[rT,eQ,aM,h5];by_cases hp:B.pure=aB;.simp only[hp,if_true]at h6;exact h6.weaken
   simp only[hp]at h6;exact h6.mono (λ _ h=>h) (λ _ _=>rfl) (λ _ _=>rfl) hAA (λ _ _=> .inr rfl)
  obtain⟨cv,hrun,hV⟩:=yW (P:=P) ht hn hp (λ j=>C.getD (0*B.sz+j) undef) hcell hval;rw[rT,eQ]at hrun hev;exact⟨cv,by simp only[execOp,ho,hev];simp[hrun],hV⟩
def XA{id:Nat}{cells:List AVal}(ho:o.op= .store t x y)(hn:pG P t=aA n)(hx:ev x=aA (.ptr id 0 0))(hy:ev y=aA v)(hc:xB v=aA cells)
 (hl:cells.length=n) (h1:cells.all one=aB) (hB:get id=aA B) (hsz0:0<B.sz) (hfit:n=B.rows.length*B.sz):
 OpOk P Γ o ev get k ⟨.junk,k,[(id,aA ⟨B.sz,cells.all clean,pI B.sz B.rows.length cells⟩)],[id]⟩:=by
 intro w G ρ H A a hr hA hf hrd hop next Q hn'
 have hvx:=hop x pS _ hx;have hvy:=hop y pS _ hy;obtain⟨B',A',h2,hH,hAA⟩:=hrd id (by simp);rw[hB]at h2;cases h2;obtain⟨hAid,b,hb,hg,hBR⟩:=hr.blk id B A' hH;have hlen:=hBR.len;obtain⟨hcl,hcv⟩:=JF hvy hc;generalize hev:a.eval x=cv at hvx
 cases hvx with
 |dang _ hn=>rw[hb]at hn;cases hn
 |ptr ha hρ hsh=>
  rw[hb]at hρ;cases hρ;obtain⟨⟨C,ty,hC,hrows⟩,_⟩:=hBR.old hsh
  have hone:∀u∈(a.eval y).cells.toList,u.oneCell'=aB:=λ u hu=>by
   obtain⟨j,hj⟩:=pF hu;have hjl:=(aL.1 hj).1;have hjl':j<cells.length:=by simp at hjl;omega
   have h3:=hcv j _ (aN hjl');have e:(a.eval y).cells.getD j undef=u:=by rw[aM,<-bH,hj];rfl
   rw[e]at h3;exact aBX h3 (iR h1 (aN hjl'))
  have hsz:n<=C.size:=by
   cases hR:B.rows.length with
   |zero=>rw[hR]at hfit;simp at hfit;omega
   |succ q=>have hrow:B.rows[q]? =aA (B.rows[q]'oO):=aN oO;have hrl:=hlen q _ hrow;have hlast:(B.rows[q]'oO)[B.sz-1]? =aA ((B.rows[q]'oO)[B.sz-1]'oO):=aN oO;obtain⟨cu,h4,_⟩:=hrows q _ _ _ hrow hlast;have:=(dK.1 h4).1;rw[hfit,hR,cW];omega
  have hrun:=vX (P:=P) (off:=0*B.sz+0) hC hn (a.eval y) oO hone oO;simp only[rT,eQ]at hrun;unfold Oper.wp;have hrun':(execOp a.eval o).run P w= .ok .skip (w.setRow b (C.toList.take 0++(a.eval y).cells.toList++C.toList.drop (0+(a.eval y).cells.toList.length)).toArray):=by simp only[execOp,ho,hev,rT,eQ,kG];simp at hrun;simp[hrun]
  rw[hrun'];have hvl:(a.eval y).cells.toList.length=n:=by simp;omega
  have hseg:=EL (l:=C.toList) (vs:=(a.eval y).cells.toList) (o:=0) sO
  have hrw:=uC hr hb id (.inl rfl) ⟨B.sz,cells.all clean,pI B.sz B.rows.length cells⟩ rfl
   (C.toList.take 0++(a.eval y).cells.toList++C.toList.drop (0+(a.eval y).cells.toList.length)).toArray ty A (λ i=>A i\/(k<=i/\i<k)) (.inl rfl) (λ _ h=> .inl h) (.inl (hAA _ hAid))
   (w.setRow b (C.toList.take 0++(a.eval y).cells.toList++C.toList.drop (0+(a.eval y).cells.toList.length)).toArray)
   (setRow_heap w b C _ ty _ hC) (λ j hj=>setRow_other w b j _ hj) (size_setRow _ _ _)
   (by unfold World.shape?;rw[setRow_heap w b C _ ty _ hC,hC];simp;omega)
   rfl rfl rfl ?_ ?_
  .obtain⟨hrel,hst⟩:=hrw
   have hnm:fQ (fQ ρ id aC) id (aA (b,B.sz))=ρ:=funext λ i=>by
    simp only[fQ];split;.rename_i he;rw[he,hb]
    rfl
   rw[hnm]at hrel hst
   have hup:jT H (λ i=>A i\/(k<=i/\i<k)) [(id,aA ⟨B.sz,cells.all clean,pI B.sz B.rows.length cells⟩),(id,aC)]
    =jT H (λ i=>A i\/(k<=i/\i<k)) [(id,aA ⟨B.sz,cells.all clean,pI B.sz B.rows.length cells⟩)]:=funext λ i=>by
    simp only[jT];split<;>rfl
   rw[hup]at hrel;exact hn' _ G ρ undef hrel .junk ⟨hst.size,hst.keep,hst.shape,hst.g,hst.g',hst.own,λ i hi=>hst.ids i (.inr rfl),hst.os,hst.tape,hst.output⟩
  .intro r' row' h;exact GK (by rw[hl];exact hfit) h
  intro r' row' c' v' h hv';change (pI B.sz B.rows.length cells)[r']? =aA row' at h
  show ∃cv,(C.toList.take 0++(a.eval y).cells.toList++C.toList.drop (0+(a.eval y).cells.toList.length)).toArray[r'*B.sz+c']? =aA cv∧
   V w G (if(cells.all clean)then bX else ρ) (if(cells.all clean)then cQ else A) v' cv
  have h6:=DU h hv';have hlt:=(aL.1 h6).1;rw[cH,hseg,iN oO,iP oO,vN];refine⟨(a.eval y).cells.getD (r'*B.sz+c') undef,?_,?_⟩;.rw[bH];exact AO oO
  have h7:=hcv _ _ h6;by_cases hq:cells.all clean=aB;.simp only[hq,if_true];exact IY h7 (iR hq h6)
  simp only[hq];exact h7
end
def VL(w:World)(G:Nat->Prop)(ρ:dH)(A:cF)(cells:List AVal)(cs:Array Value):Prop:=
 cells.length=cs.size/\∀(j:Nat) v,cells[j]? =aA v->V w G ρ A v (cs.getD j undef)
def FSq(place:Nat->Option (Nat×Nat))(cells:List AVal):List (Nat×AVal)->Option (List AVal)
 |[]=>aA cells
 | (i,v)::rest=>match place i,xB v with
   |some (off,size),aA vs=>if vs.length=size/\off+size<=cells.length then FSq place (lG cells vs off) rest else aC
   |_,_=>aC
def aDF(off:Nat):∀(l:List Value) (start:Nat) (cs:Array Value),
 ((l.zipIdx start).foldl (λ(cs:Array Value) (x:Value×Nat)=>cs.setIfInBounds (off+x.2) x.1) cs).size=cs.size∧
 ∀ i,((l.zipIdx start).foldl (λ(cs:Array Value) (x:Value×Nat)=>cs.setIfInBounds (off+x.2) x.1) cs)[i]? =
   if off+start<=i/\i<off+start+l.length/\i<cs.size then l[i-off-start]? else cs[i]?
 |[],start,cs=>by refine⟨rfl,λ i=>?_⟩;rw[iN sO];rfl
 |x::r,start,cs=>by
  obtain⟨h1,h2⟩:=aDF off r (start+1) (cs.setIfInBounds (off+start) x);simp only[List.zipIdx_cons,List.foldl_cons];refine⟨by rw[h1];simp,λ i=>?_⟩;rw[h2];by_cases hi:i=off+start
  .subst hi;rw[iN oO];by_cases hs:off+start<cs.size;.rw[iP ⟨oO,by simp,hs⟩,rV hs];have:off+start-off-start=0:=oO;rw[this];rfl
   rw[iN oO,iS sO,iS oO]
  rw[mA (λ e=>hi e.symm)];by_cases hc:off+start<=i/\i<off+start+(x::r).length/\i<cs.size;.rw[iP hc,iP ⟨oO,by simp at hc;omega,by simp;omega⟩];have e:i-off-start=(i-off-(start+1))+1:=oO;rw[e,fY]
  rw[iN hc,iN (by simp at hc⊢;omega)]
def YT{w:World}{G:Nat->Prop}{ρ:dH}{A:cF}(place:Nat->Option (Nat×Nat)):∀(parts:List (Nat×AVal)) (cparts:List (Nat×Value)) (cells cells':List AVal) (cs:Array Value),VL w G ρ A cells cs→
 parts.length=cparts.length->(∀(j:Nat) p cp,parts[j]? =aA p->cparts[j]? =aA cp->p.1=cp.1/\V w G ρ A p.2 cp.2)->FSq place cells parts=aA cells'→
 ∃cs',Instr.fill place cs cparts=aA cs'/\VL w G ρ A cells' cs'
 |[],cparts,cells,cells',cs,hv,hl,hp,hf=>by
  cases cparts with
  |nil=>cases hf;exact⟨cs,rfl,hv⟩
  |cons=>simp at hl
 |(i,v)::rest,cparts,cells,cells',cs,hv,hl,hp,hf=>by
  cases cparts with
  |nil=>simp at hl
  |cons cp crest=>
   obtain⟨i',cv⟩:=cp;obtain⟨he,hV⟩:=hp 0 _ _ rfl rfl;simp only at he hV;subst he;simp only[FSq]at hf;split at hf
   .rename_i off size vs h1 h2;split at hf
    .rename_i hc;obtain⟨h3,h4⟩:=JF hV h2;have hfold:=aDF off cv.cells.toList 0 cs;simp only[kG,vN]at hfold
     have hvl:VL w G ρ A (lG cells vs off) (cv.cells.zipIdx.foldl (λ(cs:Array Value) (x:Value×Nat)=>cs.setIfInBounds (off+x.2) x.1) cs):=by
      rw[<-Array.foldl_toList,Array.toList_zipIdx];refine⟨by rw[hfold.1,<-hv.1];unfold lG;simp;omega,λ j u hj=>?_⟩;unfold lG at hj;rw[EL oO]at hj;rw[aM,hfold.2];by_cases h5:j<off;.rw[iP h5]at hj;rw[iN oO,<-aM];exact hv.2 j u hj
      rw[iN h5]at hj;by_cases h6:j<off+vs.length;.rw[iP h6]at hj;rw[iP ⟨oO,by simp;omega,by rw[<-hv.1];omega⟩,bH,<-aM];exact h4 _ u hj
      rw[iN h6]at hj;rw[iN sO,<-aM];exact hv.2 j u hj
     obtain⟨cs',h5,h6⟩:=YT place rest crest _ cells' _ hvl (by simpa using hl) (λ j p cp hj hcj=>hp (j+1) p cp (by simpa using hj) (by simpa using hcj)) hf;refine⟨cs',?_,h6⟩;simp only[Instr.fill,h1];rw[iN (by simp;rw[<-hv.1];omega)];exact h5
    cases hf
   cases hf
def nK(ev:Operand->Option AVal):List (Nat×Operand)->Option (List (Nat×AVal))
 |[]=>aA []
 | (i,x)::r=>match ev x,nK ev r with
   |some v,aA vs=>aA ((i,v)::vs)
   |_,_=>aC
def IM{ev:Operand->Option AVal}:∀ {ps:List (Nat×Operand)} {vs:List (Nat×AVal)},nK ev ps=aA vs->vs.length=ps.length/\∀(j:Nat) v p,vs[j]? =aA v->ps[j]? =aA p->v.1=p.1/\ev p.2=aA v.2
 |[],vs,h=>by cases h;exact⟨rfl,λ j v p hv=>by simp at hv⟩
 |(i,x)::r,vs,h=>by
  simp only[nK]at h;split at h
  .rename_i v vs' h1 h2;cases h;obtain⟨h3,h4⟩:=IM h2;refine⟨by simp[h3],λ j u p hu hp=>?_⟩
   cases j with
   |zero=>cases hu;cases hp;exact⟨rfl,h1⟩
   |succ j=>exact h4 j u p (by simpa using hu) (by simpa using hp)
  cases h
def kU(P:Program)(t:TypeId):Option (Array (Nat×Nat)):=
 match P.underlying t with
 |some (.struct fields)=>NI P (fields.mapM λ f=>do pure (f.offset,<-sizeOf f.type))
 |some (.array n e)=>(pG P e).map λ s=>(Array.range n).map λ i=>(i*s,s)
 |_=>aC
variable{vs:List (Nat×AVal)}
section
variable{P:Program}{Γ:dW}{o:Oper}{ev:Operand->Option AVal}{get:Nat->Option Blk}{k:Nat}
def LG{cells:List AVal}(h:jP P t=aA cells):∃i z,P.info? t=aA i/\i.zero=aA z/\cells=z.cells.toList.map .lit:=by simp only[jP,aK,cJ]at h;obtain⟨z,⟨i,hi,hz⟩,rfl⟩:=h;exact⟨i,z,hi,hz,rfl⟩
def ZY(cs:Array Value):VL w G ρ A (cs.toList.map .lit) cs:=by
 refine⟨by simp,λ j u hj=>?_⟩;simp only[aV,aK]at hj;obtain⟨x,hx,rfl⟩:=hj;have:cs.getD j undef=x:=by rw[aM,<-bH,hx];rfl
 rw[this];exact .lit
def XR{a:Act}(he:nK ev parts.toList=aA vs)
 (hop:∀x,x∈(parts.toList.map (·.2)).toArray->∀v,ev x=aA v->V w G ρ A v (a.eval x)):
 vs.length=(parts.map λ(p:Nat×Operand)=>(p.1,a.eval p.2)).toList.length/\∀(j:Nat) p cp,vs[j]? =aA p->(parts.map λ(p:Nat×Operand)=>(p.1,a.eval p.2)).toList[j]? =aA cp->p.1=cp.1/\V w G ρ A p.2 cp.2:=by obtain⟨h1,h2⟩:=IM he;refine⟨by simp[h1],λ j p cp hp hcp=>?_⟩;simp only[Array.toList_map,aV,aK]at hcp;obtain⟨q,hq,rfl⟩:=hcp;obtain⟨h3,h4⟩:=h2 j p q hp hq;exact⟨h3,hop q.2 (by simp only[List.mem_toArray,dM];exact⟨q,gL hq,rfl⟩) _ h4⟩
def aZK{cells:List AVal}(ho:o.op= .build t parts)(hz:jP P t=aA cells)(hpl:kU P t=aA pl)
 (hs:∃fields,P.underlying t=aA (.struct fields)) (he:nK ev parts.toList=aA vs) (hf:FSq (pl[·]?) cells vs=aA cells'):OpOk P Γ o ev get k ⟨.agg cells',k,[],[]⟩:=by refine cL λ w G ρ H A a hr _ hop=>?_;obtain⟨i,z,hi,hzz,rfl⟩:=LG hz;obtain⟨fields,hu⟩:=hs;simp only[kU,hu]at hpl;have hpl':=aBP P w _ _ hpl;obtain⟨h1,h2⟩:=XR (w:=w) (G:=G) (ρ:=ρ) (A:=A) (a:=a) he (λ x hx v hv=>hop x (by simpa [ho,Op.operands]using hx) v hv);obtain⟨cs',h3,h4⟩:=YT (pl[·]?) vs _ _ cells' z.cells (ZY z.cells) h1 h2 hf;refine⟨.agg cs',?_,.agg h4.1 h4.2⟩;simp only[execOp,ho,Instr.build,zeroValue,typeInfo,bS,run_program,bJ,hi,dO,hzz,underlying,hu,hpl',h3]
def ZM{e:Nat}{cells:List AVal}(ho:o.op= .build t parts)(hz:jP P t=aA cells)(hu:P.underlying t=aA (.array n e))
 (hs:pG P e=aA s) (he:nK ev parts.toList=aA vs) (hf:FSq (λ i=>aA (i*s,s)) cells vs=aA cells'):OpOk P Γ o ev get k ⟨.agg cells',k,[],[]⟩:=by refine cL λ w G ρ H A a hr _ hop=>?_;obtain⟨i,z,hi,hzz,rfl⟩:=LG hz;simp only[pG,aK]at hs;obtain⟨inf,hinf,rfl⟩:=hs;obtain⟨h1,h2⟩:=XR (w:=w) (G:=G) (ρ:=ρ) (A:=A) (a:=a) he (λ x hx v hv=>hop x (by simpa [ho,Op.operands]using hx) v hv);obtain⟨cs',h3,h4⟩:=YT (λ i=>aA (i*inf.size,inf.size)) vs _ _ cells' z.cells (ZY z.cells) h1 h2 hf;refine⟨.agg cs',?_,.agg h4.1 h4.2⟩;simp only[execOp,ho,Instr.build,zeroValue,typeInfo,bS,run_program,bJ,hi,dO,hzz,underlying,hu,sizeOf,hinf,h3]
def TO{len:Nat}(ho:o.op= .buildSlice t len parts)(hz:iD P t=aA (s,by',zrow))
 (hsmall:len*s<=16777216) (he:nK ev parts.toList=aA vs) (hf:FSq (λ i=>aA (i*s,s)) (bI len zrow).flatten vs=aA cells') (hlen:cells'.length=len*s):
 OpOk P Γ o ev get k ⟨.sl k 0 len,k+1,[(k,aA ⟨s,cells'.all clean,pI s len cells'⟩)],[]⟩:=by
 refine JJ (cells:=cells') ⟨λ r row hr=>GK hlen hr,λ r row c v hr hc=>DU hr hc⟩ (λ h=>h) λ w G ρ H A a hr _ hop=>?_;unfold iD at hz;split at hz
 .rename_i e hu;split at hz
  .rename_i i hi;split at hz
   .rename_i z hzz;split at hz
    .rename_i hsz;cases hz;obtain⟨h1,h2⟩:=XR (w:=w) (G:=G) (ρ:=ρ) (A:=A) (a:=a) he (λ x hx v hv=>hop x (by simpa [ho,Op.operands]using hx) v hv)
     have hmade:(madeCells z.cells (len*i.size)).toList.map AVal.lit=(bI len (z.cells.toList.map AVal.lit)).flatten:=by
      apply fF;intro j;by_cases hj:j<len*i.size
      .have hc:j%i.size<i.size:=Nat.mod_lt _ hsz.2;have hr':j/i.size<len:=aEZ (by rw[jN];exact hj);have e0:j=(j/i.size)*i.size+j%i.size:=by have:=FJ j i.size;rw[jN]at this;omega
       rw[aV,bH];have e1:=FR (n:=len) hsz.1 hsz.2 hr' hc;rw[<-e0]at e1;rw[e1]
       have:∀(m:Nat) (row:List AVal) (r c:Nat),c<row.length->r<m->(bI m row).flatten[r*row.length+c]? =row[c]? :=by
        intro m
        induction m with
        |zero=>intro row r c _ h;omega
        |succ m ih=>
         intro row r c hc' hr'';rw[List.replicate_succ,List.flatten_cons]
         cases r with
         |zero=>rw[gN oO];simp
         |succ r=>
          rw[iY (by rw[cW];omega)];have:(r+1)*row.length+c-row.length=r*row.length+c:=by rw[cW];omega
          rw[this];exact ih row r c hc' oO
       have e2:=this len (z.cells.toList.map AVal.lit) (j/i.size) (j%i.size) (by simp[hsz.1];exact hc) hr';simp only[dG,qR,hsz.1]at e2;rw[<-e0]at e2;rw[e2,aV,bH]
      rw[bE (by simp[size_madeCells];omega),bE (by simp[hsz.1];omega)]
     obtain⟨cs',h3,h4⟩:=YT (λ j=>aA (j*i.size,i.size)) vs _ _ cells' (madeCells z.cells (len*i.size)) (by rw[<-hmade];exact ZY _) h1 h2 hf;have hsm:¬(len*i.size>2^24):=oO;refine⟨cs',e,w,.slice (aA ⟨w.heap.size,0,aC⟩) len len,?_,rfl,rfl,rfl,rfl,λ j u hj=>?_,.inr ⟨len,len,rfl,rfl,aJ _,?_,by rw[<-h4.1,hlen];exact aJ _⟩⟩
     .by_cases h0:len*i.size=0
      .have hm0:madeCells z.cells (len*i.size)=(Array.range (len*i.size)).map ((#[]:Array Value)[· %0]!):=by rw[h0];simp[madeCells]
       rw[hm0]at h3;simp[execOp,ho,Instr.buildSlice,underlying,hu,sizeOf,typeInfo,hi,h0,newRow]at h3⊢
       rw[h3];simp
      simp[execOp,ho,Instr.buildSlice,underlying,hu,sizeOf,typeInfo,hi,hsm,h0,zeroValue,hzz,newRow,madeCells]at h3⊢
      rw[h3];simp
     .have hlt:=(aL.1 hj).1;exact⟨_,AO (by rw[<-h4.1];exact hlt),h4.2 j u hj⟩
     have:len*1<=len*i.size:=Nat.mul_le_mul_left len hsz.2;unfold maxLen;omega
    cases hz
   cases hz
  cases hz
 cases hz
end
def HRel.drop{Γ:dW}{H:mP}(h:HRel Γ w G ρ H)(id:Nat)(A:cF):
 HRel Γ w G (fQ ρ id aC) (jT H A [(id,aC)])/\∀S,Step S w G ρ w G (fQ ρ id aC):=by
 have hs:∀S:cF,Step S w G ρ w G (fQ ρ id aC):=λ S=>by
  refine⟨aJ _,λ _ _ _=>rfl,λ _ _=>rfl,λ _ h=>h,λ _ h=> .inl h,?_,?_,rfl,rfl,rfl⟩
  .rintro b ⟨i,s,hb⟩;simp only[fQ]at hb;split at hb;.cases hb
   exact .inl ⟨i,s,hb⟩
  intro i _;simp only[fQ];split;.exact .inl rfl
  exact .inr rfl
 refine⟨h.after (hs (λ _=>True)) _ ?_ ?_ ?_ h.ro,hs⟩
 .intro i hi;simp only[jT]at hi;simp only[fQ];split at hi;.rename_i he;rw[iP he]
  rename_i he;rw[iN he];exact h.dom i hi
 .intro i B A1 hi;simp only[jT]at hi;split at hi;.cases hi
  rename_i he;obtain⟨hA,b,hb,hg,_⟩:=h.blk i B A1 hi;exact⟨hA,.inl ⟨A1,b,hi,λ _ h=>h,λ _ _=>trivial,by simp[fQ,he],hb,rfl,hg⟩⟩
 intro i j b s t hi hj;simp only[fQ]at hi hj;split at hi;.cases hi
 split at hj;.cases hj
 exact h.inj i j b s t hi hj
section
variable{P:Program}{Γ:dW}{o:Oper}{ev:Operand->Option AVal}{get:Nat->Option Blk}{k:Nat}
def yM(w:World)(t ty e:TypeId)(i:TypeInfo)(ht:P.underlying t=aA (.slice e))(hi:P.info? e=aA i)
 (g sLen sCap:Nat) (cur:Array Value) (ety:TypeId) (hg:w.heap[g]? =aA (.cells cur ety (0,0)))
 (a:Addr) (m c:Nat) (news:List Value) (hl:news.length=m*i.size) (hnews:∀j u,news[j]? =aA u->w.cell? (a.add j)=aA u) (h1:∀u∈news,u.oneCell'=aB)
 (hroom:sLen+m<=sCap) (hfit:sLen*i.size+news.length<=cur.size):
 (Builtin.append_ #[t,t] ty #[.slice (aA ⟨g,0,aC⟩) sLen sCap,.slice (aA a) m c]).run P w=
   .ok (.slice (aA ⟨g,0,aC⟩) (sLen+m) sCap) (w.setRow g (cur.toList.take (sLen*i.size)++news++cur.toList.drop (sLen*i.size+news.length)).toArray):=by have hf:=run_firstCells_some (P:=P) w i.size m a m c news hl hnews;have hst:=run_storeCells_at (P:=P) g (sLen*i.size) ety news 0 cur w hg (by simpa using hfit) h1;simp only[kG]at hst;simp[Builtin.append_,run_underlying ht,sizeOf,typeInfo,hi,Builtin.lenOf,hroom,hf,Addr.add_lit,hst]
structure Src (w:World) (G:Nat->Prop) (ρ:dH) (A:cF) (s m:Nat) (rows:List (List AVal)) (pure:Bool) (cv:Value):Prop where
 len:rows.length=m
 rlen:∀(r:Nat) row,rows[r]? =aA row->row.length=s
 ex:0<m->∃b off cap,cv= .slice (aA ⟨b,off,aC⟩) m cap/\∃gv:Nat->Nat->Value,∀r row c v,rows[r]? =aA row->row[c]? =aA v→
  w.cell? ⟨b,off+r*s+c,aC⟩=aA (gv r c)/\V w G (if pure then bX else ρ) (if pure then cQ else A) v (gv r c)
def news(s m:Nat)(gv:Nat->Nat->Value):List Value:=(aR (m*s)).map λ j=>gv (j/s) (j%s)
def tK(s m:Nat)(gv:Nat->Nat->Value):(news s m gv).length=m*s:=by simp[news]
def pO{c:Nat}(hr:r<m)(hc:c<s):(news s m gv)[r*s+c]? =aA (gv r c):=by
 have hlt:r*s+c<m*s:=by have:(r+1)*s<=m*s:=bZ s hr;rw[cW]at this;omega
 unfold news;rw[aV,nD hlt];have h1:(r*s+c)%s=c:=by rw[bQQ,Nat.add_mul_mod_self_right];exact LC hc
 have h2:(r*s+c)/s=r:=by rw[bQQ,Nat.add_mul_div_right _ _ oO,Nat.div_eq_of_lt hc];omega
 simp[h1,h2]
def tL(h:(news s m gv)[j]? =aA u)(hs:0<s):j/s<m/\j%s<s/\u=gv (j/s) (j%s):=by unfold news at h;rw[aV]at h;simp only[aK]at h;obtain⟨i,hi,rfl⟩:=h;obtain⟨hlt,he⟩:=aL.1 hi;simp at he hlt;subst he;exact⟨aEZ (by rw[jN];exact hlt),Nat.mod_lt _ hs,rfl⟩
def xR{rows:List (List AVal)}{c:Nat}(hl:∀(r:Nat) row,rows[r]? =aA row->row.length=s)(hr:r<rows.length)(hc:c<s):∃row v,rows[r]? =aA row/\row[c]? =aA v:=by have h1:rows[r]? =aA rows[r]:=aN hr;have h2:=hl r _ h1;exact⟨rows[r],rows[r][c]'oO,h1,aN oO⟩
def NH(rows:List (List AVal)):Prop:=∀(r:Nat) row (c:Nat) v,rows[r]? =aA row->row[c]? =aA v->one v=aB
def MI{olds src:List (List AVal)}{pd ps:Bool}{rds:List Nat}
 (ho:o.op= .call {callee:= .builtin .append,args:= #[x,y],argTypes:= #[t,t]}) (hz:iD P t=aA (s,by',zrow)) (hm:0<m) (hlen:n+m<=9223372036854775807) (hby:(n+m)*by'<=140737488355328)
 (hone:NH src) (hidk:∀id,idd=aA id->id<k)
 (hdst:∀w G ρ H (A:cF) (a:Act),HRel Γ w G ρ H->(∀id,id∈rds->∃B A',get id=aA B/\H id=aA (B,A')/\∀i,A' i->A i)->(∀x,x∈o.op.operands->∀v,ev x=aA v->V w G ρ A v (a.eval x))→
   (idd=aC/\n=0/\olds=[]/\a.eval x= .slice aC 0 0)∨
   (∃id B A',idd=aA id/\H id=aA (B,A')/\(∀i,A' i->A i)/\B.sz=s/\B.pure=pd/\B.rows=olds/\olds.length=n/\V w G ρ A (.sl id 0 n) (a.eval x)))
 (hsrc:∀w G ρ H (A:cF) (a:Act),HRel Γ w G ρ H->(∀id,id∈rds->∃B A',get id=aA B/\H id=aA (B,A')/\∀i,A' i->A i)->(∀x,x∈o.op.operands->∀v,ev x=aA v->V w G ρ A v (a.eval x))→
   Src w G ρ A s m src ps (a.eval y)):
 OpOk P Γ o ev get k ⟨.sl k 0 (n+m),k+1,(k,aA ⟨s,(idd.isNone||pd)&&ps,olds++src⟩)::(match idd with|some id=>[(id,aC)]|none=>[]),rds⟩:=by
 unfold iD at hz;split at hz;case h_2=>cases hz
 rename_i e hu;split at hz;case h_2=>cases hz
 rename_i i hi;split at hz;case h_2=>cases hz
 rename_i z hzz;split at hz;case isFalse=>cases hz
 rename_i hsz;cases hz;intro w G ρ H A a hr hA hf hrd hop next Q hn
 have hkA:¬A k:=λ hk=>oX _ (hA k hk);obtain⟨hρk,hfr⟩:=hf k (aJ _) (cY _);obtain⟨hsl,hsrl,hsex⟩:=hsrc w G ρ H A a hr hrd hop;obtain⟨sb,soff,scap,hsv,gv,hgv⟩:=hsex hm;have hnl:=tK i.size m gv
 have hcells:∀j u,(news i.size m gv)[j]? =aA u->w.cell? ((⟨sb,soff,aC⟩:Addr).add j)=aA u:=λ j u hj=>by
  obtain⟨h1,h2,rfl⟩:=tL hj hsz.2;obtain⟨row,v,h3,h4⟩:=xR hsrl (by omega:j/i.size<src.length) h2;have h5:=(hgv _ row _ v h3 h4).1;rw[Addr.add_mid,<-h5];have:soff+j=soff+j/i.size*i.size+j%i.size:=by have:=FJ j i.size;rw[jN]at this;omega
  rw[this]
 have hone':∀u∈news i.size m gv,u.oneCell'=aB:=λ u hu=>by obtain⟨j,hj⟩:=pF hu;obtain⟨h1,h2,rfl⟩:=tL hj hsz.2;obtain⟨row,v,h3,h4⟩:=xR hsrl (by omega:j/i.size<src.length) h2;exact aBX (hgv _ row _ v h3 h4).2 (hone _ row _ v h3 h4)
 have hrowlen:∀(hol:∀(r:Nat) row,olds[r]? =aA row->row.length=i.size) (r:Nat) row,(olds++src)[r]? =aA row->row.length=i.size:=λ hol r row h=>by
  rw[dQ]at h;split at h;.exact hol r row h
  exact hsrl _ row h
 have hnewV:∀(pp:Bool) (v:AVal) (cv:Value),(pp=aB->ps=aB)->V w G (if ps then bX else ρ) (if ps then cQ else A) v cv->V w G (if pp then bX else ρ) (if pp then cQ else A) v cv:=λ pp v cv hp h=>by
  cases ps with
  |true=>
   cases pp with
   |true=>simpa using h
   |false=>simp only[if_true]at h;simp only[bP,if_false];exact h.weaken
  |false=>cases pp with
   |true=>exact absurd (hp rfl) (by simp)
   |false=>simpa using h
 have hval:∀cv w',((execOp a.eval o).run P w= .ok (.value cv) w')=((Builtin.append_ #[t,t] o.type #[a.eval x,.slice (aA ⟨sb,soff,aC⟩) m scap]).run P w= .ok cv w'):=λ cv w'=>by simp only[execOp,ho,resolve,invoke,builtin];simp only[uA,bN,bV,bS,dO,bJ,hsv];cases(Builtin.append_ #[t,t] o.type #[a.eval x,.slice (aA ⟨sb,soff,aC⟩) m scap]).run P w<;>simp[ML]
 rcases hdst w G ρ H A a hr hrd hop with⟨rfl,rfl,rfl,hxv⟩|⟨id,B,A',rfl,hH,hAA,hBs,rfl,rfl,rfl,hV⟩
 .have hrun:=run_append_nil (P:=P) w t o.type e i z hu hi hzz ⟨sb,soff,aC⟩ m scap (news i.size m gv) hnl hcells hm oO (by have:(0+m)*i.bytes<=140737488355328:=hby;rw[eQ]at this;omega);rw[<-hxv]at hrun;have hrun':=(hval _ _).mpr hrun;unfold Oper.wp;rw[hrun'];have hge:=grownCap_ge w m 0 e;have hcm:=grownCap_le_maxLen w m 0 e (by unfold maxLen;omega)
  have hrel:=hr.alloc k hρk hfr ⟨i.size,(oV (aC:Option Nat)||pd)&&ps,([]:List (List AVal))++src⟩ ((news i.size m gv).toArray++Builtin.zeroCells z.cells (grownCap w m 0 e-m)) e A (λ i=>A i\/(k<=i/\i<k+1)) hkA (λ _ h=> .inl h) (.inr ⟨aJ _,cY _⟩)
   (λ r row h=>hsrl r row (by simpa using h))
   (λ r row c v h1 h2=>by
     simp only[aZ]at h1;have hc:c<i.size:=by have:=(aL.1 h2).1;have:=hsrl r row h1;omega
     have hrm:r<m:=by have:=(aL.1 h1).1;omega
     refine⟨gv r c,?_,hnewV _ v _ (by simp) (hgv r row c v h1 h2).2⟩;rw[fH (by have:=pO (gv:=gv) hrm hc;have:=(aL.1 this).1;simpa using this),cH]
     exact pO hrm hc)
   w.drew rfl rfl rfl rfl
  have hst:=mB (w:=w) (G:=G) (ρ:=ρ) k i.size (.cells ((news i.size m gv).toArray++Builtin.zeroCells z.cells (grownCap w m 0 e-m)) e) w.drew rfl rfl rfl rfl;refine hn _ G _ _ hrel ?_ ⟨hst.size,hst.keep,hst.shape,hst.g,hst.g',hst.own,λ id hid=>hst.ids id (λ he=>hid (oO:k<=id/\id<k+1)),hst.os,hst.tape,hst.output⟩;simp only[eQ];refine .sl (b:=w.heap.size) (s:=i.size) (ty:=e) (m:=((news i.size m gv).toArray++Builtin.zeroCells z.cells (grownCap w m 0 e-m)).size) (.inr ⟨aJ _,cY _⟩) (by simp[fQ]) ?_ ?_ hge hcm (.inr (by simp));.have:=jD w.drew (.cells ((news i.size m gv).toArray++Builtin.zeroCells z.cells (grownCap w m 0 e-m)) e);have e1:w.drew.heap.size=w.heap.size:=rfl;rw[e1]at this;unfold World.shape?;rw[this]
  rw[qQ,fE,hnl,size_zeroCells,hsz.1,<-cW];exact bZ _ oO
 have hidk':=hidk id rfl;obtain⟨hAid,b,hb,hg,⟨⟨C,_,⟨hC0,hH0⟩,hrows⟩,hbl⟩⟩:=hr.blk id B A' hH;have hsB:B.sz=i.size:=hBs
 have hnC:B.rows.length*i.size<=C.size:=by
  by_cases h0:B.rows.length=0;.rw[h0];simp
  obtain⟨row,v,h1,h2⟩:=xR (s:=i.size) (r:=B.rows.length-1) (c:=i.size-1) (λ r row h=>by rw[<-hsB];exact hbl r row h) oO oO;obtain⟨cu,h3,_⟩:=hrows _ row _ v h1 h2;have h4:=(dK.1 h3).1;rw[hsB]at h4;have:B.rows.length*i.size=(B.rows.length-1)*i.size+i.size:=by have e1:B.rows.length=(B.rows.length-1)+1:=oO;rw[e1,cW];simp
  omega
 have holdV:∀(pp:Bool) (v:AVal) (cv:Value),(pp=aB->B.pure=aB)->V w G (if B.pure then bX else ρ) (if B.pure then cQ else A') v cv->V w G (if pp then bX else ρ) (if pp then cQ else A) v cv:=λ pp v cv hp h=>by
  cases hbp:B.pure with
  |true=>
   rw[hbp]at h
   cases pp with
   |true=>simpa using h
   |false=>simp only[if_true]at h;simp only[bP,if_false];exact h.weaken
  |false=>
   rw[hbp]at h hp
   cases pp with
   |true=>exact absurd (hp rfl) (by simp)
   |false=>simp only[bP,if_false]at h⊢;exact h.mono (λ _ h=>h) (λ _ _=>rfl) (λ _ _=>rfl) hAA (λ _ _=> .inr rfl)
 generalize hev:a.eval x=cvx at hV hval;generalize hbn:B.rows.length=bn at hV
 cases hV with
 |dangs _ hnn=>rw[hb]at hnn;cases hnn
 |sl0 ha hρ=>
  have hb0:B.rows.length=0:=hbn;have hrl:B.rows=[]:=List.length_eq_zero_iff.1 hb0;have hrun:=run_append_nil (P:=P) w t o.type e i z hu hi hzz ⟨sb,soff,aC⟩ m scap (news i.size m gv) hnl hcells hm oO (by have:(0+m)*i.bytes<=(B.rows.length+m)*i.bytes:=bZ _ oO;rw[eQ]at this;omega);have hrun':=(hval _ _).mpr hrun;unfold Oper.wp;rw[hrun'];have hge:=grownCap_ge w m 0 e;have hcm:=grownCap_le_maxLen w m 0 e (by unfold maxLen;omega);obtain⟨hrd0,hsd⟩:=hr.drop id (λ i=>A i\/(k<=i/\i<k+1));have hρ0:∀v cv,V w G ρ A v cv->V w G (fQ ρ id aC) A v cv:=λ v cv h=>h.mono (λ _ h=>h) (λ _ _=>rfl) (λ _ _=>rfl) (λ _ h=>h) (λ j _=>(hsd A).ids j ‹_›)
  have hVd:∀(pp:Bool) v cv,V w G (if pp then bX else ρ) (if pp then cQ else A) v cv->V w G (if pp then bX else fQ ρ id aC) (if pp then cQ else A) v cv:=λ pp v cv h=>by
   cases pp with
   |true=>simpa using h
   |false=>simp only[bP,if_false]at h⊢;exact hρ0 v cv h
  have hrel:=hrd0.alloc k (by simp only[fQ];split<;>simp_all) (λ j B1 A1 hj=>by
   simp only[jT]at hj;split at hj;.cases hj
   exact hfr j B1 A1 hj) ⟨i.size,(oV (aA id)||B.pure)&&ps,B.rows++src⟩
   ((news i.size m gv).toArray++Builtin.zeroCells z.cells (grownCap w m 0 e-m)) e A (λ i=>A i\/(k<=i/\i<k+1)) hkA (λ _ h=> .inl h) (.inr ⟨aJ _,cY _⟩)
   (hrowlen (λ r row h=>by rw[<-hsB];exact hbl r row h))
   (λ r row c v h1 h2=>by
     have h1':(B.rows++src)[r]? =aA row:=h1;rw[hrl,aZ]at h1';have hc:c<i.size:=by have:=(aL.1 h2).1;have:=hsrl r row h1';omega
     have hrm:r<m:=by have:=(aL.1 h1').1;omega
     have h9:=pO (gv:=gv) hrm hc;refine⟨gv r c,?_,hVd _ v _ (hnewV _ v _ (by simp) (hgv r row c v h1' h2).2)⟩;rw[fH (by have:=(aL.1 h9).1;simpa using this),cH];exact h9)
   w.drew rfl rfl rfl rfl
  have hst:=(hsd (λ j=>j≠k)).trans (mB (w:=w) (G:=G) (ρ:=fQ ρ id aC) k i.size (.cells ((news i.size m gv).toArray++Builtin.zeroCells z.cells (grownCap w m 0 e-m)) e) w.drew rfl rfl rfl rfl) (λ _ h=>h)
  have hup:jT (jT H (λ i=>A i\/(k<=i/\i<k+1)) [(id,aC)]) (λ i=>A i\/(k<=i/\i<k+1)) [(k,aA ⟨i.size,(oV (aA id)||B.pure)&&ps,B.rows++src⟩)]
   =jT H (λ i=>A i\/(k<=i/\i<k+1)) [(k,aA ⟨i.size,(oV (aA id)||B.pure)&&ps,B.rows++src⟩),(id,aC)]:=rfl
  rw[hup]at hrel;refine hn _ G _ _ hrel ?_ ⟨hst.size,hst.keep,hst.shape,hst.g,hst.g',hst.own,λ j hj=>hst.ids j (λ he=>hj (oO:k<=j/\j<k+1)),hst.os,hst.tape,hst.output⟩;have e0:B.rows.length+m=m:=oO;show V _ G _ (λ i=>A i\/(k<=i/\i<k+1)) (AVal.sl k 0 (B.rows.length+m)) _;rw[e0];refine .sl (b:=w.heap.size) (s:=i.size) (ty:=e) (m:=((news i.size m gv).toArray++Builtin.zeroCells z.cells (grownCap w m 0 e-m)).size) (.inr ⟨aJ _,cY _⟩) (by simp[fQ]) ?_ ?_ hge hcm (.inr (by simp));.have:=jD w.drew (.cells ((news i.size m gv).toArray++Builtin.zeroCells z.cells (grownCap w m 0 e-m)) e);have e1:w.drew.heap.size=w.heap.size:=rfl;rw[e1]at this;unfold World.shape?;rw[this]
  rw[qQ,fE,hnl,size_zeroCells,hsz.1,<-cW];exact bZ _ oO
 |sl ha hρ hsh hm1 hn1 hc1 hoff=>
  subst hbn;rw[hb]at hρ;cases hρ;rename_i ty ms cap off;have hC:w.heap[b]? =aA (.cells C ty (0,0)):=by rw[hC0,hH0.shaped hC0 hsh]
  have hsC:ms=C.size:=by unfold World.shape? at hsh;rw[hC]at hsh;simp at hsh;exact hsh.symm
  subst hsC;by_cases hroom:B.rows.length+m<=cap
  .have hoff':off=0:=by rcases hoff with h|h;· omega
                        · simpa using h
   subst hoff';have hfit:B.rows.length*i.size+(news i.size m gv).length<=C.size:=by rw[hnl,<-cW];have h5:(B.rows.length+m)*i.size<=cap*i.size:=bZ _ hroom;rw[hsB]at hm1;simp only[eQ]at hm1;omega
   have hrun:=yM (P:=P) w t o.type e i hu hi b B.rows.length cap C ty hC ⟨sb,soff,aC⟩ m scap (news i.size m gv) hnl hcells hone' hroom hfit;have hrun':=(hval _ _).mpr hrun;unfold Oper.wp;rw[hrun'];have hseg:=EL (l:=C.toList) (vs:=news i.size m gv) (o:=B.rows.length*i.size) (by simpa using hfit)
   have hrw:=uC hr hb k (.inr ⟨hρk,hfr⟩) ⟨i.size,(oV (aA id)||B.pure)&&ps,B.rows++src⟩ hsB.symm
    (C.toList.take (B.rows.length*i.size)++news i.size m gv++C.toList.drop (B.rows.length*i.size+(news i.size m gv).length)).toArray ty A (λ i=>A i\/(k<=i/\i<k+1)) (.inr hkA) (λ _ h=> .inl h) (.inr ⟨aJ _,cY _⟩)
    (w.setRow b (C.toList.take (B.rows.length*i.size)++news i.size m gv++C.toList.drop (B.rows.length*i.size+(news i.size m gv).length)).toArray)
    (setRow_heap w b C _ ty _ hC) (λ j hj=>setRow_other w b j _ hj) (size_setRow _ _ _)
    (by unfold World.shape?;rw[setRow_heap w b C _ ty _ hC,hC];simp;omega)
    rfl rfl rfl (hrowlen (λ r row h=>by rw[<-hsB];exact hbl r row h))
    (λ r row c v h1 h2=>by
      have h1':(B.rows++src)[r]? =aA row:=h1;have hc:c<i.size:=by have:=(aL.1 h2).1;have:=hrowlen (λ r row h=>by rw[<-hsB];exact hbl r row h) r row h1';omega
      show ∃cv,(C.toList.take (B.rows.length*i.size)++news i.size m gv++C.toList.drop (B.rows.length*i.size+(news i.size m gv).length)).toArray[r*i.size+c]? =aA cv/\V w G (if((oV (aA id)||B.pure)&&ps)then bX else ρ) (if((oV (aA id)||B.pure)&&ps)then cQ else A) v cv;rw[cH,hseg];rw[dQ]at h1';split at h1'
      .rename_i hlt;have h6:r*i.size+c<B.rows.length*i.size:=by have:(r+1)*i.size<=B.rows.length*i.size:=bZ _ hlt;rw[cW]at this;omega
       rw[iP h6];obtain⟨cu,h7,h8⟩:=hrows r row c v h1' h2;rw[hsB]at h7;exact⟨cu,by rw[bH];exact h7,holdV _ v cu (by simp;intro h _;exact h) h8⟩
      rename_i hge;have hrm:r-B.rows.length<m:=by have:=(aL.1 h1').1;omega
      have h9:=pO (gv:=gv) hrm hc;have h10:=(aL.1 h9).1
      have e1:r*i.size+c=B.rows.length*i.size+((r-B.rows.length)*i.size+c):=by
       have:r*i.size=B.rows.length*i.size+(r-B.rows.length)*i.size:=by rw[<-cW];congr 1;omega
       omega
      rw[e1,iN oO,iP oO];have e2:B.rows.length*i.size+((r-B.rows.length)*i.size+c)-B.rows.length*i.size=(r-B.rows.length)*i.size+c:=oO;rw[e2];exact⟨_,h9,hnewV _ v _ (by simp) (hgv _ row c v h1' h2).2⟩)
   obtain⟨hrel,hst⟩:=hrw;refine hn _ G _ _ hrel ?_ ⟨hst.size,hst.keep,hst.shape,hst.g,hst.g',hst.own,λ j hj=>hst.ids j (.inl (λ he=>hj (oO:k<=j/\j<k+1))),hst.os,hst.tape,hst.output⟩;have hne:(0:Nat)*B.sz=0:=by simp
   refine .sl (b:=b) (s:=B.sz) (ty:=ty) (m:=C.size) (.inr ⟨aJ _,cY _⟩) (by simp[fQ]) ?_ hm1 hroom hc1 (.inr (by simp));unfold World.shape?;rw[setRow_heap w b C _ ty _ hC];have hl2:(C.toList.take (B.rows.length*i.size)++news i.size m gv++C.toList.drop (B.rows.length*i.size+(news i.size m gv).length)).toArray.size=C.size:=by simp only[fE,bT,uB,aOA,qR];omega
   simp only[hl2]
  have holds:∀j v,(C.toList.take (B.rows.length*i.size))[j]? =aA v->w.cell? ((⟨b,off,aC⟩:Addr).add j)=aA v:=λ j v hj=>by
   rw[fA]at hj;split at hj
   .rename_i hlt;have hn0:0<B.rows.length:=OP (λ h0=>by rw[h0]at hlt;simp at hlt)
    have hoff':off=0:=by rcases hoff with h|h;· omega
                         · simpa using h
    subst hoff';rw[Addr.add_mid,cell_of_row w b _ C ty (0,0) hC,<-bH,eQ];exact hj
   cases hj
  have hol:(C.toList.take (B.rows.length*i.size)).length=B.rows.length*i.size:=by simp;omega
  have hrun:=run_append_grow (P:=P) w t o.type e i z hu hi hzz ⟨b,off,aC⟩ B.rows.length cap _ hol holds ⟨sb,soff,aC⟩ m scap (news i.size m gv) hnl hcells oO oO (growslice_fits oO hby);have hrun':=(hval _ _).mpr hrun;unfold Oper.wp;rw[hrun'];have hge:=grownCap_ge w (B.rows.length+m) cap e;have hcm:=grownCap_le_maxLen w (B.rows.length+m) cap e (by unfold maxLen;omega);obtain⟨hrd0,hsd⟩:=hr.drop id (λ i=>A i\/(k<=i/\i<k+1));have hρ0:∀v cv,V w G ρ A v cv->V w G (fQ ρ id aC) A v cv:=λ v cv h=>h.mono (λ _ h=>h) (λ _ _=>rfl) (λ _ _=>rfl) (λ _ h=>h) (λ j _=>(hsd A).ids j ‹_›)
  have hVd:∀(pp:Bool) v cv,V w G (if pp then bX else ρ) (if pp then cQ else A) v cv->V w G (if pp then bX else fQ ρ id aC) (if pp then cQ else A) v cv:=λ pp v cv h=>by
   cases pp with
   |true=>simpa using h
   |false=>simp only[bP,if_false]at h⊢;exact hρ0 v cv h
  have hrel:=hrd0.alloc k (by simp only[fQ];split<;>simp_all) (λ j B1 A1 hj=>by
   simp only[jT]at hj;split at hj;.cases hj
   exact hfr j B1 A1 hj) ⟨i.size,(oV (aA id)||B.pure)&&ps,B.rows++src⟩
   ((C.toList.take (B.rows.length*i.size)).toArray++(news i.size m gv).toArray++Builtin.zeroCells z.cells (grownCap w (B.rows.length+m) cap e-(B.rows.length+m))) e A (λ i=>A i\/(k<=i/\i<k+1)) hkA (λ _ h=> .inl h) (.inr ⟨aJ _,cY _⟩)
   (hrowlen (λ r row h=>by rw[<-hsB];exact hbl r row h))
   (λ r row c v h1 h2=>by
     have h1':(B.rows++src)[r]? =aA row:=h1;have hc:c<i.size:=by have:=(aL.1 h2).1;have:=hrowlen (λ r row h=>by rw[<-hsB];exact hbl r row h) r row h1';omega
     show ∃cv,((C.toList.take (B.rows.length*i.size)).toArray++(news i.size m gv).toArray++Builtin.zeroCells z.cells (grownCap w (B.rows.length+m) cap e-(B.rows.length+m)))[r*i.size+c]? =aA cv/\V w G (if((oV (aA id)||B.pure)&&ps)then bX else fQ ρ id aC) (if((oV (aA id)||B.pure)&&ps)then cQ else A) v cv;rw[dQ]at h1';split at h1'
     .rename_i hlt;have h6:r*i.size+c<B.rows.length*i.size:=by have:(r+1)*i.size<=B.rows.length*i.size:=bZ _ hlt;rw[cW]at this;omega
      obtain⟨cu,h7,h8⟩:=hrows r row c v h1' h2;rw[hsB]at h7;refine⟨cu,?_,hVd _ v cu (holdV _ v cu (by simp;intro h _;exact h) h8)⟩;rw[BR,fH sO,cH,fA,iP h6,bH];exact h7
     rename_i hge;have hrm:r-B.rows.length<m:=by have:=(aL.1 h1').1;omega
     have h9:=pO (gv:=gv) hrm hc;have h10:=(aL.1 h9).1
     have e1:r*i.size+c=B.rows.length*i.size+((r-B.rows.length)*i.size+c):=by
      have:r*i.size=B.rows.length*i.size+(r-B.rows.length)*i.size:=by rw[<-cW];congr 1;omega
      omega
     refine⟨_,?_,hVd _ v _ (hnewV _ v _ (by simp) (hgv _ row c v h1' h2).2)⟩;have hsz1:(C.toList.take (B.rows.length*i.size)).toArray.size=B.rows.length*i.size:=by rw[fE];exact hol
     rw[BR,xM (by rw[hsz1];omega),hsz1,e1,kJ,fH (by rw[fE];exact h10),cH];exact h9)
   w.drew rfl rfl rfl rfl
  have hst:=(hsd (λ j=>j≠k)).trans (mB (w:=w) (G:=G) (ρ:=fQ ρ id aC) k i.size (.cells ((C.toList.take (B.rows.length*i.size)).toArray++(news i.size m gv).toArray++Builtin.zeroCells z.cells (grownCap w (B.rows.length+m) cap e-(B.rows.length+m))) e) w.drew rfl rfl rfl rfl) (λ _ h=>h)
  have hup:jT (jT H (λ i=>A i\/(k<=i/\i<k+1)) [(id,aC)]) (λ i=>A i\/(k<=i/\i<k+1)) [(k,aA ⟨i.size,(oV (aA id)||B.pure)&&ps,B.rows++src⟩)]
   =jT H (λ i=>A i\/(k<=i/\i<k+1)) [(k,aA ⟨i.size,(oV (aA id)||B.pure)&&ps,B.rows++src⟩),(id,aC)]:=rfl
  rw[hup]at hrel;refine hn _ G _ _ hrel ?_ ⟨hst.size,hst.keep,hst.shape,hst.g,hst.g',hst.own,λ j hj=>hst.ids j (λ he=>hj (oO:k<=j/\j<k+1)),hst.os,hst.tape,hst.output⟩;refine .sl (b:=w.heap.size) (s:=i.size) (ty:=e) (m:=((C.toList.take (B.rows.length*i.size)).toArray++(news i.size m gv).toArray++Builtin.zeroCells z.cells (grownCap w (B.rows.length+m) cap e-(B.rows.length+m))).size) (.inr ⟨aJ _,cY _⟩) (by simp[fQ]) ?_ ?_ hge hcm (.inr (by simp));.have:=jD w.drew (.cells ((C.toList.take (B.rows.length*i.size)).toArray++(news i.size m gv).toArray++Builtin.zeroCells z.cells (grownCap w (B.rows.length+m) cap e-(B.rows.length+m))) e);have e1:w.drew.heap.size=w.heap.size:=rfl;rw[e1]at this;unfold World.shape?;rw[this]
  rw[qQ,qQ,fE,fE,hnl,hol,size_zeroCells,hsz.1,<-cW,<-cW];exact bZ _ oO
end
def del{α:Type}(l:List (Nat×α))(k:Nat):List (Nat×α):=
 match l with
 |[]=>[]
 |(a,x)::r=>if a=k then del r k else(a,x)::del r k
def iK{α:Type}:∀(l:List (Nat×α)) (k j:Nat),look (del l k) j=if j=k then aC else look l j
 |[],k,j=>by simp[del,look]
 |(a,x)::r,k,j=>by
  simp only[del];by_cases h:a=k
  .rw[iP h,iK r k j];by_cases h2:j=k;.rw[iP h2,iP h2]
   rw[iN h2,iN h2];simp only[look];rw[iN oO]
  rw[iN h];simp only[look];by_cases h3:a=j;.rw[iP h3,iP h3,iN oO]
  rw[iN h3,iN h3];exact iK r k j
def jM(fr:Fr)(d:Option Nat)(v:AVal):Fr:=
 match d with
 |some t=>(t,v)::del fr t
 |none=>fr
def mE(H:aS):List (Nat×Option Blk)->aS
 |[]=>H
 |(id,aA B)::r=>(id,B)::del (mE H r) id
 |(id,aC)::r=>del (mE H r) id
def vZ(upd:List (Nat×Option Blk))(id:Nat):Option (Option Blk):=look upd id
def vM(fr:Fr)(d:Option Nat)(v:AVal)(t:Nat):look (jM fr d v) t=if d=aA t then aA v else look fr t:=by
 cases d with
 |none=>simp[jM]
 |some x=>
  simp only[jM,look];by_cases h:x=t;.rw[iP h,iP (by rw[h])]
  rw[iN h,iK,iN (λ e=>h e.symm),iN (λ e=>h (by cases e;rfl))]
def nF(H:aS):∀(upd:List (Nat×Option Blk)) (id:Nat),look (mE H upd) id=match vZ upd id with|some x=>x|none=>look H id
 |[],id=>rfl
 |(i,aA B)::r,id=>by
  simp only[mE,look,vZ];by_cases h:i=id;.rw[iP h,iP h]
  rw[iN h,iN h,iK,iN (λ e=>h e.symm)];exact nF H r id
 |(i,aC)::r,id=>by
  simp only[mE,look,vZ];by_cases h:i=id;.rw[iP h,iK,iP h.symm]
  rw[iN h,iK,iN (λ e=>h e.symm)];exact nF H r id
def nP(H:mP)(A:cF):∀(upd:List (Nat×Option Blk)) (id:Nat),jT H A upd id=match vZ upd id with|some x=>x.map λ B=>(B,A)|none=>H id
 |[],id=>rfl
 |(i,x)::r,id=>by
  simp only[jT,vZ,look];by_cases h:id=i;.rw[iP h,iP h.symm]
  rw[iN h,iN (λ e=>h e.symm)];exact nP H A r id
def bFZ(want:Bool):Value->Bool
 | .bool b=>b==want
 |_=>aF
def nJ(all:Array Oper)(fr:Fr)(o:Oper):Option Bool:=
 match o.guard with
 |none=>aA aB
 | some (j,want)=>match((all[j]?).bind (·.dst)).bind (look fr)with
   |some (.lit v)=>aA (bFZ want v)
   |_=>aC
structure Good (P:Program) (Γ:dW) (o:Oper) (ev:Operand->Option AVal) (get:Nat->Option Blk) (k:Nat) (out:Out):Prop where
 ok:OpOk P Γ o ev get k out
 rds:∀id,id∈out.rds->(get id).isSome=aB
 le:k<=out.k
structure Foot where
 rds:List Nat
 mods:List Nat
 k:Nat
 k':Nat
variable{fi fj:Foot}
def Run(P:Program)(Γ:dW)(all:Array Oper):List Oper->Nat->Fr->aS->(List Foot->Nat->Fr->aS->Prop)->Prop
 |[],k,fr,H,K=>K [] k fr H
 | o::r,k,fr,H,K=>
   (nJ all fr o=aA aF/\Run P Γ all r k (jM fr o.dst (.lit undef)) H (λ tr=>K (⟨[],[],k,k⟩::tr)))∨
   (nJ all fr o=aA aB/\∃out,Good P Γ o (lN Γ fr) (look H) k out/\Run P Γ all r out.k (jM fr o.dst out.v) (mE H out.upd) (λ tr=>K (⟨out.rds,out.upd.map (·.1),k,out.k⟩::tr)))
def nL(nt:Nat)(ops:Array Oper):Bool:=ops.toList.all λ o=>match o.dst with|some d=>decide (d<nt)|none=>aB
section
variable{P:Program}{Γ:dW}{nt kb:Nat}{Q:AQ}{k:Nat}{fr:Fr}{H:aS}
def a0H(A0:cF)(kb k k':Nat)(h0:kb<=k)(h:k<=k'):(λ i=>kI A0 kb k i\/(k<=i/\i<k'))=kI A0 kb k':=funext λ i=>by
 simp only[kI,eq_iff_iff];constructor
 .rintro((h|h)|h);.exact .inl h
  .exact .inr ⟨h.1,oO⟩
  exact .inr ⟨oO,h.2⟩
 rintro(h|h);.exact .inl (.inl h)
 by_cases hi:i<k;.exact .inl (.inr ⟨h.1,hi⟩)
 exact .inr ⟨oO,h.2⟩
def aJG{kb k:Nat}(hA0:∀i,A0 i->i<kb)(h:kb<=k):∀i,kI A0 kb k i->i<k:=λ i hi=>by
 rcases hi with hi|hi;.have:=hA0 i hi;omega
 exact hi.2
def CY(a:Act)(d:Option Nat)(cv:Value)(t:Nat)(hd:∀x,d=aA x->x<a.tmps.size):(a.put d cv).tmps.getD t undef=if d=aA t then cv else a.tmps.getD t undef:=by
 cases d with
 |none=>simp[Act.put]
 |some x=>
  have hx:=hd x rfl;simp only[Act.put,aM];by_cases h:x=t;.subst h;rw[iP rfl,rV hx];rfl
  rw[iN (λ e=>h (by cases e;rfl)),mA h]
def CX(a:Act)(d:Option Nat)(cv:Value):(a.put d cv).tmps.size=a.tmps.size:=by cases d<;>simp[Act.put]
def vY(a:Act)(d:Option Nat)(cv:Value):(a.put d cv).defers=a.defers:=by cases d<;>rfl
def AY(h:nL nt ops=aB){i:Nat}{o:Oper}(hi:ops[i]? =aA o):∀x,o.dst=aA x->x<nt:=by intro x hx;have:=aY.1 h o (by simpa using bQU hi);rw[hx]at this;simpa using this
def AN{o:Oper}{a:Act}{b:Bool}(hd:nL nt ops=aB)(hsz:a.tmps.size=nt)
 (hslot:∀j want,o.guard=aA (j,want)->∀t,(ops[j]?).bind (·.dst)=aA t->∀c,look fr t=aA (.lit c)->a.tmps.getD t undef=c) (hg:nJ ops fr o=aA b):
 Region.wanted o (yielded ops a.tmps)=b:=by
 unfold nJ at hg;unfold Region.wanted
 cases hgd:o.guard with
 |none=>rw[hgd]at hg;cases hg;rfl
 |some jw=>
  obtain⟨j,want⟩:=jw;rw[hgd]at hg;simp only at hg⊢
  split at hg
  .rename_i c hc;cases hg;obtain⟨t,ht,hl⟩:=cJ.1 hc;have h1:=hslot j want hgd t ht c hl;obtain⟨o',ho',hd'⟩:=cJ.1 ht;have hlt:t<a.tmps.size:=by rw[hsz];exact AY hd ho' t hd'
   unfold yielded;rw[ht];have h2:a.tmps[t]? =aA c:=by rw[aM,aW hlt]at h1;rw[aW hlt];simpa using h1
   simp only[bVF,h2];cases c<;>first|rfl|(rename_i c;cases c<;>cases want<;>rfl)
  cases hg
def UF(hd:nL nt ops=aB)(hA0:∀i,A0 i->i<kb):
 ∀ (l:List Oper) (i:Nat),(∀j,l[j]? =ops[i+j]?)->∀(k:Nat) (fr:Fr) (H:aS) (K:List Foot->Nat->Fr->aS->Prop),kb<=k->Run P Γ ops l k fr H K→
   ∀w G ρ a,Inv Γ nt w G ρ (kI A0 kb k) a fr H->Step (lX kb) w0 G0 ρ0 w G ρ→
   (∀tr k' fr' H' G' ρ' a' w',K tr k' fr' H'->kb<=k'->Inv Γ nt w' G' ρ' (kI A0 kb k') a' fr' H'->Step (lX kb) w0 G0 ρ0 w' G' ρ'->Q' .normal a' w')->wpOps P ops Q' (List.range' i l.length) a w:=by
 intro l
 induction l with
 |nil=>intro i hl k fr H K hk hrun w G ρ a hi hs hK;exact hK [] k fr H G ρ a w hrun hk hi hs
 |cons o r ih=>
  intro i hl k fr H K hk hrun w G ρ a hi hs hK;have ho:ops[i]? =aA o:=by have:=hl 0;simpa using this.symm
  have hdst:=AY hd ho;have hl':∀j,r[j]? =ops[i+1+j]? :=λ j=>by have:=hl (j+1);rw[fY]at this;rw[this];congr 1;omega
  have hslot:∀j want,o.guard=aA (j,want)->∀t,(ops[j]?).bind (·.dst)=aA t->∀c,look fr t=aA (.lit c)->a.tmps.getD t undef=c:=
   λ j want _ t _ c hc=>iB (hi.frm t _ hc)
  have hlt:=aJG (A0:=A0) hA0 hk;rw[iI,List.range'_succ,wpOps_cons];unfold wpOp;rw[ho];rcases hrun with⟨hg,hrun⟩|⟨hg,out,⟨hop,hrds,hkk⟩,hrun⟩
  .simp only[AN hd hi.size hslot hg,bP,if_false];refine ih (i+1) hl' k _ H _ hk hrun w G ρ (a.put o.dst undef) ⟨hi.rel,by rw[CX];exact hi.size,by rw[vY];exact hi.defers,λ t v hv=>?_⟩ hs (λ tr k' fr' H' G' ρ' a' w' h1=>hK _ k' fr' H' G' ρ' a' w' h1);rw[vM]at hv;rw[CY a o.dst undef t (λ x hx=>by rw[hi.size];exact hdst x hx)];split at hv;.rename_i he;cases hv;rw[iP he];exact .lit
   rename_i hne;rw[iN hne];exact hi.frm t v hv
  simp only[AN hd hi.size hslot hg,if_true];left;have hHof:∀id B A',bK H (kI A0 kb k) id=aA (B,A')->A'=kI A0 kb k:=λ id B A' hH=>by simp only[bK,aK]at hH;obtain⟨B',_,he⟩:=hH;cases he;rfl
  refine hop w G ρ (bK H (kI A0 kb k)) (kI A0 kb k) a hi.rel hlt (λ j h1 h2=>?_) (λ id hid=>?_) (λ x _ v hv=>ZU hi hv) _ Q' (λ w' G' ρ' cv hrel hv hst=>?_)
  .refine⟨?_,λ id B A' hH hA=>?_⟩
   .cases hρ:ρ j with
    |none=>rfl
    |some x=>
     cases hH:bK H (kI A0 kb k) j with
     |none=>rw[hi.rel.dom j hH]at hρ;cases hρ
     |some y=>obtain⟨B,A⟩:=y;have hA:=(hi.rel.blk j B A hH).1;rw[hHof j B A hH]at hA;have:=hlt j hA;omega
   rw[hHof id B A' hH]at hA;have:=hlt j hA;omega
  .obtain⟨B,hB⟩:=fU.1 (hrds id hid);exact⟨B,kI A0 kb k,hB,by simp only[bK,hB,bO],λ _ h=>h⟩
  have hst':Step (lX kb) w G ρ w' G' ρ':=⟨hst.size,hst.keep,hst.shape,hst.g,hst.g',hst.own,λ j hj=>hst.ids j (λ hc=>by simp only[lX]at hj;omega),hst.os,hst.tape,hst.output⟩;rw[a0H A0 kb k out.k hk hkk]at hrel hv
  have hup:∀j,kI A0 kb k j->kI A0 kb out.k j:=λ j hj=>by
   rcases hj with hj|hj;.exact .inl hj
   exact .inr ⟨hj.1,oO⟩
  refine ih (i+1) hl' out.k _ _ _ oO hrun w' G' ρ' (a.put o.dst cv) ⟨?_,by rw[CX];exact hi.size,by rw[vY];exact hi.defers,λ t v hv'=>?_⟩ (hs.trans hst' (λ _ h=>h)) (λ tr k' fr' H' G' ρ' a' w' h1=>hK _ k' fr' H' G' ρ' a' w' h1)
  .refine hrel.allow _ (λ id hid=>?_) (λ id B A' hid=>?_)
   .simp only[bK,dL]at hid;rw[nF]at hid;rw[nP];split at hid;.rename_i x hx;rw[hid];rfl
    rename_i hx;simp only[bK,hid,lJ]
   simp only[bK,aK]at hid;obtain⟨B',hB',he⟩:=hid;cases he;rw[nF]at hB';rw[nP];split at hB';.rename_i x hx;rw[hB'];exact⟨kI A0 kb out.k,rfl,λ _ h=>h⟩
   rename_i hx;exact⟨kI A0 kb k,by simp only[bK,hB',bO],hup⟩
  rw[vM]at hv';rw[CY a o.dst cv t (λ x hx=>by rw[hi.size];exact hdst x hx)];split at hv';.rename_i he;cases hv';rw[iP he];exact hv
  rename_i hne;rw[iN hne];exact(hi.frm t v hv').step hi.rel hst (λ j hj hc=>by have:=hlt j hj;omega) hup
def SJ{id:Nat}(hd:nL nt ops=aB)(h:Run P Γ ops ops.toList k fr H (λ _ k' fr' H'=>kb<=k'->Q .normal k' fr' H')):W P Γ nt kb (.region id ops aF) Q k fr H:=λ A0 hA0 hk w G ρ a hi=>by
 refine wp_region ?_
 have:=UF (kb:=kb) (Q':=Post Γ nt A0 kb w G ρ Q) hd hA0 ops.toList 0 (λ j=>by rw[bH,eQ]) k fr H _ hk h w G ρ a hi (lF _ _ _ _)
  (λ tr k' fr' H' G' ρ' a' w' hK hk' hi' hs'=>⟨G',ρ',k',fr',H',hK hk',hk',hi',hs'⟩)
 rw[qR,<-List.range_eq_range']at this;exact this
end
inductive Bef (ops:Array Oper):Nat->Nat->Prop
 |edge {i o e}:ops[i]? =aA o->e∈o.after->Region.binds .any e=aB->Bef ops e.on i
 |trans {a b c}:Bef ops a b->Bef ops b c->Bef ops a c
variable{a:Act}{i:Nat}{o:Oper}
def aIZ(ops:Array Oper):Nat->Nat->Nat->Bool
 |0,_,_=>aF
 | f+1,j,i=>match ops[i]? with
   |some o=>o.after.toList.any λ e=>Region.binds .any e&&(e.on==j||aIZ ops f j e.on)
   |none=>aF
def aRN:∀(f j i:Nat),aIZ ops f j i=aB->Bef ops j i:=by
 intro f
 induction f with
 |zero=>intro j i h;cases h
 |succ f ih=>
  intro j i h;simp only[aIZ]at h;split at h
  .rename_i o ho;obtain⟨e,he',hb⟩:=aOB.1 h;have he:e∈o.after:=by simpa using he'
   simp only[aO,gQ,beq_iff_eq]at hb;obtain⟨h1,h2⟩:=hb;rcases h2 with rfl|h2;.exact .edge ho he h1
   exact .trans (ih j e.on h2) (.edge ho he h1)
  cases h
def pZ(ops:Array Oper)(o:Oper):List Nat:=
 (o.op.operands.toList.filterMap λ | .tmp t=>aA t|_=>aC)++(match o.guard with|some (j,_)=>((ops[j]?).bind (·.dst)).toList|none=>[])
def lA(a b:List Nat):Bool:=a.any λ x=>b.contains x
def IQ(o:Oper):List Nat:=o.dst.toList
def nM(ops:Array Oper)(oj:Oper)(fj:Foot)(oi:Oper)(fi:Foot):Bool:=
 lA (IQ oj) (pZ ops oi)||lA (IQ oj) (IQ oi)||lA (IQ oi) (pZ ops oj)||lA fj.mods fi.rds||lA fj.mods fi.mods||lA fj.rds fi.mods
def lE(ops:Array Oper)(tr:List Foot):Bool:=
 (aR ops.size).all λ i=>match ops[i]?,tr[i]? with
   |some oi,aA fi=>(oi.after.toList.all λ e=> !Region.binds .any e||decide (e.on<i))&&(fi.mods.all λ x=>decide (x<fi.k'))&&
      (aR i).all λ j=>match ops[j]?,tr[j]? with
        |some oj,aA fj=> !nM ops oj fj oi fi||aIZ ops ops.size j i
        |_,_=>aF
   |_,_=>aF
variable{x:Nat}
def yT{a b:List Nat}(h:lA a b=aF)(h1:x∈a)(h2:x∈b):False:=by unfold lA at h;have:=List.any_eq_false.1 h x h1;simp at this;exact this h2
section
variable{P:Program}{Γ:dW}{nt kb:Nat}{Q:AQ}{k:Nat}{fr:Fr}{H:aS}
def SL(P:Program)(Γ:dW)(ops:Array Oper)(o:Oper)(k:Nat)(fr:Fr)(H:aS)(out:Option Out)(k':Nat)(fr':Fr)(H':aS):Prop:=
 match out with
 |none=>nJ ops fr o=aA aF/\k'=k/\fr'=jM fr o.dst (.lit undef)/\H'=H
 |some out=>nJ ops fr o=aA aB/\Good P Γ o (lN Γ fr) (look H) k out/\k'=out.k/\fr'=jM fr o.dst out.v/\H'=mE H out.upd
def sG(k k':Nat):Option Out->Foot
 |none=>⟨[],[],k,k'⟩
 |some out=>⟨out.rds,out.upd.map (·.1),k,k'⟩
def aUE:∀(l:List Oper) (k:Nat) (fr:Fr) (H:aS) (K:List Foot->Nat->Fr->aS->Prop),Run P Γ ops l k fr H K→
 ∃ (kf:Nat->Nat) (frf:Nat->Fr) (Hf:Nat->aS) (outf:Nat->Option Out),kf 0=k/\frf 0=fr/\Hf 0=H∧
   (∀j o,l[j]? =aA o->SL P Γ ops o (kf j) (frf j) (Hf j) (outf j) (kf (j+1)) (frf (j+1)) (Hf (j+1)))∧
   ∃tr:List Foot,tr.length=l.length/\(∀j,j<l.length->tr[j]? =aA (sG (kf j) (kf (j+1)) (outf j)))/\K tr (kf l.length) (frf l.length) (Hf l.length):=by
 intro l
 induction l with
 |nil=>intro k fr H K h;exact⟨λ _=>k,λ _=>fr,λ _=>H,λ _=>aC,rfl,rfl,rfl,λ j o hj=>by simp at hj,[],rfl,λ j hj=>by simp at hj,h⟩
 |cons o r ih=>
  intro k fr H K h;rcases h with⟨hg,h⟩|⟨hg,out,hgood,h⟩
  .obtain⟨kf,frf,Hf,outf,h1,h2,h3,h4,tr,h5,h6,h7⟩:=ih _ _ _ _ h;refine⟨λ j=>match j with|0=>k|j+1=>kf j,λ j=>match j with|0=>fr|j+1=>frf j,λ j=>match j with|0=>H|j+1=>Hf j,λ j=>match j with|0=>aC|j+1=>outf j,rfl,rfl,rfl,λ j o' hj=>?_,⟨[],[],k,k⟩::tr,by simp[h5],λ j hj=>?_,h7⟩
   .cases j with
    |zero=>cases hj;exact⟨hg,h1,h2,h3⟩
    |succ j=>exact h4 j o' (by simpa using hj)
   cases j with
   |zero=>simp[sG,h1]
   |succ j=>exact h6 j (by simpa using hj)
  obtain⟨kf,frf,Hf,outf,h1,h2,h3,h4,tr,h5,h6,h7⟩:=ih _ _ _ _ h;refine⟨λ j=>match j with|0=>k|j+1=>kf j,λ j=>match j with|0=>fr|j+1=>frf j,λ j=>match j with|0=>H|j+1=>Hf j,λ j=>match j with|0=>aA out|j+1=>outf j,rfl,rfl,rfl,λ j o' hj=>?_,⟨out.rds,out.upd.map (·.1),k,out.k⟩::tr,by simp[h5],λ j hj=>?_,h7⟩
  .cases j with
   |zero=>cases hj;exact⟨hg,hgood,h1,h2,h3⟩
   |succ j=>exact h4 j o' (by simpa using hj)
  cases j with
  |zero=>simp[sG,h1]
  |succ j=>exact h6 j (by simpa using hj)
structure Text (A0:cF) (P:Program) (Γ:dW) (ops:Array Oper) (kf:Nat->Nat) (frf:Nat->Fr) (Hf:Nat->aS) (outf:Nat->Option Out):Prop where
 init:∀x,A0 x->x<kf 0
 step:∀j o,ops[j]? =aA o->SL P Γ ops o (kf j) (frf j) (Hf j) (outf j) (kf (j+1)) (frf (j+1)) (Hf (j+1))
 low:∀i o e,ops[i]? =aA o->e∈o.after->Region.binds .any e=aB->e.on<i
 mods:∀i o out x,ops[i]? =aA o->outf i=aA out->x∈out.upd.map (·.1)->x<kf (i+1)
 apart:∀i j oi oj,j<i->ops[i]? =aA oi->ops[j]? =aA oj->nM ops oj (sG (kf j) (kf (j+1)) (outf j)) oi (sG (kf i) (kf (i+1)) (outf i))=aB->Bef ops j i
variable{A0:cF}{ops:Array Oper}{kf:Nat->Nat}{frf:Nat->Fr}{Hf:Nat->aS}{outf:Nat->Option Out}
def aOF(outf:Nat->Option Out)(j:Nat):AVal:=match outf j with|some out=>out.v|none=> .lit undef
def DA(kf:Nat->Nat)(j x:Nat):Prop:=kf j<=x/\x<kf (j+1)
def aSF(A0:cF)(ops:Array Oper)(kf:Nat->Nat)(i:Nat):cF:=λ x=>A0 x\/∃j,j<ops.size/\Bef ops j i/\DA kf j x
def Aop(A0:cF)(ops:Array Oper)(kf:Nat->Nat)(i:Nat):cF:=λ x=>aSF A0 ops kf i x\/DA kf i x
def rG(ops:Array Oper)(j:Nat):Option Nat:=(ops[j]?).bind (·.dst)
def nV(outf:Nat->Option Out)(j id:Nat):Option (Option Blk):=match outf j with|some out=>vZ out.upd id|none=>aC
def IH(A0:cF)(ops:Array Oper)(kf:Nat->Nat)(fr0:Fr)(outf:Nat->Option Out)(D:Nat->Bool):Nat->Nat->Option (AVal×cF)
 |0,t=>(look fr0 t).map λ v=>(v,A0)
 |m+1,t=>if D m=aB/\rG ops m=aA t then aA (aOF outf m,Aop A0 ops kf m)else IH A0 ops kf fr0 outf D m t
def HD(A0:cF)(ops:Array Oper)(kf:Nat->Nat)(H0:aS)(outf:Nat->Option Out)(D:Nat->Bool):Nat->mP
 |0,id=>bK H0 A0 id
 |m+1,id=>if D m=aB then(match nV outf m id with|some x=>x.map λ B=>(B,Aop A0 ops kf m)|none=>HD A0 ops kf H0 outf D m id)else HD A0 ops kf H0 outf D m id
def EV:∀(m:Nat),(∀j,j<m->rG ops j=aA t->D j=D' j)->IH A0 ops kf fr0 outf D m t=IH A0 ops kf fr0 outf D' m t:=by
 intro m
 induction m with
 |zero=>intro _;rfl
 |succ m ih=>
  intro h;simp only[IH];rw[ih (λ j hj=>h j oO)];by_cases hd:rG ops m=aA t;.rw[h m oO hd]
  rw[iN (λ c=>hd c.2),iN (λ c=>hd c.2)]
def JN{id:Nat}:∀(m:Nat),(∀j,j<m->(nV outf j id).isSome=aB->D j=D' j)->HD A0 ops kf H0 outf D m id=HD A0 ops kf H0 outf D' m id:=by
 intro m
 induction m with
 |zero=>intro _;rfl
 |succ m ih=>
  intro h;simp only[HD];rw[ih (λ j hj=>h j oO)]
  cases hm:nV outf m id with
  |none=>simp
  |some x=>rw[h m oO (by rw[hm];rfl)]
def a5B:∀(m:Nat),i<=m->IH A0 ops kf fr0 outf (λ j=>decide (j<i)) m t=IH A0 ops kf fr0 outf (λ _=>aB) i t:=by
 intro m
 induction m with
 |zero=>intro h;have:i=0:=oO;subst this;rfl
 |succ m ih=>
  intro h;by_cases he:i=m+1;.subst he;exact EV _ (λ j hj _=>by simp;omega)
  simp only[IH];rw[iN sO];exact ih oO
def bDT{id:Nat}:∀(m:Nat),i<=m->HD A0 ops kf H0 outf (λ j=>decide (j<i)) m id=HD A0 ops kf H0 outf (λ _=>aB) i id:=by
 intro m
 induction m with
 |zero=>intro h;have:i=0:=oO;subst this;rfl
 |succ m ih=>
  intro h;by_cases he:i=m+1;.subst he;exact JN _ (λ j hj _=>by simp;omega)
  simp only[HD];rw[iN sO];exact ih oO
def aDD(T:Text A0 P Γ ops kf frf Hf outf):∀(i:Nat),i<=ops.size->(IH A0 ops kf (frf 0) outf (λ _=>aB) i t).map (·.1)=look (frf i) t:=by
 intro i
 induction i with
 |zero=>intro _;simp only[IH];cases look (frf 0) t<;>rfl
 |succ i ih=>
  intro hi;have ho:ops[i]? =aA ops[i]:=aW oO;have hs:=T.step i _ ho;simp only[IH,true_and];have hd:rG ops i=(ops[i]).dst:=by simp[rG,ho]
  unfold SL at hs
  cases hout:outf i with
  |none=>
   rw[hout]at hs;rw[hs.2.2.1,vM,hd];split;.simp[aOF,hout]
   exact ih oO
  |some out=>
   rw[hout]at hs;rw[hs.2.2.2.1,vM,hd];split;.simp[aOF,hout]
   exact ih oO
def aAF(T:Text A0 P Γ ops kf frf Hf outf){id:Nat}:∀(i:Nat),i<=ops.size->(HD A0 ops kf (Hf 0) outf (λ _=>aB) i id).map (·.1)=look (Hf i) id:=by
 intro i
 induction i with
 |zero=>intro _;simp only[HD,bK];cases look (Hf 0) id<;>rfl
 |succ i ih=>
  intro hi;have ho:ops[i]? =aA ops[i]:=aW oO;have hs:=T.step i _ ho;simp only[HD,if_true];unfold SL at hs
  cases hout:outf i with
  |none=>rw[hout]at hs;rw[hs.2.2.2];simp only[nV,hout];exact ih oO
  |some out=>
   rw[hout]at hs;rw[hs.2.2.2.2,nF];simp only[nV,hout]
   cases hx:vZ out.upd id with
   |none=>exact ih oO
   |some x=>cases x<;>rfl
def sX(T:Text A0 P Γ ops kf frf Hf outf):∀(j i:Nat),i<=j->j<=ops.size->kf i<=kf j:=by
 intro j
 induction j with
 |zero=>intro i h _;have:i=0:=oO;subst this;exact aJ _
 |succ j ih=>
  intro i h hj;by_cases he:i=j+1;.subst he;exact aJ _
  have h1:=ih i oO oO;have ho:ops[j]? =aA ops[j]:=aW oO;have hs:=T.step j _ ho;unfold SL at hs
  cases hout:outf j with
  |none=>rw[hout]at hs;rw[hs.2.1];exact h1
  |some out=>rw[hout]at hs;rw[hs.2.2.1];exact pL h1 hs.2.1.le
def aLC(T:Text A0 P Γ ops kf frf Hf outf)(hi:i<ops.size)(hj:j<ops.size)(h1:DA kf i x)(h2:DA kf j x):i=j:=by
 rcases kR i j with h|h|h;.have:=sX T j (i+1) oO oO;unfold DA at*;omega
 .exact h
 have:=sX T i (j+1) oO oO;unfold DA at*;omega
def CZ(T:Text A0 P Γ ops kf frf Hf outf)(hi:i<ops.size)(h1:DA kf i x)(h2:A0 x):False:=by have h3:=T.init x h2;have:=sX T i 0 oO oO;unfold DA at*;omega
def bDW(T:Text A0 P Γ ops kf frf Hf outf)(h:Bef ops j i):j<i:=by
 induction h with
 |edge ho he hb=>exact T.low _ _ _ ho he hb
 |trans _ _ h1 h2=>omega
def aQN(hb:∀j,j<i->rG ops j=aA t->Bef ops j i):∀(m:Nat),m<=i->i<ops.size->∀v A,IH A0 ops kf fr0 outf (λ _=>aB) m t=aA (v,A)->∀x,A x->aSF A0 ops kf i x:=by
 intro m
 induction m with
 |zero=>intro _ _ v A h x hx;simp only[IH,aK]at h;obtain⟨u,_,he⟩:=h;cases he;exact .inl hx
 |succ m ih=>
  intro hm hi v A h x hx;simp only[IH,true_and]at h;split at h
  .rename_i hd;cases h;have hbm:=hb m oO hd;rcases hx with(hx|⟨j,hj,hbj,hn⟩)|hx;.exact .inl hx
   .exact .inr ⟨j,hj,.trans hbj hbm,hn⟩
   exact .inr ⟨m,oO,hbm,hx⟩
  exact ih oO hi v A h x hx
def a1G{id:Nat}(hb:∀j,j<i->(nV outf j id).isSome=aB->Bef ops j i):∀(m:Nat),m<=i->i<ops.size->∀B A,HD A0 ops kf H0 outf (λ _=>aB) m id=aA (B,A)->∀x,A x->aSF A0 ops kf i x:=by
 intro m
 induction m with
 |zero=>intro _ _ v A h x hx;simp only[HD,bK,aK]at h;obtain⟨u,_,he⟩:=h;cases he;exact .inl hx
 |succ m ih=>
  intro hm hi v A h x hx;simp only[HD,if_true]at h
  cases hmod:nV outf m id with
  |none=>rw[hmod]at h;exact ih oO hi v A h x hx
  |some y=>
   rw[hmod]at h;simp only[aK]at h;obtain⟨B',_,he⟩:=h;cases he;have hbm:=hb m oO (by rw[hmod];rfl);rcases hx with(hx|⟨j,hj,hbj,hn⟩)|hx;.exact .inl hx
   .exact .inr ⟨j,hj,.trans hbj hbm,hn⟩
   exact .inr ⟨m,oO,hbm,hx⟩
def WL(T:Text A0 P Γ ops kf frf Hf outf)(hD:∀j,D j=aB->∀l,Bef ops l j->D l=aB)(hi:i<ops.size)(hDi:D i=aF)(hx:DA kf i x)(hj:j<ops.size)(hDj:D j=aB):¬Aop A0 ops kf j x:=by
 rintro((h|⟨l,hl,hb,hn⟩)|h);.exact CZ T hi hx h
 .have:=aLC T hi hl hx hn;subst this;rw[hD j hDj _ hb]at hDi;cases hDi
 have:=aLC T hi hj hx h;subst this;rw[hDj]at hDi;cases hDi
def a5A(T:Text A0 P Γ ops kf frf Hf outf)(hD:∀j,D j=aB->∀l,Bef ops l j->D l=aB)(hi:i<ops.size)(hDi:D i=aF)(hx:DA kf i x):
 ∀(m:Nat),m<=ops.size->∀v A,IH A0 ops kf fr0 outf D m t=aA (v,A)->¬A x:=by
 intro m
 induction m with
 |zero=>intro _ v A h hA;simp only[IH,aK]at h;obtain⟨u,_,he⟩:=h;cases he;exact CZ T hi hx hA
 |succ m ih=>
  intro hm v A h;simp only[IH]at h;split at h;.rename_i hd;cases h;exact WL T hD hi hDi hx oO hd.1
  exact ih oO v A h
def bDS(T:Text A0 P Γ ops kf frf Hf outf)(hD:∀j,D j=aB->∀l,Bef ops l j->D l=aB)(hi:i<ops.size)(hDi:D i=aF)(hx:DA kf i x){id:Nat}:
 ∀(m:Nat),m<=ops.size->∀B A,HD A0 ops kf H0 outf D m id=aA (B,A)->¬A x:=by
 intro m
 induction m with
 |zero=>intro _ v A h hA;simp only[HD,bK,aK]at h;obtain⟨u,_,he⟩:=h;cases he;exact CZ T hi hx hA
 |succ m ih=>
  intro hm v A h;simp only[HD]at h;split at h
  .rename_i hd
   cases hmod:nV outf m id with
   |none=>rw[hmod]at h;exact ih oO v A h
   |some y=>rw[hmod]at h;simp only[aK]at h;obtain⟨B',_,he⟩:=h;cases he;exact WL T hD hi hDi hx oO hd
  exact ih oO v A h
def aMO(hn:rG ops i=aA t->∀j,i<j->D j=aB->rG ops j≠aA t):∀(m:Nat),i<m→
 IH A0 ops kf fr0 outf (λ j=>if j=i then aB else D j) m t=if rG ops i=aA t then aA (aOF outf i,Aop A0 ops kf i)else IH A0 ops kf fr0 outf D m t:=by
 intro m
 induction m with
 |zero=>intro h;omega
 |succ m ih=>
  intro h;by_cases he:m=i
  .subst he;simp only[IH,if_true,true_and];by_cases hd:rG ops m=aA t;.rw[iP hd,iP hd]
   rw[iN hd,iN hd,iN (λ c=>hd c.2)];exact EV _ (λ j hj _=>by rw[iN oO])
  simp only[IH,iN he];rw[ih oO];by_cases hd:rG ops i=aA t
  .rw[iP hd,iP hd];split;.rename_i hc;exact absurd hc.2 (hn hd m oO hc.1)
   rfl
  rw[iN hd,iN hd]
def a1F{id:Nat}(hn:(nV outf i id).isSome=aB->∀j,i<j->D j=aB->nV outf j id=aC)(hDi:D i=aF):∀(m:Nat),i<m→
 HD A0 ops kf H0 outf (λ j=>if j=i then aB else D j) m id=match nV outf i id with|some x=>x.map λ B=>(B,Aop A0 ops kf i)|none=>HD A0 ops kf H0 outf D m id:=by
 intro m
 induction m with
 |zero=>intro h;omega
 |succ m ih=>
  intro h;by_cases he:m=i;.subst he;simp only[HD,if_true];have hc:HD A0 ops kf H0 outf (λ j=>if j=m then aB else D j) m id=HD A0 ops kf H0 outf D m id:=JN _ (λ j hj _=>by rw[iN oO]);rw[hc,iN (by rw[hDi];simp)]
  simp only[HD,iN he];rw[ih oO]
  cases hm:nV outf i id with
  |none=>rfl
  |some x=>
   simp only;split;.rename_i hDm;rw[hn (by rw[hm];rfl) m oO hDm]
   rfl
def aIS(ops:Array Oper)(D:Nat->Bool):Prop:=∀j,D j=aB->∀l,Bef ops l j->D l=aB
def MX(h:∀i o e,D i=aB->ops[i]? =aA o->e∈o.after->Region.binds .any e=aB->D e.on=aB):aIS ops D:=by
 intro j hj l hb
 induction hb with
 |edge ho he hb=>exact h _ _ _ hj ho he hb
 |trans h1 h2 ih1 ih2=>exact ih1 (ih2 hj)
def aPN(hc:aIS ops D)(ho:ops[i]? =aA o)(hr:∀e,e∈o.after->Region.binds .any e=aB->D e.on=aB):∀ {l},Bef ops l i->D l=aB:=by
 intro l hb
 have key:∀ {a b},Bef ops a b->b=i->D a=aB:=by
  intro a b hb
  induction hb with
  |edge ho' he hb'=>intro h;subst h;rw[ho]at ho';cases ho';exact hr _ he hb'
  |trans h1 h2 ih1 ih2=>intro h;exact hc _ (ih2 h) _ h1
 exact key hb rfl
structure DInv (A0:cF) (Γ:dW) (nt:Nat) (ops:Array Oper) (kf:Nat->Nat) (fr0:Fr) (H0:aS) (outf:Nat->Option Out) (D:Nat->Bool) (w:World) (G:Nat->Prop) (ρ:dH) (a:Act):Prop where
 rel:HRel Γ w G ρ (HD A0 ops kf H0 outf D ops.size)
 size:a.tmps.size=nt
 defers:a.defers=[]
 frm:∀t v A,IH A0 ops kf fr0 outf D ops.size t=aA (v,A)->V w G ρ A v (a.tmps.getD t undef)
def aDE{out:Out}(h:outf i=aA out):(sG (kf i) (kf (i+1)) (outf i)).rds=out.rds:=by rw[h];rfl
def aQQ{out:Out}(h:outf i=aA out):(sG (kf i) (kf (i+1)) (outf i)).mods=out.upd.map (·.1):=by rw[h];rfl
def aLI:∀ {upd:List (Nat×Option Blk)} {id:Nat},(vZ upd id).isSome=aB->id∈upd.map (·.1)
 |[],id,h=>by simp[vZ,look]at h
 |(i,x)::r,id,h=>by
  simp only[vZ,look]at h;split at h;.rename_i he;simp[he]
  simp only[bN,fO];exact .inr (aLI h)
def AI{id:Nat}(h:(nV outf j id).isSome=aB):id∈(sG (kf j) (kf (j+1)) (outf j)).mods:=by
 unfold nV at h
 cases hout:outf j with
 |none=>rw[hout]at h;simp at h
 |some out=>rw[hout]at h;exact aLI h
def IP(h:o.dst=aA t):t∈IQ o:=by simp[IQ,h]
def TL(h1:oj.dst=aA t)(h2:t∈pZ ops oi):nM ops oj fj oi fi=aB:=by
 cases hc:nM ops oj fj oi fi with
 |true=>rfl
 |false=>simp only[nM,gA]at hc;exact(yT hc.1.1.1.1.1 (IP h1) h2).elim
def RN(h1:t∈pZ ops oj)(h2:oi.dst=aA t):nM ops oj fj oi fi=aB:=by
 cases hc:nM ops oj fj oi fi with
 |true=>rfl
 |false=>simp only[nM,gA]at hc;exact(yT hc.1.1.1.2 (IP h2) h1).elim
def ZJ(h1:oj.dst=aA t)(h2:oi.dst=aA t):nM ops oj fj oi fi=aB:=by
 cases hc:nM ops oj fj oi fi with
 |true=>rfl
 |false=>simp only[nM,gA]at hc;exact(yT hc.1.1.1.1.2 (IP h1) (IP h2)).elim
def IZ(h1:x∈fj.mods)(h2:x∈fi.rds\/x∈fi.mods):nM ops oj fj oi fi=aB:=by
 cases hc:nM ops oj fj oi fi with
 |true=>rfl
 |false=>
  simp only[nM,gA]at hc;rcases h2 with h2|h2;.exact(yT hc.1.1.2 h1 h2).elim
  exact(yT hc.1.2 h1 h2).elim
def TM(h1:x∈fj.rds)(h2:x∈fi.mods):nM ops oj fj oi fi=aB:=by
 cases hc:nM ops oj fj oi fi with
 |true=>rfl
 |false=>simp only[nM,gA]at hc;exact(yT hc.2 h1 h2).elim
def aQY(T:Text A0 P Γ ops kf frf Hf outf)(hd:nL nt ops=aB)(hDs:∀j,D j=aB->j<ops.size)(hc:aIS ops D)(ho:ops[i]? =aA o)(hDi:D i=aF)
 (hr:∀e,e∈o.after->Region.binds .any e=aB->D e.on=aB)     (hinv:DInv A0 Γ nt ops kf (frf 0) (Hf 0) outf D w G ρ a)
   (hK:∀w' G' ρ' a',DInv A0 Γ nt ops kf (frf 0) (Hf 0) outf (λ j=>if j=i then aB else D j) w' G' ρ' a'->Step (lX (kf 0)) w G ρ w' G' ρ'->K a' w'):wpOp P ops Q' i K a w:=by
 have hi:i<ops.size:=by have:=(dK.1 ho).1;exact this
 have hpre:∀ {l},Bef ops l i->D l=aB:=aPN hc ho hr;have hdsti:rG ops i=o.dst:=by simp[rG,ho]
 have opAt:∀j t,rG ops j=aA t->∃oj,ops[j]? =aA oj/\oj.dst=aA t:=λ j t h=>by obtain⟨oj,h1,h2⟩:=cJ.1 h;exact⟨oj,h1,h2⟩
 have hslotD:∀t,t∈pZ ops o->(∀j,j<i->rG ops j=aA t->Bef ops j i)/\(∀j,rG ops j=aA t->D j=decide (j<i)):=λ t ht=>by
  have h1:∀j,j<i->rG ops j=aA t->Bef ops j i:=λ j hj hdj=>by obtain⟨oj,h2,h3⟩:=opAt j t hdj;exact T.apart i j o oj hj ho h2 (TL h3 ht)
  refine⟨h1,λ j hdj=>?_⟩;obtain⟨oj,h2,h3⟩:=opAt j t hdj;rcases kR j i with h|h|h;.rw[hpre (h1 j h hdj)];simp[h]
  .rw[h,hDi];simp
  have hb:=T.apart j i oj o h h2 ho (RN ht h3)
  cases hDj:D j with
  |false=>simp;omega
  |true=>rw[hc j hDj _ hb]at hDi;cases hDi
 have hslot:∀t,t∈pZ ops o->∀v,look (frf i) t=aA v->V w G ρ (aSF A0 ops kf i) v (a.tmps.getD t undef):=λ t ht v hv=>by
  obtain⟨h1,h2⟩:=hslotD t ht;have h3:=aDD T (t:=t) i oO;rw[hv]at h3;simp only[aK]at h3;obtain⟨⟨v',A⟩,h4,h5⟩:=h3;simp only at h5;subst h5;have h6:IH A0 ops kf (frf 0) outf D ops.size t=aA (v',A):=by rw[EV (D':=λ j=>decide (j<i)) ops.size (λ j _ hdj=>h2 j hdj),a5B ops.size oO];exact h4
  exact(hinv.frm t v' A h6).mono (λ _ h=>h) (λ _ _=>rfl) (λ _ _=>rfl) (aQN h1 i (aJ _) hi v' A h4) (λ _ _=> .inr rfl)
 have hguard:∀b,nJ ops (frf i) o=aA b->Region.wanted o (yielded ops a.tmps)=b:=λ b hb=>
  AN hd hinv.size (λ j want hg t ht c hcl=>by have:=hslot t (by unfold pZ;rw[hg];simp[ht]) _ hcl;exact iB this) hb
 have hs:=T.step i o ho;unfold SL at hs;have hdst:=AY hd ho;have hdn:∀t,rG ops i=aA t->∀j,i<j->D j=aB->rG ops j≠aA t:=λ t ht j hj hDj hdj=>by obtain⟨oj,h2,h3⟩:=opAt j t hdj;rw[hdsti]at ht;have hb:=T.apart j i oj o hj h2 ho (ZJ ht h3);rw[hc j hDj _ hb]at hDi;cases hDi
 unfold wpOp;rw[ho]
 cases hout:outf i with
 |none=>
  rw[hout]at hs;obtain⟨hg,hk,hfr,hH⟩:=hs;simp only[hguard _ hg,bP,if_false];refine hK w G ρ (a.put o.dst undef) ⟨?_,by rw[CX];exact hinv.size,by rw[vY];exact hinv.defers,λ t v A hv=>?_⟩ (lF _ _ _ _)
  .have:HD A0 ops kf (Hf 0) outf (λ j=>if j=i then aB else D j) ops.size=HD A0 ops kf (Hf 0) outf D ops.size:=funext λ id=>by rw[a1F (λ h=>by simp[nV,hout]at h) hDi ops.size hi];simp[nV,hout]
   rw[this];exact hinv.rel
  rw[aMO (hdn t) ops.size hi]at hv;rw[CY a o.dst undef t (λ x hx=>by rw[hinv.size];exact hdst x hx)];rw[hdsti]at hv;split at hv;.rename_i he;cases hv;rw[iP he];simp only[aOF,hout];exact .lit
  rename_i hne;rw[iN hne];exact hinv.frm t v A hv
 |some out=>
  rw[hout]at hs;obtain⟨hg,hgood,hk,hfr,hH⟩:=hs;simp only[hguard _ hg,if_true];left;have hnew:∀x,(kf i<=x/\x<out.k)↔DA kf i x:=λ x=>by unfold DA;rw[hk]
  have hmod1:∀id,(nV outf i id).isSome=aB->∀j,i<j->D j=aB->nV outf j id=aC:=λ id h j hj hDj=>by
   cases hm:nV outf j id with
   |none=>rfl
   |some x=>have hj':=hDs j hDj;have hb:=T.apart j i _ o hj (aW hj') ho (IZ (AI h) (.inr (AI (by rw[hm];rfl))));rw[hc j hDj _ hb]at hDi;cases hDi
  refine hgood.ok w G ρ (HD A0 ops kf (Hf 0) outf D ops.size) (aSF A0 ops kf i) a hinv.rel (λ x hx=>?_) (λ x h1 h2=>?_) (λ id hid=>?_) (λ x hx v hv=>?_) K Q' (λ w' G' ρ' cv hrel hv hst=>?_)
  .rcases hx with hx|⟨j,hj,hb,hnj⟩;.have h1:=T.init x hx;have h2:=sX T i 0 oO oO;omega
   have h1:=bDW T hb;have h2:=sX T i (j+1) oO oO;unfold DA at hnj;omega
  .have hn:=(hnew x).1 ⟨h1,h2⟩;have hold:∀id B A,HD A0 ops kf (Hf 0) outf D ops.size id=aA (B,A)->¬A x:=λ id B A h=>bDS T hc hi hDi hn ops.size (aJ _) B A h;refine⟨?_,hold⟩
   cases hH:HD A0 ops kf (Hf 0) outf D ops.size x with
   |none=>exact hinv.rel.dom x hH
   |some y=>obtain⟨B,A⟩:=y;exact absurd (hinv.rel.blk x B A hH).1 (hold x B A hH)
  .obtain⟨B,hB⟩:=fU.1 (hgood.rds id hid)
   have h1:∀j,j<i->(nV outf j id).isSome=aB->Bef ops j i:=λ j hj hm=>
    T.apart i j o _ hj ho (aW oO) (IZ (AI hm) (.inl (by rw[aDE hout];exact hid)))
   have h2:∀j,j<ops.size->(nV outf j id).isSome=aB->D j=decide (j<i):=λ j hj hm=>by
    rcases kR j i with h|h|h;.rw[hpre (h1 j h hm)];simp[h]
    .rw[h,hDi];simp
    have hb:=T.apart j i _ o h (aW hj) ho (TM (by rw[aDE hout];exact hid) (AI hm))
    cases hDj:D j with
    |false=>simp;omega
    |true=>rw[hc j hDj _ hb]at hDi;cases hDi
   have h3:=aAF T (id:=id) i oO;rw[hB]at h3;simp only[aK]at h3;obtain⟨⟨B',A⟩,h4,h5⟩:=h3;simp only at h5;subst h5;refine⟨B',A,hB,?_,a1G h1 i (aJ _) hi B' A h4⟩;rw[JN (D':=λ j=>decide (j<i)) ops.size (λ j hj hm=>h2 j hj hm),bDT ops.size oO];exact h4
  .cases x with
   |tmp t=>exact hslot t (by unfold pZ;simp only[dJ,List.mem_filterMap];exact .inl ⟨.tmp t,by simpa using hx,rfl⟩) v hv
   |const c=>cases hv;exact .lit
   |global g=>simp only[lN,aK]at hv;obtain⟨cells,hl,rfl⟩:=hv;exact(hinv.rel.glob g cells hl).1.weaken
   |func f=>cases hv;exact .fn rfl (λ j v hj=>by simp at hj)
  have hA:(λ x=>aSF A0 ops kf i x\/(kf i<=x/\x<out.k))=Aop A0 ops kf i:=funext λ x=>by simp only[Aop,DA,hk]
  rw[hA]at hrel hv;have hS:∀x A,¬A->(A->¬(kf i<=x/\x<out.k)):=λ x A h1 h2=>absurd h2 h1;refine hK w' G' ρ' (a.put o.dst cv) ⟨?_,by rw[CX];exact hinv.size,by rw[vY];exact hinv.defers,λ t v A hv'=>?_⟩ ?_
  .have:HD A0 ops kf (Hf 0) outf (λ j=>if j=i then aB else D j) ops.size=jT (HD A0 ops kf (Hf 0) outf D ops.size) (Aop A0 ops kf i) out.upd:=funext λ id=>by rw[a1F (hmod1 id) hDi ops.size hi,nP];simp only[nV,hout];all_goals(cases vZ out.upd id<;>rfl)
   rw[this];exact hrel
  .rw[aMO (hdn t) ops.size hi]at hv';rw[CY a o.dst cv t (λ x hx=>by rw[hinv.size];exact hdst x hx)];rw[hdsti]at hv';split at hv';.rename_i he;cases hv';rw[iP he];simp only[aOF,hout];exact hv
   rename_i hne;rw[iN hne];exact(hinv.frm t v A hv').step hinv.rel hst (λ x hx hn=>a5A T hc hi hDi ((hnew x).1 hn) ops.size (aJ _) v A hv' hx) (λ _ h=>h)
  exact⟨hst.size,hst.keep,hst.shape,hst.g,hst.g',hst.own,λ x hx=>hst.ids x (λ hn=>by have h2:=sX T i 0 oO oO;simp only[lX]at hx;omega),hst.os,hst.tape,hst.output⟩
end
section
variable{P:Program}{Γ:dW}{nt kb:Nat}{Q:AQ}{k:Nat}{fr:Fr}{H:aS}
variable{A0:cF}{ops:Array Oper}{kf:Nat->Nat}{frf:Nat->Fr}{Hf:Nat->aS}{outf:Nat->Option Out}
def aDX{p p':Nat->Bool}:∀(l:List Nat) (x:Nat),(∀y,p' y=aB->p y=aB)->x∈l->p x=aB->p' x=aF->l.countP p'<l.countP p
 |[],x,_,h,_,_=>by simp at h
 |y::r,x,hp,h,h1,h2=>by
  have hle:r.countP p'<=r.countP p:=List.countP_mono_left (λ z _ hz=>hp z hz);rw[List.countP_cons,List.countP_cons];rcases fO.1 h with rfl|h;.rw[h1,h2];simp;omega
  have ih:=aDX r x hp h h1 h2
  cases hy:p' y with
  |true=>rw[hp y hy];simp;exact ih
  |false=>simp;omega
def vQ(ops:Array Oper)(listed:Array Bool):Nat:=(aR ops.size).countP λ j=> !listed.getD j aF
def aYB(T:Text A0 P Γ ops kf frf Hf outf)(hd:nL nt ops=aB)
 (hQ:∀w G ρ a,DInv A0 Γ nt ops kf (frf 0) (Hf 0) outf (λ j=>decide (j<ops.size)) w G ρ a->Step (lX (kf 0)) w0 G0 ρ0 w G ρ->Q' .normal a w):
 ∀ (fuel:Nat) (listed:Array Bool) (w:World) (G:Nat->Prop) (ρ:dH) (a:Act),listed.size=ops.size->vQ ops listed<=fuel→
   (∀i o e,listed.getD i aF=aB->ops[i]? =aA o->e∈o.after->Region.binds .any e=aB->listed.getD e.on aF=aB)→
   DInv A0 Γ nt ops kf (frf 0) (Hf 0) outf (λ j=>listed.getD j aF) w G ρ a->Step (lX (kf 0)) w0 G0 ρ0 w G ρ->wpAny P .any ops Q' fuel listed a w:=by
 have hall:∀(listed:Array Bool),listed.size=ops.size->Region.ready .any ops listed=[]->∀j,j<ops.size->listed.getD j aF=aB:=by
  intro listed hsz hr j
  induction j using Nat.strongRecOn with
  |_ j ih=>
   intro hj
   cases hl:listed.getD j aF with
   |true=>rfl
   |false=>
    have hmem:j∈Region.ready .any ops listed:=by
     unfold Region.ready;rw[lK];refine⟨dX.2 hj,?_⟩;have ho:ops[j]? =aA ops[j]:=aW hj
     have h1:listed.getD j aB=aF:=by
      rw[aM,aW oO]at hl⊢
      simpa using hl
     rw[h1,ho];simp only[bO,LB,Bool.not_false,lZ];rw[Array.all_eq_true'];intro e he;by_cases hb:Region.binds .any e=aB;.have hlt:=T.low j _ e ho he hb;rw[ih e.on hlt oO];simp
     simp[hb]
    rw[hr]at hmem;simp at hmem
 have hend:∀(listed:Array Bool) w G ρ a,listed.size=ops.size->DInv A0 Γ nt ops kf (frf 0) (Hf 0) outf (λ j=>listed.getD j aF) w G ρ a->Step (lX (kf 0)) w0 G0 ρ0 w G ρ→
  Region.ready .any ops listed=[]->Q' .normal a w:=by
  intro listed w G ρ a hsz hinv hst hr
  have hl:=hall listed hsz hr
  have he:(λ j=>listed.getD j aF)=λ j=>decide (j<ops.size):=funext λ j=>by
   by_cases hj:j<ops.size;.rw[hl j hj];simp[hj]
   rw[aM,iS oO];simp;omega
  rw[he]at hinv
  exact hQ w G ρ a hinv hst
 intro fuel
 induction fuel with
 |zero=>
  intro listed w G ρ a hsz hcnt hed hinv hst
  have hr:Region.ready .any ops listed=[]:=by
   rw[List.eq_nil_iff_forall_not_mem];intro i hi;unfold Region.ready at hi;rw[lK]at hi;obtain⟨h1,h2⟩:=hi;simp only[aO,dV]at h2;have hlt:=dX.1 h1
   have h3:listed.getD i aF=aF:=by
    have h4:=h2.1;rw[aM,aW oO]at h4⊢
    simpa using h4
   have h5:0<vQ ops listed:=by unfold vQ;rw[List.countP_pos_iff];exact⟨i,h1,by rw[h3];rfl⟩
   omega
  exact⟨hr,hend listed w G ρ a hsz hinv hst hr⟩
 |succ fuel ih=>
  intro listed w G ρ a hsz hcnt hed hinv hst;refine⟨hend listed w G ρ a hsz hinv hst,λ i hi=>?_⟩;unfold Region.ready at hi;rw[lK]at hi;obtain⟨h1,h2⟩:=hi;have hlt:=dX.1 h1;have ho:ops[i]? =aA ops[i]:=aW hlt;rw[ho]at h2;simp only[bO,LB,aO,dV]at h2
  have h3:listed.getD i aF=aF:=by
   have h4:=h2.1;rw[aM,aW oO]at h4⊢
   simpa using h4
  have hrdy:∀e,e∈(ops[i]).after->Region.binds .any e=aB->listed.getD e.on aF=aB:=λ e he hb=>by have:=Array.all_eq_true'.1 h2.2 e he;simpa [hb]using this
  have hset:(λ j=>(listed.setIfInBounds i aB).getD j aF)=λ j=>if j=i then aB else listed.getD j aF:=funext λ j=>by
   by_cases hj:j=i;.subst hj;rw[iP rfl,aM,rV oO];rfl
   rw[iN hj,aM,mA (λ e=>hj e.symm),<-aM]
  refine aQY T hd (D:=λ j=>listed.getD j aF) (λ j hj=>?_) (MX hed) ho h3 hrdy hinv (λ w' G' ρ' a' hinv' hst'=>?_)
  .by_cases hjl:j<ops.size;.exact hjl
   rw[aM,iS oO]at hj;simp at hj
  refine ih (listed.setIfInBounds i aB) w' G' ρ' a' (by simp[hsz]) ?_ ?_ (by rw[hset];exact hinv') (hst.trans hst' (λ _ h=>h))
  .have hlt':vQ ops (listed.setIfInBounds i aB)<vQ ops listed:=by
    unfold vQ;refine aDX (aR ops.size) i (λ y hy=>?_) h1 (by rw[h3];rfl) (by rw[congrFun hset i];simp);have:=congrFun hset y;rw[this]at hy;by_cases hyi:y=i;.rw[iP hyi]at hy;simp at hy
    rw[iN hyi]at hy;exact hy
   omega
  intro j oj e hj hoj he hb;have e1:=congrFun hset j;have e2:=congrFun hset e.on;rw[e2];rw[e1]at hj;by_cases hji:j=i
  .subst hji;rw[ho]at hoj;cases hoj;by_cases hei:e.on=j;.rw[iP hei]
   rw[iN hei];exact hrdy e he hb
  rw[iN hji]at hj;by_cases hei:e.on=i;.rw[iP hei]
  rw[iN hei];exact hed j oj e hj hoj he hb
def aJN{id:Nat}(hm:P.follows .mixedOrders=aB)(hd:nL nt ops=aB)(h:Run P Γ ops ops.toList k fr H (λ tr k' fr' H'=>lE ops tr=aB/\(kb<=k'->Q .normal k' fr' H'))):
 W P Γ nt kb (.region id ops aB) Q k fr H:=λ C0 hC0 hk w G ρ a hi=>by
 obtain⟨A0,hA0e⟩:∃A0,A0=kI C0 kb k:=⟨_,rfl⟩
 have hlt0:=aJG (A0:=C0) hC0 hk
 obtain⟨kf,frf,Hf,outf,h1,h2,h3,h4,tr,h5,h6,h7,h8⟩:=aUE (P:=P) (Γ:=Γ) (ops:=ops) ops.toList k fr H _ h
 rw[qR]at h5 h8
 have hstep:∀j o,ops[j]? =aA o->SL P Γ ops o (kf j) (frf j) (Hf j) (outf j) (kf (j+1)) (frf (j+1)) (Hf (j+1)):=λ j o hj=>h4 j o (by rw[bH];exact hj)
 have hfoot:∀j,j<ops.size->tr[j]? =aA (sG (kf j) (kf (j+1)) (outf j)):=λ j hj=>h6 j (by simpa using hj)
 have hrow:∀i oi,ops[i]? =aA oi->(oi.after.toList.all λ e=> !Region.binds .any e||decide (e.on<i))=aB/\((sG (kf i) (kf (i+1)) (outf i)).mods.all λ x=>decide (x<kf (i+1)))=aB∧
  ∀j oj,j<i->ops[j]? =aA oj->nM ops oj (sG (kf j) (kf (j+1)) (outf j)) oi (sG (kf i) (kf (i+1)) (outf i))=aB->aIZ ops ops.size j i=aB:=λ i oi hoi=>by
  have hlt:=(dK.1 hoi).1
  have:=aY.1 h7 i (dX.2 hlt)
  rw[hoi,hfoot i hlt]at this
  simp only[aO]at this
  obtain⟨⟨t1,t2⟩,t3⟩:=this
  refine⟨t1,?_,λ j oj hj hoj hcl=>?_⟩
  · cases hout:outf i with
    |none=>simp[sG]
    |some out=>rw[hout]at t2;exact t2
  · have t4:=aY.1 t3 j (dX.2 hj)
    rw[hoj,hfoot j oO]at t4
    simp only[gQ,dV]at t4
    rcases t4 with t4|t4
    · rw[hcl]at t4;cases t4
    · exact t4
 have T:Text A0 P Γ ops kf frf Hf outf:={
  init:=λ x hx=>by rw[hA0e]at hx;rw[h1];exact hlt0 x hx
  step:=hstep
  low:=λ i o e ho he hb=>by have:=aY.1 (hrow i o ho).1 e (by simpa using he);simpa [hb]using this
  mods:=λ i o out x ho hout hx=>by have:=aY.1 (hrow i o ho).2.1 x (by rw[aQQ hout];exact hx);simpa using this
  apart:=λ i j oi oj hj hoi hoj hcl=>aRN _ _ _ ((hrow i oi hoi).2.2 j oj hj hoj hcl)}
 refine wp_region_any hm ?_
 have hrep:∀j,(xL ops.size aF).getD j aF=aF:=λ j=>by rw[aM,Array.getElem?_replicate];split<;>rfl
 have hemptyF:∀m t,IH A0 ops kf (frf 0) outf (λ j=>(xL ops.size aF).getD j aF) m t=(look (frf 0) t).map λ v=>(v,A0):=λ m t=>by
  induction m with
  |zero=>rfl
  |succ m ih=>simp only[IH];rw[iN (by rw[hrep];simp)];exact ih
 have hemptyH:∀m id,HD A0 ops kf (Hf 0) outf (λ j=>(xL ops.size aF).getD j aF) m id=bK (Hf 0) A0 id:=λ m id=>by
  induction m with
  |zero=>rfl
  |succ m ih=>simp only[HD];rw[iN (by rw[hrep];simp)];exact ih
 refine aYB T hd (w0:=w) (G0:=G) (ρ0:=ρ) (Q':=Post Γ nt C0 kb w G ρ Q) (λ w' G' ρ' a' hinv hst=>?_) ops.size _ {w with drawn:=w.drawn+1} G ρ a (by simp) ?_ (λ i o e hl=>by rw[hrep]at hl;cases hl) ⟨?_,hi.size,hi.defers,λ t v A hv=>?_⟩ (UA _ rfl rfl rfl rfl)
 ·
  have hkn:kb<=kf ops.size:=pL (by rw[h1];exact hk) (sX T ops.size 0 oO (aJ _))
  have hold:∀x,A0 x->kI C0 kb (kf ops.size) x:=λ x hx=>by
   have h0:=sX T ops.size 0 oO (aJ _);rw[hA0e]at hx;rcases hx with hx|hx;.exact .inl hx
   exact .inr ⟨hx.1,oO⟩
  have hnw:∀j,j<ops.size->∀x,DA kf j x->kI C0 kb (kf ops.size) x:=λ j hj x hn=>by have h0:=sX T j 0 oO oO;have:=sX T ops.size (j+1) oO (aJ _);unfold DA at hn;exact .inr ⟨oO,oO⟩
  have hle:∀j,j<ops.size->∀x,Aop A0 ops kf j x->kI C0 kb (kf ops.size) x:=λ j hj x hx=>by
   rcases hx with(hx|⟨l,hl,_,hn⟩)|hn;.exact hold x hx
   .exact hnw l hl x hn
   exact hnw j hj x hn
  have hF:∀t,IH A0 ops kf (frf 0) outf (λ j=>decide (j<ops.size)) ops.size t=IH A0 ops kf (frf 0) outf (λ _=>aB) ops.size t:=λ t=>EV _ (λ j hj _=>by simp[hj])
  have hH:∀id,HD A0 ops kf (Hf 0) outf (λ j=>decide (j<ops.size)) ops.size id=HD A0 ops kf (Hf 0) outf (λ _=>aB) ops.size id:=λ id=>JN _ (λ j hj _=>by simp[hj])
  have hFA:∀t m,m<=ops.size->∀v A,IH A0 ops kf (frf 0) outf (λ _=>aB) m t=aA (v,A)->∀x,A x->kI C0 kb (kf ops.size) x:=λ t m=>by
   induction m with
   |zero=>intro _ v A h x hx;simp only[IH,aK]at h;obtain⟨u,_,he⟩:=h;cases he;exact hold x hx
   |succ m ih=>
    intro hm v A h x hx;simp only[IH,true_and]at h;split at h;.cases h;exact hle m oO x hx
    exact ih oO v A h x hx
  have hHA:∀id m,m<=ops.size->∀B A,HD A0 ops kf (Hf 0) outf (λ _=>aB) m id=aA (B,A)->∀x,A x->kI C0 kb (kf ops.size) x:=λ id m=>by
   induction m with
   |zero=>intro _ v A h x hx;simp only[HD,bK,aK]at h;obtain⟨u,_,he⟩:=h;cases he;exact hold x hx
   |succ m ih=>
    intro hm B A h x hx;simp only[HD,if_true]at h
    cases hmod:nV outf m id with
    |none=>rw[hmod]at h;exact ih oO B A h x hx
    |some y=>rw[hmod]at h;simp only[aK]at h;obtain⟨B',_,he⟩:=h;cases he;exact hle m oO x hx
  have hst':Step (lX kb) w G ρ w' G' ρ':=⟨hst.size,hst.keep,hst.shape,hst.g,hst.g',hst.own,λ x hx=>hst.ids x (by simp only[lX]at hx⊢;omega),hst.os,hst.tape,hst.output⟩
  refine⟨G',ρ',kf ops.size,frf ops.size,Hf ops.size,h8 hkn,hkn,⟨?_,hinv.size,hinv.defers,λ t v hv=>?_⟩,hst'⟩
  · refine hinv.rel.allow _ (λ id hid=>?_) (λ id B A' hid=>?_)
    · simp only[bK,dL]at hid
      rw[<-aAF T (id:=id) ops.size (aJ _)]at hid
      rw[hH]
      simpa using hid
    · simp only[bK,aK]at hid
      obtain⟨B',hB',he⟩:=hid
      cases he
      rw[<-aAF T (id:=id) ops.size (aJ _)]at hB'
      simp only[aK]at hB'
      obtain⟨⟨B1,A1⟩,h9,h10⟩:=hB'
      simp only at h10;subst h10
      exact⟨A1,by rw[hH];exact h9,hHA id ops.size (aJ _) _ A1 h9⟩
  · rw[<-aDD T (t:=t) ops.size (aJ _)]at hv
    simp only[aK]at hv
    obtain⟨⟨v1,A1⟩,h9,h10⟩:=hv
    simp only at h10;subst h10
    exact(hinv.frm t v1 A1 (by rw[hF];exact h9)).mono (λ _ h=>h) (λ _ _=>rfl) (λ _ _=>rfl) (hFA t ops.size (aJ _) v1 A1 h9) (λ _ _=> .inr rfl)
 · unfold vQ
   refine pL (List.countP_le_length) ?_
   simp
 · have:HD A0 ops kf (Hf 0) outf (λ j=>(xL ops.size aF).getD j aF) ops.size=bK (Hf 0) A0:=funext λ id=>hemptyH ops.size id
   rw[this,h3,hA0e]
   exact hi.rel.same rfl rfl rfl rfl
 · rw[hemptyF]at hv
   simp only[aK]at hv
   obtain⟨u,hu,he⟩:=hv
   cases he
   rw[h2]at hu
   rw[hA0e]
   exact(hi.frm t _ hu).mono (w:=w) (w':={w with drawn:=w.drawn+1}) (λ _ h=>h) (λ _ _=>rfl) (λ _ _=>rfl) (λ _ h=>h) (λ _ _=> .inr rfl)
end
def aX(P:Program)(g:FuncId):Bool:=
 match P.funcs[g]? with
 |some fn=>fn.body.isSome&&fn.name != "runtime.NumGoroutine"
 |none=>aF
def jY(v:AVal)(k':Nat)(Hc Hout:aS):Out:=⟨v,k',(Hout.map λ x=>(x.1,aA x.2))++(Hc.map λ x=>(x.1,aC)),Hc.map (·.1)⟩
def qH(ev:Operand->Option AVal):List Operand->Option (List AVal)
 |[]=>aA []
 | x::r=>match ev x,qH ev r with
   |some v,aA vs=>aA (v::vs)
   |_,_=>aC
def DP{ev:Operand->Option AVal}:∀ {xs:List Operand} {vs:List AVal},qH ev xs=aA vs->vs.length=xs.length/\∀(j:Nat) x v,xs[j]? =aA x->vs[j]? =aA v->ev x=aA v
 |[],vs,h=>by cases h;exact⟨rfl,λ j x v hx=>by simp at hx⟩
 |x::r,vs,h=>by
  simp only[qH]at h;split at h
  .rename_i v vs' h1 h2;cases h;obtain⟨h3,h4⟩:=DP h2;refine⟨by simp[h3],λ j y u hy hu=>?_⟩
   cases j with
   |zero=>cases hy;cases hu;exact h1
   |succ j=>exact h4 j y u (by simpa using hy) (by simpa using hu)
  cases h
def HY{α:Type}:∀ {l:List (Nat×α)} {i:Nat} {x:α},look l i=aA x->(i,x)∈l
 |[],i,x,h=>by simp[look]at h
 |(a,y)::r,i,x,h=>by
  simp only[look]at h;split at h;.rename_i he;subst he;cases h;simp
  exact dZ _ (HY h)
def UW{α:Type}:∀ {l:List (Nat×α)} {i:Nat},look l i=aC->∀x,(i,x)∉l
 |[],i,_,x,hx=>by simp at hx
 |(a,y)::r,i,h,x,hx=>by
  simp only[look]at h;split at h;.cases h
  rename_i hne;rcases fO.1 hx with he|he;.cases he;exact hne rfl
  exact UW h x he
def DF{l:List (Nat×α)}{x:α}(h:(i,x)∈l):∃y,look l i=aA y:=by
 cases hl:look l i with
 |none=>exact absurd h (UW hl x)
 |some y=>exact⟨y,rfl⟩
def GA(Hc Hout:aS)(id:Nat):vZ ((Hout.map λ x=>(x.1,aA x.2))++(Hc.map λ x=>(x.1,(aC:Option Blk)))) id=
 match look Hout id with|some B=>aA (aA B)|none=>(match look Hc id with|some _=>aA aC|none=>aC):=by
 unfold vZ
 induction Hout with
 |nil=>
  simp only[bV,aZ,look]
  induction Hc with
  |nil=>rfl
  |cons x r ih=>
   simp only[bN,look];by_cases h:x.1=id;.rw[iP h,iP h]
   rw[iN h,iN h];exact ih
 |cons x r ih=>
  simp only[bN,bA,look];by_cases h:x.1=id;.rw[iP h,iP h]
  rw[iN h,iN h];exact ih
def fN(Hc:aS):Nat->Bool:=λ i=>(look Hc i).isSome
variable{vs:List AVal}{r:AVal}
section
variable{P:Program}{Γ:dW}{o:Oper}{ev:Operand->Option AVal}{get:Nat->Option Blk}{k:Nat}
def aBJ{f:Operand}(ho:o.op= .call {callee:= .value f,args:=args,argTypes:=ty})(hg:aX P g=aB)(a:Act)(cs:Array Value)
 (hf:a.eval f= .func (.func g) #[] cs) (w:World):(execOp a.eval o).run P w= .ok (.enter g (args.map a.eval++cs)) w:=by
 unfold aX at hg;split at hg
 .rename_i fn hfn;simp only[aO,bne_iff_ne,ne_eq]at hg;obtain⟨h1,h2⟩:=hg
  have h3:fn.body.isNone=aF:=by cases hb:fn.body with
   |none=>rw[hb]at h1;simp at h1
   |some _=>rfl
  simp only[execOp,ho,resolve,hf,Deferred.ofValue,bS,dO,bJ,invoke,callFunc,run_program,hfn];rw[iN (by simpa using h2)];simp[h3]
 cases hg
def WD
 (hrun:∀w G ρ (A:cF) (a:Act),(∀x,x∈o.op.operands->∀v,ev x=aA v->V w G ρ A v (a.eval x))->∃cargs,(execOp a.eval o).run P w= .ok (.enter g cargs) w/\Vs w G ρ A vs cargs)
 (hb:vs.all (bd (fN Hc))=aB) (hbH:oU (fN Hc) Hc=aB) (hin:∀id B,look Hc id=aA B->get id=aA B)
 (hT:Tr P Γ g k vs Hc (λ k1 r1 H1=>k1=k'/\r1=r/\H1=Hout)) (hk:k<=k'):Good P Γ o ev get k (jY r k' Hc Hout):=by
 refine⟨?_,λ id hid=>?_,hk⟩
 .intro w G ρ H A a hr hA hfr hrd hop next Q hn
  obtain⟨cargs,hrunc,hVs0⟩:=hrun w G ρ A a hop;have hHc:∀id B,look Hc id=aA B->∃A',H id=aA (B,A')/\∀i,A' i->A i:=λ id B hB=>by obtain⟨B',A',h1,h2,h3⟩:=hrd id (by simp only[jY,dM];exact⟨(id,B),HY hB,rfl⟩);rw[hin id B hB]at h1;cases h1;exact⟨A',h2,h3⟩
  let ρc:dH:=λ id=>if fN Hc id=aB then ρ id else aC
  let Ac:cF:=λ i=>A i/\fN Hc i=aB;have hρc:∀id,fN Hc id=aB->ρc id=ρ id:=λ id h=>by simp only[ρc,h,if_true]
  have hρc0:∀id,fN Hc id=aF->ρc id=aC:=λ id h=>by simp only[ρc,h];rfl
  have toC:∀v cv,V w G ρ (λ i=>A i/\fN Hc i=aB) v cv->V w G ρc Ac v cv:=λ v cv h=>
   h.mono (λ _ h=>h) (λ _ _=>rfl) (λ _ _=>rfl) (λ _ h=>h) (λ i hi=> .inr (hρc i hi.2))
  have hsomec:∀id x,ρc id=aA x->ρ id=aA x/\fN Hc id=aB:=λ id x h=>by
   cases hkb:fN Hc id with
   |false=>rw[hρc0 id hkb]at h;cases h
   |true=>rw[hρc id hkb]at h;exact⟨h,rfl⟩
  have hrelc:HRel Γ w G ρc (bK Hc Ac):=by
   refine⟨λ id hid=>?_,λ id B A1 hid=>?_,λ i j b s t hi hj=>hr.inj i j b s t (hsomec _ _ hi).1 (hsomec _ _ hj).1,hr.ro,hr.glob⟩;.simp only[bK,dL]at hid;exact hρc0 id (by simp[fN,hid])
   simp only[bK,aK]at hid;obtain⟨B',hB',he⟩:=hid;cases he;obtain⟨A',h1,h2⟩:=hHc id B hB';obtain⟨h3,b,h4,h5,⟨⟨C,ty',hC,hrows⟩,hlen⟩⟩:=hr.blk id B A' h1;have hkb:fN Hc id=aB:=by simp[fN,hB']
   refine⟨⟨h2 _ h3,hkb⟩,b,by rw[hρc id hkb];exact h4,h5,⟨⟨C,ty',hC,λ r row c v h6 h7=>?_⟩,hlen⟩⟩;obtain⟨cv,h8,h9⟩:=hrows r row c v h6 h7;refine⟨cv,h8,?_⟩;by_cases hp:B.pure=aB;.simp only[hp,if_true]at h9⊢;exact h9
   simp only[hp]at h9⊢
   have h10:=DH hbH hB';simp only[aO,gQ]at h10;have h11:=iR (iR (h10.2.resolve_left hp) h6) h7;have h12:V w G ρ A v cv:=h9.mono (λ _ h=>h) (λ _ _=>rfl) (λ _ _=>rfl) h2 (λ _ _=> .inr rfl);exact toC _ _ (WP h12 h11)
  have hVs:Vs w G ρc Ac vs cargs:=⟨hVs0.1,λ j v hj=>toC _ _ (aEX (hVs0.2 j v hj) (iR hb hj))⟩;have hcall:=hT Ac (λ i hi=>hA i hi.1) w G ρc cargs hrelc hVs;unfold Oper.wp;rw[hrunc];refine hcall.mono λ e w' hp=>?_;obtain⟨cv,G',ρ',k1,r1,H1,rfl,⟨rfl,rfl,rfl⟩,hkk,hrel',hV',hst'⟩:=hp
  have hHout:∀id B,look H1 id=aA B->fN Hc id=aB\/(k<=id/\id<k1):=λ id B hB=>by
   obtain⟨h1,b,h2,_⟩:=hrel'.blk id B (kI Ac k k1) (by simp[bK,hB]);rcases h1 with h1|h1;.exact .inl h1.2
   exact .inr h1
  let ρ'':dH:=λ id=>if fN Hc id=aB\/fN H1 id=aB then ρ' id else ρ id
  have hn1:∀id,fN Hc id=aB->ρ'' id=ρ' id:=λ id h=>by simp only[ρ''];rw[iP (.inl h)]
  have hn2:∀id,fN H1 id=aB->ρ'' id=ρ' id:=λ id h=>by simp only[ρ''];rw[iP (.inr h)]
  have hn3:∀id,fN Hc id=aF->fN H1 id=aF->ρ'' id=ρ id:=λ id h h'=>by simp only[ρ''];rw[iN (by rw[h,h'];simp)]
  have hnew:∀id,k<=id->id<k1->ρ'' id=ρ' id:=λ id h1 h2=>by
   cases hkc:fN Hc id with
   |true=>exact hn1 id hkc
   |false=>
    cases hk1:fN H1 id with
    |true=>exact hn2 id hk1
    |false=>rw[hn3 id hkc hk1,(hfr id h1 h2).1,hrel'.dom id (by simp only[bK];simp only[fN]at hk1;simp at hk1;rw[hk1];rfl)]
  have hkeyA:∀id,fN Hc id=aB->A id:=λ id h=>by obtain⟨B,hB⟩:=fU.1 h;obtain⟨A',h1,h2⟩:=hHc id B hB;exact h2 _ (hr.blk id B A' h1).1
  have hback:∀id,¬(k<=id/\id<k1)->ρ'' id=aC\/ρ'' id=ρ id:=λ id hid=>by
   cases hkc:fN Hc id with
   |true=>
    rw[hn1 id hkc];rcases hst'.ids id (hA id (hkeyA id hkc))with h|h;.exact .inl h
    exact .inr (h.trans (hρc id hkc))
   |false=>
    cases hk1:fN H1 id with
    |true=>
     obtain⟨B,hB⟩:=fU.1 hk1;rcases hHout id B hB with h|h;.rw[hkc]at h;cases h
     exact absurd h hid
    |false=>exact .inr (hn3 id hkc hk1)
  have hown:∀b,mK ρc b->mK ρ b:=λ b ⟨id,s,h⟩=>⟨id,s,(hsomec _ _ h).1⟩
  have hst:Step (λ i=>¬(k<=i/\i<k1)) w G ρ w' G' ρ'':=by
   refine⟨hst'.size,λ b hb ho'=>hst'.keep b hb (λ h=>ho' (hown b h)),hst'.shape,hst'.g,λ b hb=>?_,?_,hback,hst'.os,hst'.tape,hst'.output⟩
   .rcases hst'.g' b hb with h|h|h;.exact .inl h
    .exact .inr (.inl (hown b h))
    exact .inr (.inr h)
   rintro b ⟨id,s,h⟩;simp only[ρ'']at h;split at h
   .rcases hst'.own b ⟨id,s,h⟩with h|h;.exact .inl (hown b h)
    exact .inr h
   exact .inl ⟨id,s,h⟩
  have hVV:∀v cv,V w' G' ρ' (kI Ac k k1) v cv->V w' G' ρ'' (λ i=>A i\/(k<=i/\i<k1)) v cv:=λ v cv h=>
   h.mono (λ _ h=>h) (λ _ _=>rfl) (λ _ _=>rfl) (λ i hi=>hi.imp (λ h=>h.1) id) (λ i hi=>by
    rcases hi with hi|hi;.exact .inr (hn1 i hi.2)
    exact .inr (hnew i hi.1 hi.2))
  refine hn w' G' ρ'' cv ?_ (hVV _ _ hV') hst
  have YM:∀id,jT H (λ i=>A i\/(k<=i/\i<k1)) (jY r1 k1 Hc H1).upd id=match look H1 id with|some B=>aA (B,λ i=>A i\/(k<=i/\i<k1))|none=>(match look Hc id with|some _=>aC|none=>H id):=λ id=>by
   rw[nP];show(match vZ ((H1.map λ x=>(x.1,aA x.2))++(Hc.map λ x=>(x.1,(aC:Option Blk)))) id with|some x=>x.map λ B=>(B,λ i=>A i\/(k<=i/\i<k1))|none=>H id)=_;rw[GA]
   cases look H1 id with
   |some B=>rfl
   |none=>cases look Hc id<;>rfl
  refine hr.after hst _ (λ id hid=>?_) (λ id B A1 hid=>?_) (λ i j b s t hi hj=>?_) hrel'.ro
  .have hid':jT H (λ i=>A i\/(k<=i/\i<k1)) (jY r1 k1 Hc H1).upd id=aC:=hid;rw[YM]at hid'
   cases h1:look H1 id with
   |some B=>rw[h1]at hid';cases hid'
   |none=>
    rw[h1]at hid'
    cases h2:look Hc id with
    |some B=>rw[hn1 id (by simp[fN,h2])];exact hrel'.dom id (by simp[bK,h1])
    |none=>rw[h2]at hid';rw[hn3 id (by simp[fN,h2]) (by simp[fN,h1])];exact hr.dom id hid'
  .have hid':jT H (λ i=>A i\/(k<=i/\i<k1)) (jY r1 k1 Hc H1).upd id=aA (B,A1):=hid;rw[YM]at hid'
   cases h1:look H1 id with
   |some B'=>
    rw[h1]at hid';cases hid';obtain⟨h2,b,h3,h4,⟨⟨C,ty',hC,hrows⟩,hlen⟩⟩:=hrel'.blk id B (kI Ac k k1) (by simp[bK,h1]);refine⟨h2.imp (λ h=>h.1) (λ h=>h),.inr ⟨b,by rw[hn2 id (by simp[fN,h1])];exact h3,h4,⟨⟨C,ty',hC,λ r row c v h6 h7=>?_⟩,hlen⟩⟩⟩;obtain⟨cv',h8,h9⟩:=hrows r row c v h6 h7;refine⟨cv',h8,?_⟩;by_cases hp:B.pure=aB;.simp only[hp,if_true]at h9⊢;exact h9
    simp only[hp]at h9⊢;exact hVV _ _ h9
   |none=>
    rw[h1]at hid'
    cases h2:look Hc id with
    |some B'=>rw[h2]at hid';cases hid'
    |none=>
     rw[h2]at hid';obtain⟨h3,b,h4,h5,_⟩:=hr.blk id B A1 hid';have hnc:¬mK ρc b:=λ⟨i',s',h⟩=>by obtain⟨h6,h7⟩:=hsomec _ _ h;have:=hr.inj i' id _ _ _ h6 h4;subst this;simp[fN,h2]at h7
     have hbl:=hr.owned_lt ⟨id,_,h4⟩;refine⟨h3,.inl ⟨A1,b,hid',λ _ h=>h,λ i hi hc=>(hfr i hc.1 hc.2).2 id B A1 hid' hi,by rw[hn3 id (by simp[fN,h2]) (by simp[fN,h1])],h4,hst'.keep b hbl hnc,λ hg'=>?_⟩⟩;rcases hst'.g' b hg' with h|h|h;.exact h5 h
     .exact hnc h
     omega
  have side:∀i s,ρ'' i=aA (b,s)->(ρ' i=aA (b,s)/\(fN Hc i=aB\/fN H1 i=aB))\/(ρ i=aA (b,s)/\fN Hc i=aF):=λ i s h=>by
   simp only[ρ'']at h;split at h;.rename_i hc;exact .inl ⟨h,hc⟩
   rename_i hc;exact .inr ⟨h,by cases hkc:fN Hc i with|true=>exact absurd (.inl hkc) hc|false=>rfl⟩
  have cross:∀i j s t,ρ' i=aA (b,s)->ρ j=aA (b,t)->fN Hc j=aF->False:=λ i j s t h1 h2 h3=>by
   rcases hst'.own b ⟨i,s,h1⟩with⟨i',s',h⟩|h;.obtain⟨h4,h5⟩:=hsomec _ _ h;have:=hr.inj i' j _ _ _ h4 h2;subst this;rw[h3]at h5;cases h5
   have:=hr.owned_lt ⟨j,t,h2⟩;omega
  rcases side i s hi with⟨h1,_⟩|⟨h1,h1'⟩<;>rcases side j t hj with⟨h2,_⟩|⟨h2,h2'⟩;.exact hrel'.inj i j b s t h1 h2
  .exact(cross i j s t h1 h2 h2').elim
  .exact(cross j i t s h2 h1 h1').elim
  exact hr.inj i j b s t h1 h2
 simp only[jY,dM]at hid;obtain⟨x,hx,rfl⟩:=hid;obtain⟨y,hy⟩:=DF hx;rw[hin _ y hy];rfl
def ZS(ha:qH ev args.toList=aA vs)(hop:∀x,x∈args->∀v,ev x=aA v->V w G ρ A v (a.eval x)):
 Vs w G ρ A vs (args.map a.eval):=by
 obtain⟨hal,haev⟩:=DP ha;refine⟨by simp[hal],λ j v hj=>?_⟩;have hlt:=(aL.1 hj).1;have hltA:j<args.size:=by rw[hal]at hlt;simpa using hlt
 have hx:args[j]? =aA args[j]:=aW hltA;have h2:=hop args[j] (by simp) v (haev j args[j] v (by rw[bH];exact hx) hj);have e:(args.map a.eval).getD j undef=a.eval args[j]:=by rw[aM,Array.getElem?_map,hx];rfl
 rw[e];exact h2
def WO{us:List AVal}{ds:Array Value}(h:Vs w G ρ A us cs)(g:Vs w G ρ A vs ds):Vs w G ρ A (us++vs) (cs++ds):=by
 refine⟨by simp[h.1,g.1],λ j v hj=>?_⟩;rw[dQ]at hj;split at hj
 .rename_i hlt;have e:(cs++ds).getD j undef=cs.getD j undef:=by rw[aM,aM,fH (by rw[<-h.1];exact hlt)]
  rw[e];exact h.2 j v hj
 rename_i hge;have hs:=h.1;have e:(cs++ds).getD j undef=ds.getD (j-us.length) undef:=by rw[aM,aM,xM oO,hs]
 rw[e];exact g.2 _ v hj
def OL{f:Operand}{caps:List AVal}
 (ho:o.op= .call {callee:= .value f,args:=args,argTypes:=ty}) (hg:aX P g=aB) (hf:ev f=aA (.fn g caps)) (ha:qH ev args.toList=aA vs)
 (hb:(vs++caps).all (bd (fN Hc))=aB) (hbH:oU (fN Hc) Hc=aB) (hin:∀id B,look Hc id=aA B->get id=aA B)
 (hT:Tr P Γ g k (vs++caps) Hc (λ k1 r1 H1=>k1=k'/\r1=r/\H1=Hout)) (hk:k<=k'):Good P Γ o ev get k (jY r k' Hc Hout):=
 WD (λ w G ρ A a hop=>by
  have hvf:=hop f pC _ hf;generalize hev:a.eval f=cv at hvf
  cases hvf with
  |fn h1 h2=>exact⟨_,aBJ ho hg a _ hev w,WO (ZS ha λ x hx v hv=>hop x (by simp[ho,Op.operands,Call.operands,hx]) v hv) ⟨h1,h2⟩⟩) hb hbH hin hT hk
def aED{f:Operand}{r0 c0:Nat}
 (ho:o.op= .call {callee:= .value f,args:=args,argTypes:=ty}) (hg:aX P g=aB) (hf:ev f=aA (.bfn g i r0 c0)) (ha:qH ev args.toList=aA vs)
 (hb:(.ptr i r0 c0::vs).all (bd (fN Hc))=aB) (hbH:oU (fN Hc) Hc=aB) (hin:∀id B,look Hc id=aA B->get id=aA B)
 (hT:Tr P Γ g k (.ptr i r0 c0::vs) Hc (λ k1 r1 H1=>k1=k'/\r1=r/\H1=Hout)) (hk:k<=k'):Good P Γ o ev get k (jY r k' Hc Hout):=
 WD (λ w G ρ A a hop=>by
  have hvf:=hop f pC _ hf;generalize hev:a.eval f=cv at hvf
  cases hvf with
  |bfn h1=>
   rename_i c1;refine⟨#[c1]++args.map a.eval,?_,WO (us:=[.ptr i r0 c0]) (cs:= #[c1]) ⟨rfl,λ j v hj=>?_⟩ (ZS ha λ x hx v hv=>hop x (by simp[ho,Op.operands,Call.operands,hx]) v hv)⟩
   .unfold aX at hg;split at hg
    .rename_i fn hfn;simp only[aO,bne_iff_ne,ne_eq]at hg;obtain⟨h3,h4⟩:=hg
     have h5:fn.body.isNone=aF:=by cases hb:fn.body with
      |none=>rw[hb]at h3;simp at h3
      |some _=>rfl
     simp only[execOp,ho,resolve,hev,Deferred.ofValue,bS,dO,bJ,invoke,callFunc,run_program,hfn];rw[iN (by simpa using h4)];simp[h5]
    cases hg
   cases j with
   |zero=>cases hj;exact h1
   |succ j=>simp at hj) hb hbH hin hT hk
def a2Y(P:Program)(fr:Fr)(H:aS):ResultVar->Option AVal
 | .tmp t=>look fr t
 | .cell a t=>match look fr a,kK P t,pG P t with
   |some (.ptr id r c),aA ag,aA n=>(look H id).bind λ B=>if r=0/\c=0/\B.sz<n then iX ag n B.rows.flatten 0 else(B.rows[r]?).bind λ row=>iX ag n row c
   |_,_,_=>aC
def UH(P:Program)(fr:Fr)(H:aS):List ResultVar->Option (List AVal)
 |[]=>aA []
 | x::r=>match a2Y P fr H x,UH P fr H r with
   |some v,aA vs=>aA (v::vs)
   |_,_=>aC
def MS(P:Program)(fn:Func)(fr:Fr)(H:aS):Option AVal:=
 match UH P fr H fn.results.toList with
 |some [v]=>aA v
 |some vs=>aA (.tup vs)
 |none=>aC
def AG(P:Program)(fn:Func)(Q:Nat->AVal->aS->Prop):AQ
 | .normal,k,fr,H=>∃r,MS P fn fr H=aA r/\Q k r H
 | .ret,k,fr,H=>∃r,MS P fn fr H=aA r/\Q k r H
 |_,_,_,_=>False
def NN(tmps:Array Value):ResultVar->Sem Value
 | .tmp t=>pure (tmps.getD t undef)
 | .cell a t=>do loadVar t (←asAddr (tmps.getD a undef))
def aUK(hi:Inv Γ nt w G ρ A a fr H){x:ResultVar}(h:a2Y P fr H x=aA v):
 ∃cv,(NN a.tmps x).run P w= .ok cv w/\V w G ρ A v cv:=by
 cases x with
 |tmp t=>exact⟨_,rfl,hi.frm t v h⟩
 |cell ad t=>
  simp only[a2Y]at h;split at h
  .rename_i id r c ag n h1 h2 h3;obtain⟨B,hB,h4⟩:=cJ.1 h;have hv:=hi.frm ad _ h1;obtain⟨_,b,hb,_,hBR⟩:=hi.rel.blk id B A (by simp[bK,hB]);generalize hev:a.tmps.getD ad undef=cv at hv;split at h4
   .rename_i hc0;obtain⟨rfl,rfl,_⟩:=hc0
    cases hv with
    |dang _ hn=>rw[hb]at hn;cases hn
    |ptr ha hρ hsh=>
     rw[hb]at hρ;cases hρ;obtain⟨⟨C,ty,hC,hrows⟩,hlen⟩:=hBR.old hsh;have hcell:∀(j:Nat) u,B.rows.flatten[j]? =aA u->w.cell? ⟨b,0*B.sz+j,aC⟩=aA (C.getD (0*B.sz+j) undef):=λ j u hj=>by obtain⟨r,row,c,h3,h4,rfl⟩:=DM hlen j u hj;obtain⟨cv,h5,_⟩:=hrows r row c u h3 h4;rw[rT,eQ,cell_of_row w b _ C ty (0,0) hC,h5,aM,h5];rfl
     have hval:∀(j:Nat) u,B.rows.flatten[j]? =aA u->V w G ρ A u (C.getD (0*B.sz+j) undef):=λ j u hj=>by
      obtain⟨r,row,c,h3,h4,rfl⟩:=DM hlen j u hj;obtain⟨cv,h5,h6⟩:=hrows r row c u h3 h4;rw[rT,eQ,aM,h5];by_cases hp:B.pure=aB;.simp only[hp,if_true]at h6;exact h6.weaken
      simp only[hp]at h6;exact h6
     obtain⟨cv,hrun,hV⟩:=yW (P:=P) h2 h3 h4 (λ j=>C.getD (0*B.sz+j) undef) hcell hval;refine⟨cv,?_,hV⟩;simp only[Instr.loadAt,Instr.sureAddr,bS,dO,bJ]at hrun;show Sem.run P (do loadVar t (←asAddr (a.tmps.getD ad undef))) w=_;rw[hev];simpa [asAddr]using hrun
   obtain⟨row,hrow,h5⟩:=cJ.1 h4
   cases hv with
   |dang _ hn=>rw[hb]at hn;cases hn
   |ptr ha hρ hsh=>
    rw[hb]at hρ;cases hρ;obtain⟨⟨C,ty,hC,hrows⟩,hlen⟩:=hBR.old hsh;have hcell:∀j u,row[j]? =aA u->w.cell? ⟨b,r*B.sz+j,aC⟩=aA (C.getD (r*B.sz+j) undef):=λ j u hj=>by obtain⟨cv,h3,_⟩:=hrows r row j u hrow hj;rw[cell_of_row w b _ C ty (0,0) hC,h3,aM,h3];rfl
    have hval:∀j u,row[j]? =aA u->V w G ρ A u (C.getD (r*B.sz+j) undef):=λ j u hj=>by
     obtain⟨cv,h3,h4⟩:=hrows r row j u hrow hj;rw[aM,h3];by_cases hp:B.pure=aB;.simp only[hp,if_true]at h4;exact h4.weaken
     simp only[hp]at h4;exact h4
    obtain⟨cv,hrun,hV⟩:=yW (P:=P) h2 h3 h5 (λ j=>C.getD (r*B.sz+j) undef) hcell hval;refine⟨cv,?_,hV⟩;simp only[Instr.loadAt,Instr.sureAddr,bS,dO,bJ]at hrun;show Sem.run P (do loadVar t (←asAddr (a.tmps.getD ad undef))) w=_;rw[hev];simp[asAddr,hrun]
  cases h
def UG{A:cF}{nt:Nat}{fr:Fr}{H:aS}{w:World}{G:Nat->Prop}{ρ:dH}{a:Act}(hi:Inv Γ nt w G ρ A a fr H):∀ {xs:List ResultVar} {vs:List AVal},UH P fr H xs=aA vs→
 ∃ cs:List Value,(xs.mapM (NN a.tmps)).run P w= .ok cs w/\vs.length=cs.length∧
   ∀(j:Nat) v c,vs[j]? =aA v->cs[j]? =aA c->V w G ρ A v c
 |[],vs,h=>by cases h;exact⟨[],rfl,rfl,λ j v c hv=>by simp at hv⟩
 |x::r,vs,h=>by
  simp only[UH]at h;split at h
  .rename_i v vs' h1 h2;cases h;obtain⟨cv,h3,h4⟩:=aUK hi h1;obtain⟨cs,h5,h6,h7⟩:=UG hi h2;refine⟨cv::cs,?_,by simp[h6],λ j u c hu hc=>?_⟩;.rw[List.mapM_cons,bS,h3,bJ,bS,h5];rfl
   cases j with
   |zero=>cases hu;cases hc;exact h4
   |succ j=>exact h7 j u c (by simpa using hu) (by simpa using hc)
  cases h
def aUL(hi:Inv Γ nt w G ρ A a fr H)(h:MS P fn fr H=aA r):
 ∃cv,(results fn a.tmps).run P w= .ok cv w/\V w G ρ A r cv:=by
 unfold MS at h
 cases hvs:UH P fr H fn.results.toList with
 |none=>rw[hvs]at h;cases h
 |some vs=>
  obtain⟨cs,h1,h2,h3⟩:=UG hi hvs;have hmap:(fn.results.mapM (NN a.tmps)).run P w= .ok cs.toArray w:=by rw[Array.mapM_eq_mapM_toList,Sem.run_map,h1];rfl
  have hres:(results fn a.tmps).run P w= .ok (if h:cs.toArray.size=1 then cs.toArray[0]else .tuple cs.toArray) w:=by show Sem.run P (do let vs ←fn.results.mapM (NN a.tmps);pure (if h:vs.size=1 then vs[0]else .tuple vs)) w=_;rw[bS,hmap];rfl
  refine⟨_,hres,?_⟩;rw[hvs]at h
  match vs,h,h2,h3 with
  | [v],h,h2,h3=>
    cases h
    match cs,h2,h3 with
    |[c],_,h3=>exact h3 0 _ c rfl rfl
  | [],h,h2,h3=>
    cases h
    match cs,h2 with
    |[],_=>exact .tup rfl (λ j v hj=>by simp at hj)
  | v1::v2::vr,h,h2,h3=>
    cases h
    match cs,h2,h3 with
    | c1::c2::cr,h2,h3=>
      rw[dif_neg (by simp)]
      refine .tup (by simpa using h2) λ j v hj=>?_
      have hlt:=(aL.1 hj).1
      have hlt':j<(c1::c2::cr).length:=oO
      have e:(c1::c2::cr).toArray.getD j undef=(c1::c2::cr)[j]:=by rw[aM,cH,aN hlt'];rfl
      rw[e]
      exact h3 j v _ hj (aN hlt')
def OO{f:FuncId}{c:Code}{args:List AVal}(hf:P.funcs[f]? =aA fn)(hb:fn.body=aA c)(hn:args.length<=fn.ntmps)
 (h:W P Γ fn.ntmps k c (AG P fn Q) k (tU 0 args) H):Tr P Γ f k args H Q:=by
 intro A hA w G ρ cargs hrel hargs
 have hi:Inv Γ fn.ntmps w G ρ (kI A k k) {tmps:=cargs++xL (fn.ntmps-cargs.size) undef,defers:=[]} (tU 0 args) H:=by
  have hAk:A=kI A k k:=funext λ i=>by simp only[kI,eq_iff_iff];constructor;· exact .inl
                                      · rintro(h|h);· exact h
                                        · omega
  rw[<-hAk];refine⟨hrel,by simp[<-hargs.1];omega,rfl,λ t v hv=>?_⟩;obtain⟨_,h2⟩:=RZ args 0 t v hv;simp only[vN]at h2;have hlt:=(aL.1 h2).1;have:=hargs.2 t v h2;have e:(cargs++xL (fn.ntmps-cargs.size) undef).getD t undef=cargs.getD t undef:=by rw[aM,aM,fH (by rw[<-hargs.1];exact hlt)]
  rw[e];exact this
 refine calls_of_wp hf hb (wp_mono (h A hA (aJ _) w G ρ _ hi) λ e a' w' hp=>?_);obtain⟨G',ρ',k',fr',H',hQ,hk',hi',hst⟩:=hp;have fin:(∃r,MS P fn fr' H'=aA r/\Q k' r H')->a'.defers=[]/\∃v,(results fn a'.tmps).run P w'= .ok v w'/\∃cv G' ρ' k' r H',Ending.returned v= .returned cv/\Q k' r H'/\k<=k'/\HRel Γ w' G' ρ' (bK H' (kI A k k'))/\V w' G' ρ' (kI A k k') r cv/\Step (lX k) w G ρ w' G' ρ':=by rintro⟨r,hr,hq⟩;obtain⟨cv,h1,h2⟩:=aUL (P:=P) (fn:=fn) hi' hr;exact⟨hi'.defers,cv,h1,cv,G',ρ',k',r,H',rfl,hq,hk',hi'.rel,h2,hst⟩
 cases e with
 |normal=>exact fin hQ
 |ret=>exact fin hQ
 |exit id=>exact hQ.elim
 |goto l=>exact hQ.elim
 |panic ch=>exact hQ.elim
 |outgrown=>exact hQ.elim
end
end Go.AM
end
