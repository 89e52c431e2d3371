import Derived.Calls
import Derived.Orders
import Derived.Laws.AppendOwn
import Derived.Laws.Rows
import Derived.Deep.LoopGhost
import Derived.Deep.MidRow
import Derived.Laws.Slices
import Derived.Laws.MakeOwn
import Derived.Laws.CopyRow
set_option linter.unusedVariables false
set_option linter.unusedSimpArgs false
set_option maxHeartbeats 0
set_option maxRecDepth 100000
theorem Go.sS {p : Prop} (h : p := by simp) : p := h
theorem Go.dTt {p : Prop} [Decidable p] : (decide p = true) = p := decide_eq_true_eq
theorem Go.dFn {p : Prop} [Decidable p] : decide p = false ↔ ¬p := decide_eq_false_iff_not
theorem Go.oO {p : Prop} (h : p := by omega) : p := h
theorem Go.bB {a b : Nat} (h : Nat.ble a b = true := by exact rfl) : a ≤ b := Nat.le_of_ble_eq_true h
open Array renaming eq_empty_of_size_eq_zero->lC,ext->aFB,getD_eq_getD_getElem?->aD,getElem?_eq_getElem->aP,getElem?_eq_none->gH,getElem?_eq_some_iff->cZ,getElem?_setIfInBounds_ne->kR,getElem?_setIfInBounds_self_of_lt->qV,getElem?_toList->bA,length_toList->vM,mem_of_getElem?->bGD
open Bool renaming and_eq_true->aC,and_false->qP,and_self->a0W,false_and->kD,false_eq_true->aO,or_eq_true->bH
open List renaming all_cons->hY,all_eq_true->aW,append_assoc->bL,ext_getElem?->kP,getD_eq_getElem?_getD->bD,getElem?_append->kY,getElem?_append_left->fU,getElem?_append_right->gQ,getElem?_cons_succ->eW,getElem?_cons_zero->iX,getElem?_drop->hU,getElem?_eq_getElem->aE,getElem?_eq_none->cI,getElem?_eq_some_iff->aG,getElem?_map->aQ,getElem?_of_mem->aAC,getElem?_range->aML,getElem?_replicate->a0T,getElem?_set->fY,getElem?_take->lB,getElem?_toArray->cH,getElem_mem->bKH,length_map->bP,map->jL,map_append->aH,map_cons->bG,map_map->jD,map_nil->aV,mem_map->cL,mem_of_getElem?->jC,range->aM,range_succ->CI,replicate->eI
open Nat renaming add_assoc->fS,add_comm->bFX,add_mul->cX,add_sub_cancel->rN,add_sub_cancel_left->iW,add_zero->jX,div_lt_of_lt_mul->ZZ,le_refl->aF,le_trans->DS,lt_irrefl->tC,lt_of_lt_of_le->oE,lt_succ_self->dC,mod_eq_of_lt->HR,mul_comm->jW,mul_le_mul_right->dE,mul_one->bAM,sub_self->PG,sub_zero->bFW,zero_add->dV,zero_mul->tM
open Option renaming bind_eq_some_iff->bX,map_eq_none_iff->dG,map_eq_some_iff->aB,map_some->cB,some->mB
open Go.Result renaming andThen_ok->bI
open Go.Sem renaming run_bind->bO,run_pure->dP
open Go.Value renaming int->bC
section
namespace Go.AM
inductive AVal where
 |junk
 |lit (v:Value)
 |ptr (id row col:Nat)
 |sl (id row len:Nat)
 |rp (cells:List AVal)
 |rd (sz n:Nat) (f:Nat->List AVal)
 |agg (cells:List AVal)
 |tup (vs:List AVal)
 |fn (f:FuncId) (caps:List AVal)
 |nn
 |slc (id row len cap:Nat)
 |bfn (f:FuncId) (id row col:Nat)
 |mp (id:Nat)
 |it (id:Nat)
instance:Inhabited AVal:=⟨.junk⟩
structure Blk where
 sz:Nat
 pure:Bool
 rows:List (List AVal)
abbrev aS:=List (Nat×Blk)
abbrev Fr:=List (Nat×AVal)
def look{α:Type}:List (Nat×α)->Nat->Option α
 |[],_=>none
 |(a,x)::r,k=>if a=k then some x else look r k
abbrev cM:=Nat->Option (Nat×Nat)
abbrev bU:=Nat->Prop
def bR:cM:=λ _=>none
def cF:bU:=λ _=>False
def BA(w:World)(b:Nat):Option (Option (TypeId×Nat)):=(w.heap[b]?).map λ o=>match o with
 | .cells c e _=>some (e,c.size)
 |_=>none
theorem AZ{w:World}{b:Nat}:w.shape? b=(BA w b).bind id:=by
 unfold World.shape? BA
 cases w.heap[b]? with
 |none=>rfl
 |some o=>cases o<;>rfl
theorem aOC{w:World}{b:Nat}{x:Option (TypeId×Nat)}(h:BA w b=some x):b<w.heap.size:=by
 unfold BA at h;by_cases hb:b<w.heap.size;.exact hb
 rw[gH oO]at h;cases h
theorem shp_of{w w':World}{b b':Nat}(h:w'.heap[b']? =w.heap[b]?):BA w' b'=BA w b:=by unfold BA;rw[h]
inductive V (w:World) (G:Nat->Prop):cM->bU->AVal->Value->Prop
 |junk {ρ A cv}:V w G ρ A .junk cv
 |lit {ρ A v}:V w G ρ A (.lit v) v
 |dang {ρ A id r c x}:A id->ρ id=none->V w G ρ A (.ptr id r c) (.pointer x)
 |dangs {ρ A id r n x m c}:A id->ρ id=none->V w G ρ A (.sl id r n) (.slice x m c)
 |ptr {ρ A id r c b s ty m}:A id->ρ id=some (b,s)->w.shape? b=some (ty,m)->V w G ρ A (.ptr id r c) (.pointer (some ⟨b,r*s+c,none⟩))
 |sl {ρ A id r n b s ty m cap off}:A id->ρ id=some (b,s)->w.shape? b=some (ty,m)->(r+cap)*s<=m->n<=cap->cap<=maxLen->(cap=0\/off=r*s)→
    V w G ρ A (.sl id r n) (.slice (some ⟨b,off,none⟩) n cap)
 |sl0 {ρ A id r b s}:A id->ρ id=some (b,s)->V w G ρ A (.sl id r 0) (.slice none 0 0)
 |rp {ρ A cells b o} (g:Nat->Value):G b->(∀j v,cells[j]? =some v->w.cell? ⟨b,o+j,none⟩=some (g j))->(∀j v,cells[j]? =some v->V w G bR cF v (g j))→
    V w G ρ A (.rp cells) (.pointer (some ⟨b,o,none⟩))
 |rd0 {ρ A sz f a cap}:V w G ρ A (.rd sz 0 f) (.slice a 0 cap)
 |rd {ρ A sz n f b o cap} (g:Nat->Nat->Value):G b->n<=cap->n<=maxLen->(∀i,i<n->(f i).length=sz)->(∀i j v,i<n->(f i)[j]? =some v->w.cell? ⟨b,o+i*sz+j,none⟩=some (g i j))→
    (∀i j v,i<n->(f i)[j]? =some v->V w G bR cF v (g i j))->V w G ρ A (.rd sz n f) (.slice (some ⟨b,o,none⟩) n cap)
 |agg {ρ A cells cs}:cells.length=cs.size->(∀j v,cells[j]? =some v->V w G ρ A v (cs.getD j undef))->V w G ρ A (.agg cells) (.agg cs)
 |tup {ρ A vs cs}:vs.length=cs.size->(∀j v,vs[j]? =some v->V w G ρ A v (cs.getD j undef))->V w G ρ A (.tup vs) (.tuple cs)
 |fn {ρ A f caps cs}:caps.length=cs.size->(∀j v,caps[j]? =some v->V w G ρ A v (cs.getD j undef))->V w G ρ A (.fn f caps) (.func (.func f) #[] cs)
 |nn {ρ A t v}:V w G ρ A .nn (.iface t v)
 |dangc {ρ A id r n q x m c}:A id->ρ id=none->V w G ρ A (.slc id r n q) (.slice x m c)
 |slc {ρ A id r n b s ty m cap off}:A id->ρ id=some (b,s)->w.shape? b=some (ty,m)->(r+cap)*s<=m->n<=cap->cap<=maxLen->(cap=0\/off=r*s)→
    V w G ρ A (.slc id r n cap) (.slice (some ⟨b,off,none⟩) n cap)
 |bfn {ρ A f id r c cv}:V w G ρ A (.ptr id r c) cv->V w G ρ A (.bfn f id r c) (.func (.func f) #[cv] #[])
 |dangm {ρ A id x}:A id->ρ id=none->V w G ρ A (.mp id) (.map x)
 |mp {ρ A id b s}:A id->ρ id=some (b,s)->BA w b=some none->V w G ρ A (.mp id) (.map (some b))
 |dangi {ρ A id x}:A id->ρ id=none->V w G ρ A (.it id) (.pointer x)
 |it {ρ A id b s}:A id->ρ id=some (b,s)->BA w b=some none->V w G ρ A (.it id) (.pointer (some ⟨b,0,none⟩))
def oI(ρ:cM)(b:Nat):Prop:=∃id s,ρ id=some (b,s)
structure Step (A:bU) (w:World) (G:Nat->Prop) (ρ:cM) (w':World) (G':Nat->Prop) (ρ':cM):Prop where
 size:w.heap.size<=w'.heap.size
 keep:∀b,b<w.heap.size->¬oI ρ b->w'.heap[b]? =w.heap[b]?
 shape:∀b,b<w.heap.size->BA w' b=BA w b
 g:∀b,G b->G' b
 g':∀b,G' b->G b\/oI ρ b\/w.heap.size<=b
 own:∀b,oI ρ' b->oI ρ b\/w.heap.size<=b
 ids:∀id,A id->ρ' id=none\/ρ' id=ρ id
 os:w'.os=w.os
 tape:w'.tape=w.tape
 output:w'.output=w.output
theorem jT (A:bU)(w:World)(G:Nat->Prop)(ρ:cM):Step A w G ρ w G ρ:=
 ⟨aF _,λ _ _ _=>rfl,λ _ _=>rfl,λ _ h=>h,λ _ h=> .inl h,λ _ h=> .inl h,λ _ _=> .inr rfl,rfl,rfl,rfl⟩
theorem Step.trans {A A':bU}{w w1 w2:World}{G G1 G2:Nat->Prop}{ρ ρ1 ρ2:cM}(h:Step A w G ρ w1 G1 ρ1)(k:Step A' w1 G1 ρ1 w2 G2 ρ2)(hA:∀i,A i->A' i):
 Step A w G ρ w2 G2 ρ2 where
 size:=DS h.size k.size
 keep:=λ b hb ho=>by rw[k.keep b (oE hb h.size) (λ ho1=>(h.own b ho1).elim ho (λ hc=>absurd hb (Nat.not_lt.2 hc)))];exact h.keep b hb ho
 shape:=λ b hb=>by rw[k.shape b (oE hb h.size),h.shape b hb]
 g:=λ b hb=>k.g b (h.g b hb)
 g':=λ b hb=>by
  rcases k.g' b hb with h1|h1|h1;.exact h.g' b h1
  .exact .inr (h.own b h1)
  exact .inr (.inr (DS h.size h1))
 own:=λ b hb=>by
  rcases k.own b hb with h1|h1;.exact h.own b h1
  exact .inr (DS h.size h1)
 ids:=λ id ha=>by
  rcases k.ids id (hA id ha)with h1|h1;.exact .inl h1
  rcases h.ids id ha with h2|h2;.exact .inl (h1.trans h2)
  exact .inr (h1.trans h2)
 os:=k.os.trans h.os
 tape:=k.tape.trans h.tape
 output:=k.output.trans h.output
theorem aOD{w:World}{b:Nat}{x:TypeId×Nat}(h:w.shape? b=some x):b<w.heap.size:=by
 unfold World.shape? at h;by_cases hb:b<w.heap.size;.exact hb
 rw[gH oO]at h;simp at h
theorem NL{w w':World}{b o:Nat}(h:w'.heap[b]? =w.heap[b]?):w'.cell? ⟨b,o,none⟩=w.cell? ⟨b,o,none⟩:=World.cell?_of_block (w:=w) h
theorem CQ{w w':World}(hs:∀b,b<w.heap.size->BA w' b=BA w b){b:Nat}{x:TypeId×Nat}(h:w.shape? b=some x):w'.shape? b=some x:=by rw[AZ,hs b (aOD h),<-AZ];exact h
theorem V.mono {w w':World}{G G':Nat->Prop}(hG:∀b,G b->G' b)(hk:∀b,G b->w'.heap[b]? =w.heap[b]?)(hs:∀b,b<w.heap.size->BA w' b=BA w b)
 {ρ:cM} {A:bU} {v:AVal} {cv:Value} (h:V w G ρ A v cv):∀ {ρ':cM} {A':bU},(∀id,A id->A' id)->(∀id,A id->ρ' id=none\/ρ' id=ρ id)->V w' G' ρ' A' v cv:=by
 induction h with
 |nn=>intros;exact .nn
 |dangc ha hr=>
  intro ρ' A' hA hρ;rcases hρ _ ha with h1|h1;.exact .dangc (hA _ ha) h1
  exact .dangc (hA _ ha) (h1.trans hr)
 |slc ha hr hsh h1 h2 h3 h4=>
  intro ρ' A' hA hρ;rcases hρ _ ha with h5|h5;.exact .dangc (hA _ ha) h5
  exact .slc (hA _ ha) (h5.trans hr) (CQ hs hsh) h1 h2 h3 h4
 |bfn h ih=>intro ρ' A' hA hρ;exact .bfn (ih hA hρ)
 |junk=>intros;exact .junk
 |lit=>intros;exact .lit
 |dang ha hr=>
  intro ρ' A' hA hρ;rcases hρ _ ha with h1|h1;.exact .dang (hA _ ha) h1
  exact .dang (hA _ ha) (h1.trans hr)
 |dangs ha hr=>
  intro ρ' A' hA hρ;rcases hρ _ ha with h1|h1;.exact .dangs (hA _ ha) h1
  exact .dangs (hA _ ha) (h1.trans hr)
 |ptr ha hr hsh=>
  intro ρ' A' hA hρ;rcases hρ _ ha with h1|h1;.exact .dang (hA _ ha) h1
  exact .ptr (hA _ ha) (h1.trans hr) (CQ hs hsh)
 |dangm ha hr=>
  intro ρ' A' hA hρ;rcases hρ _ ha with h1|h1;.exact .dangm (hA _ ha) h1
  exact .dangm (hA _ ha) (h1.trans hr)
 |mp ha hr hsh=>
  intro ρ' A' hA hρ;rcases hρ _ ha with h1|h1;.exact .dangm (hA _ ha) h1
  exact .mp (hA _ ha) (h1.trans hr) ((hs _ (aOC hsh)).trans hsh)
 |dangi ha hr=>
  intro ρ' A' hA hρ;rcases hρ _ ha with h1|h1;.exact .dangi (hA _ ha) h1
  exact .dangi (hA _ ha) (h1.trans hr)
 |it ha hr hsh=>
  intro ρ' A' hA hρ;rcases hρ _ ha with h1|h1;.exact .dangi (hA _ ha) h1
  exact .it (hA _ ha) (h1.trans hr) ((hs _ (aOC hsh)).trans hsh)
 |sl ha hr hsh h1 h2 h3 h4=>
  intro ρ' A' hA hρ;rcases hρ _ ha with h5|h5;.exact .dangs (hA _ ha) h5
  exact .sl (hA _ ha) (h5.trans hr) (CQ hs hsh) h1 h2 h3 h4
 |sl0 ha hr=>
  intro ρ' A' hA hρ;rcases hρ _ ha with h1|h1;.exact .dangs (hA _ ha) h1
  exact .sl0 (hA _ ha) (h1.trans hr)
 |rp g hb hc hv ih=>intro ρ' A' hA hρ;exact .rp g (hG _ hb) (λ j v hj=>(NL (hk _ hb)).trans (hc j v hj)) (λ j v hj=>ih j v hj (λ _ hf=>hf.elim) (λ _ hf=>hf.elim))
 |rd0=>intros;exact .rd0
 |rd g hb hcap hn hl hc hv ih=>intro ρ' A' hA hρ;exact .rd g (hG _ hb) hcap hn hl (λ i j v hi hj=>(NL (hk _ hb)).trans (hc i j v hi hj)) (λ i j v hi hj=>ih i j v hi hj (λ _ hf=>hf.elim) (λ _ hf=>hf.elim))
 |agg hl hv ih=>intro ρ' A' hA hρ;exact .agg hl λ j v hj=>ih j v hj hA hρ
 |tup hl hv ih=>intro ρ' A' hA hρ;exact .tup hl λ j v hj=>ih j v hj hA hρ
 |fn hl hv ih=>intro ρ' A' hA hρ;exact .fn hl λ j v hj=>ih j v hj hA hρ
def XO(es:List MapEntry)(clock:Nat):List Value:= .int .i64 clock:: .int .i64 es.length:: .int .i64 1::es.flatMap λ e=>[e.key,e.val,.int .i64 e.born]
def EM(m:Option Nat)(since:Nat)(seen:Array Nat)(c0:Nat):List Value:= .int .i64 c0:: .int .i64 seen.size:: .int .i64 2:: .map m:: .int .i64 since:: .int .i64 0::seen.toList.flatMap λ(x:Nat)=>[bC .i64 (x:Int),.int .i64 0,.int .i64 0]
inductive ObjC:Obj->Array Value->Prop
 |cells {C ty}:ObjC (.cells C ty (0,0)) C
 |map {es clock}:ObjC (.map es clock) (XO es.toList clock).toArray
 |iter {m since seen c0}:ObjC (.mapIter m since seen c0) (EM m since seen c0).toArray
theorem ObjC.shaped {w:World}{b:Nat}{o:Obj}{C:Array Value}{x:TypeId×Nat}(h:ObjC o C)(ho:w.heap[b]? =some o)(hs:w.shape? b=some x):o= .cells C x.1 (0,0):=by
 cases h with
 |cells=>simp only[World.shape?,ho]at hs;cases hs;rfl
 |map=>simp[World.shape?,ho]at hs
 |iter=>simp[World.shape?,ho]at hs
structure BRel (w:World) (G:Nat->Prop) (ρ:cM) (A:bU) (B:Blk) (b:Nat):Prop where
 ex:∃C o,(w.heap[b]? =some o/\ObjC o C)/\∀r row c v,B.rows[r]? =some row->row[c]? =some v→
  ∃cv,C[r*B.sz+c]? =some cv/\V w G (if B.pure then bR else ρ) (if B.pure then cF else A) v cv
 len:∀(r:Nat) row,B.rows[r]? =some row->row.length=B.sz
theorem BRel.old {w:World}{G:Nat->Prop}{ρ:cM}{A:bU}{B:Blk}{b:Nat}{x:TypeId×Nat}(h:BRel w G ρ A B b)(hs:w.shape? b=some x):
 (∃C ty,w.heap[b]? =some (.cells C ty (0,0))/\∀r row c v,B.rows[r]? =some row->row[c]? =some v→
   ∃cv,C[r*B.sz+c]? =some cv/\V w G (if B.pure then bR else ρ) (if B.pure then cF else A) v cv)/\∀(r:Nat) row,B.rows[r]? =some row->row.length=B.sz:=by obtain⟨⟨C,o,⟨h1,h2⟩,h3⟩,h4⟩:=h;exact⟨⟨C,_,h2.shaped h1 hs▸h1,h3⟩,h4⟩
abbrev lP:=Nat->Option (Blk×bU)
structure HRel (Γ:List (Nat×List AVal)) (w:World) (G:Nat->Prop) (ρ:cM) (H:lP):Prop where
 dom:∀id,H id=none->ρ id=none
 blk:∀id B A,H id=some (B,A)->A id/\∃b,ρ id=some (b,B.sz)/\¬G b/\BRel w G ρ A B b
 inj:∀i j b s t,ρ i=some (b,s)->ρ j=some (b,t)->i=j
 ro:∀b,G b->b<w.heap.size
 glob:∀g cells,look Γ g=some cells->V w G bR cF (.rp cells) (.pointer (some ⟨g,0,none⟩))/\G g/\∃C ty x,w.heap[g]? =some (.cells C ty x)/\C.size=cells.length
theorem HRel.owned_not_ro {Γ:List (Nat×List AVal)}{w:World}{G:Nat->Prop}{ρ:cM}{H:lP}(h:HRel Γ w G ρ H){b:Nat}(ho:oI ρ b):¬G b:=by
 obtain⟨id,s,hr⟩:=ho
 cases hH:H id with
 |none=>rw[h.dom id hH]at hr;cases hr
 |some x=>obtain⟨B,A⟩:=x;obtain⟨_,b',hb',hg,_⟩:=h.blk id B A hH;rw[hr]at hb';cases hb';exact hg
theorem HRel.owned_lt {Γ:List (Nat×List AVal)}{w:World}{G:Nat->Prop}{ρ:cM}{H:lP}(h:HRel Γ w G ρ H){b:Nat}(ho:oI ρ b):b<w.heap.size:=by
 obtain⟨id,s,hr⟩:=ho
 cases hH:H id with
 |none=>rw[h.dom id hH]at hr;cases hr
 |some x=>
  obtain⟨B,A⟩:=x;obtain⟨_,b',hb',_,hB⟩:=h.blk id B A hH;rw[hr]at hb';cases hb';obtain⟨C,o,⟨hc,_⟩,_⟩:=hB.ex;by_cases hb:b<w.heap.size;.exact hb
  rw[gH oO]at hc;cases hc
theorem V.step {Γ:List (Nat×List AVal)}{w w':World}{G G':Nat->Prop}{ρ ρ':cM}{H:lP}{A B A':bU}{v:AVal}{cv:Value}(h:V w G ρ A v cv)(hr:HRel Γ w G ρ H)
 (hs:Step B w G ρ w' G' ρ') (hB:∀i,A i->B i) (hA:∀i,A i->A' i):V w' G' ρ' A' v cv:=
 h.mono hs.g (λ b hb=>hs.keep b (hr.ro b hb) (λ ho=>hr.owned_not_ro ho hb)) hs.shape hA (λ id hi=>hs.ids id (hB id hi))
theorem GW{Γ:List (Nat×List AVal)}{w w':World}{G G':Nat->Prop}{ρ ρ':cM}{H:lP}{B:bU}(hr:HRel Γ w G ρ H)(hs:Step B w G ρ w' G' ρ'):
 ∀g cells,look Γ g=some cells->V w' G' bR cF (.rp cells) (.pointer (some ⟨g,0,none⟩))/\G' g/\∃C ty x,w'.heap[g]? =some (.cells C ty x)/\C.size=cells.length:=λ g cells hg=>by
 obtain⟨h1,h2,C,ty,x,h3,h4⟩:=hr.glob g cells hg
 exact⟨h1.mono hs.g (λ b hb=>hs.keep b (hr.ro b hb) (λ ho=>hr.owned_not_ro ho hb)) hs.shape (λ _ h=>h) (λ _ h=>h.elim),hs.g _ h2,C,ty,x,
  by rw[hs.keep g (hr.ro g h2) (λ ho=>hr.owned_not_ro ho h2)];exact h3,h4⟩
def bK(H:aS)(A:bU):lP:=λ id=>(look H id).map λ B=>(B,A)
def kN(k:Nat):bU:=λ i=>i<k
def jA(A0:bU)(kb k:Nat):bU:=λ i=>A0 i\/(kb<=i/\i<k)
structure Inv (Γ:List (Nat×List AVal)) (nt:Nat) (w:World) (G:Nat->Prop) (ρ:cM) (A:bU) (a:Act) (fr:Fr) (H:aS):Prop where
 rel:HRel Γ w G ρ (bK H A)
 size:a.tmps.size=nt
 defers:a.defers=[]
 frm:∀t v,look fr t=some v->V w G ρ A v (a.tmps.getD t undef)
abbrev AQ:=Exit->Nat->Fr->aS->Prop
def Post(Γ:List (Nat×List AVal))(nt:Nat)(A0:bU)(kb:Nat)(w:World)(G:Nat->Prop)(ρ:cM)(Q:AQ):Exit->Act->World->Prop:=λ e a' w'=>
 ∃G' ρ' k' fr' H',Q e k' fr' H'/\kb<=k'/\Inv Γ nt w' G' ρ' (jA A0 kb k') a' fr' H'/\Step (kN kb) w G ρ w' G' ρ'
def W(P:Program)(Γ:List (Nat×List AVal))(nt kb:Nat)(c:Code)(Q:AQ)(k:Nat)(fr:Fr)(H:aS):Prop:=
 ∀A0:bU,(∀i,A0 i->i<kb)->kb<=k->∀w G ρ a,Inv Γ nt w G ρ (jA A0 kb k) a fr H->c.wp P (Post Γ nt A0 kb w G ρ Q) a w
section
variable{P:Program}{Γ:List (Nat×List AVal)}{nt kb:Nat}{Q Q':AQ}{k:Nat}{fr:Fr}{H:aS}
theorem Post.trans {A0:bU}{w w1:World}{G G1:Nat->Prop}{ρ ρ1:cM}{e:Exit}{a':Act}{w':World}(hs:Step (kN kb) w G ρ w1 G1 ρ1)(h:Post Γ nt A0 kb w1 G1 ρ1 Q e a' w'):
 Post Γ nt A0 kb w G ρ Q e a' w':=by obtain⟨G',ρ',k',fr',H',hq,hk,hi,hst⟩:=h;exact⟨G',ρ',k',fr',H',hq,hk,hi,hs.trans hst (λ _ h=>h)⟩
theorem kT{c:Code}(h:W P Γ nt kb c Q k fr H)(hq:∀e k fr H,Q e k fr H->Q' e k fr H):W P Γ nt kb c Q' k fr H:=λ A0 hA0 hk w G ρ a hi=>
 wp_mono (h A0 hA0 hk w G ρ a hi) λ _ _ _ ⟨G',ρ',k',fr',H',hQ,r⟩=>⟨G',ρ',k',fr',H',hq _ _ _ _ hQ,r⟩
theorem OB {A0:bU}{w:World}{G:Nat->Prop}{ρ:cM}{a:Act}{e:Exit}(hk:kb<=k)(hi:Inv Γ nt w G ρ (jA A0 kb k) a fr H)(h:Q e k fr H):Post Γ nt A0 kb w G ρ Q e a w:=
 ⟨G,ρ,k,fr,H,h,hk,hi,jT _ _ _ _⟩
theorem aEQ(h:Q .normal k fr H):W P Γ nt kb .skip Q k fr H:=λ A0 _ hk _ _ _ _ hi=>wp_skip (OB hk hi h)
theorem aUP(h:Q .ret k fr H):W P Γ nt kb .ret Q k fr H:=λ A0 _ hk _ _ _ _ hi=>wp_ret (OB hk hi h)
theorem aER{id:Nat}(h:Q (.exit id) k fr H):W P Γ nt kb (.exit id) Q k fr H:=λ A0 _ hk _ _ _ _ hi=>wp_exit (OB hk hi h)
def pL(next:Nat->Fr->aS->Prop)(Q:AQ):AQ
 | .normal,k,fr,H=>next k fr H
 |e,k,fr,H=>Q e k fr H
theorem aUO{x y:Code}(h:W P Γ nt kb x (pL (W P Γ nt kb y Q) Q) k fr H):W P Γ nt kb (.seq x y) Q k fr H:=λ A0 hA0 hk w G ρ a hi=>
 wp_seq (wp_mono (h A0 hA0 hk w G ρ a hi) λ e a' w' hp=>by
  obtain⟨G',ρ',k',fr',H',hQ,hk',hi',hst⟩:=hp
  cases e with
  |normal=>exact wp_mono (hQ A0 hA0 hk' w' G' ρ' a' hi') λ _ _ _ hp=>Post.trans hst hp
  |exit id=>exact⟨G',ρ',k',fr',H',hQ,hk',hi',hst⟩
  |goto l=>exact⟨G',ρ',k',fr',H',hQ,hk',hi',hst⟩
  |ret=>exact⟨G',ρ',k',fr',H',hQ,hk',hi',hst⟩
  |panic ch=>exact⟨G',ρ',k',fr',H',hQ,hk',hi',hst⟩
  |outgrown=>exact⟨G',ρ',k',fr',H',hQ,hk',hi',hst⟩)
def kB(Γ:List (Nat×List AVal))(fr:Fr):Operand->Option AVal
 | .tmp t=>look fr t
 | .const v=>some (.lit v)
 | .global g=>(look Γ g).map .rp
 | .func f=>some (.fn f [])
theorem V.weaken {w:World}{G:Nat->Prop}{ρ:cM}{A:bU}{v:AVal}{cv:Value}(h:V w G bR cF v cv):V w G ρ A v cv:=
 h.mono (λ _ h=>h) (λ _ _=>rfl) (λ _ _=>rfl) (λ _ h=>h.elim) (λ _ h=>h.elim)
theorem VF{A:bU}{w:World}{G:Nat->Prop}{ρ:cM}{a:Act}(hi:Inv Γ nt w G ρ A a fr H){x:Operand}{v:AVal}(h:kB Γ fr x=some v):V w G ρ A v (a.eval x):=by
 cases x with
 |tmp t=>exact hi.frm t v h
 |const c=>cases h;exact .lit
 |global g=>simp only[kB,aB]at h;obtain⟨cells,hl,rfl⟩:=h;exact(hi.rel.glob g cells hl).1.weaken
 |func f=>cases h;exact .fn rfl (λ j v hj=>by simp at hj)
theorem gV{w:World}{G:Nat->Prop}{ρ:cM}{A:bU}{u cv:Value}(h:V w G ρ A (.lit u) cv):cv=u:=by cases h;rfl
theorem NZ{c:Operand}{x y:Code}(t:Bool)(hc:kB Γ fr c=some (.lit (.bool t)))(ht:t=true->W P Γ nt kb x Q k fr H)(hf:t=false->W P Γ nt kb y Q k fr H):
 W P Γ nt kb (.cond c x y) Q k fr H:=λ A0 hA0 hk w G ρ a hi=>
 wp_cond_split (gV (VF hi hc)) (λ h=>ht h A0 hA0 hk w G ρ a hi) (λ h=>hf h A0 hA0 hk w G ρ a hi)
def yT(id:Nat)(Q:AQ):AQ
 | .exit id',k,fr,H=>if id'=id then Q .normal k fr H else Q (.exit id') k fr H
 |e,k,fr,H=>Q e k fr H
theorem VH{id:Nat}{c:Code}(h:W P Γ nt kb c (yT id Q) k fr H):W P Γ nt kb (.block id c) Q k fr H:=λ A0 hA0 hk w G ρ a hi=>
 wp_block (wp_mono (h A0 hA0 hk w G ρ a hi) λ e a' w' hp=>by
  obtain⟨G',ρ',k',fr',H',hQ,hk',hi',hst⟩:=hp
  cases e with
  |exit id'=>
   simp only[Exit.inBlock];by_cases he:id'=id;.simp only[yT,he,if_true]at hQ;rw[if_pos he];exact⟨G',ρ',k',fr',H',hQ,hk',hi',hst⟩
   simp only[yT,he,if_false]at hQ;rw[if_neg he];exact⟨G',ρ',k',fr',H',hQ,hk',hi',hst⟩
  |normal=>exact⟨G',ρ',k',fr',H',hQ,hk',hi',hst⟩
  |goto l=>exact⟨G',ρ',k',fr',H',hQ,hk',hi',hst⟩
  |ret=>exact⟨G',ρ',k',fr',H',hQ,hk',hi',hst⟩
  |panic ch=>exact⟨G',ρ',k',fr',H',hQ,hk',hi',hst⟩
  |outgrown=>exact⟨G',ρ',k',fr',H',hQ,hk',hi',hst⟩)
theorem aUQ{c:Code}(I:Nat->Nat->Fr->aS->Prop)(m:Nat)(h0:I m k fr H)
 (round:∀m k fr H,I m k fr H->W P Γ nt kb c (pL (λ k' fr' H'=>∃m',m'<m/\I m' k' fr' H') Q) k fr H):W P Γ nt kb (.loop c) Q k fr H:=λ A0 hA0 hk w G ρ a hi=>by
 refine wp_loop_ghost (λ m a1 w1=>∃G1 ρ1 k1 fr1 H1,I m k1 fr1 H1/\kb<=k1/\Inv Γ nt w1 G1 ρ1 (jA A0 kb k1) a1 fr1 H1/\Step (kN kb) w G ρ w1 G1 ρ1) m ⟨G,ρ,k,fr,H,h0,hk,hi,jT _ _ _ _⟩ ?_
 rintro m a1 w1 ⟨G1,ρ1,k1,fr1,H1,hI,hk1,hi1,hst1⟩
 refine wp_mono (round m k1 fr1 H1 hI A0 hA0 hk1 w1 G1 ρ1 a1 hi1) λ e a' w' hp=>?_
 obtain⟨G',ρ',k',fr',H',hQ,hk',hi',hst⟩:=hp
 have hs:=hst1.trans hst (λ _ h=>h)
 cases e with
 |normal=>obtain⟨m',hlt,hI'⟩:=hQ;exact⟨m',hlt,G',ρ',k',fr',H',hI',hk',hi',hs⟩
 |exit id=>exact⟨G',ρ',k',fr',H',hQ,hk',hi',hs⟩
 |goto l=>exact⟨G',ρ',k',fr',H',hQ,hk',hi',hs⟩
 |ret=>exact⟨G',ρ',k',fr',H',hQ,hk',hi',hs⟩
 |panic ch=>exact⟨G',ρ',k',fr',H',hQ,hk',hi',hs⟩
 |outgrown=>exact⟨G',ρ',k',fr',H',hQ,hk',hi',hs⟩
def iC(p:Nat->Bool):AVal->Bool
 | .ptr id _ _=>p id
 | .sl id _ _=>p id
 | .slc id _ _ _=>p id
 | .bfn _ id _ _=>p id
 | .mp id=>p id
 | .it id=>p id
 | .agg _=>false
 | .tup _=>false
 | .fn _ caps=>caps.isEmpty
 |_=>true
def JX(p:Nat->Bool):AVal->Bool
 | .agg cs=>cs.all (iC p)
 | .fn _ cs=>cs.all (iC p)
 |v=>iC p v
def bd(p:Nat->Bool):AVal->Bool
 | .tup cs=>cs.all (JX p)
 |v=>JX p v
theorem SE{w:World}{G:Nat->Prop}{ρ:cM}{A:bU}{p:Nat->Bool}{v:AVal}{cv:Value}(h:V w G ρ A v cv)(hb:iC p v=true):V w G ρ (λ i=>A i/\p i=true) v cv:=by
 cases h with
 |nn=>exact .nn
 |dangc ha hr=>exact .dangc ⟨ha,hb⟩ hr
 |slc ha hr h1 h2 h3 h4 h5=>exact .slc ⟨ha,hb⟩ hr h1 h2 h3 h4 h5
 |bfn h=>cases h with
  |dang ha hr=>exact .bfn (.dang ⟨ha,hb⟩ hr)
  |ptr ha hr hs=>exact .bfn (.ptr ⟨ha,hb⟩ hr hs)
 |dangm ha hr=>exact .dangm ⟨ha,hb⟩ hr
 |mp ha hr hs=>exact .mp ⟨ha,hb⟩ hr hs
 |dangi ha hr=>exact .dangi ⟨ha,hb⟩ hr
 |it ha hr hs=>exact .it ⟨ha,hb⟩ hr hs
 |junk=>exact .junk
 |lit=>exact .lit
 |dang ha hr=>exact .dang ⟨ha,hb⟩ hr
 |dangs ha hr=>exact .dangs ⟨ha,hb⟩ hr
 |ptr ha hr hs=>exact .ptr ⟨ha,hb⟩ hr hs
 |sl ha hr h1 h2 h3 h4 h5=>exact .sl ⟨ha,hb⟩ hr h1 h2 h3 h4 h5
 |sl0 ha hr=>exact .sl0 ⟨ha,hb⟩ hr
 |rp g h1 h2 h3=>exact .rp g h1 h2 h3
 |rd0=>exact .rd0
 |rd g h1 hcap hn h2 h3 h4=>exact .rd g h1 hcap hn h2 h3 h4
 |agg h1 h2=>simp[iC]at hb
 |tup h1 h2=>simp[iC]at hb
 | fn h1 h2=>rename_i f caps cs;cases caps with
   |nil=>exact .fn h1 (λ j v hj=>by simp at hj)
   |cons=>simp[iC]at hb
theorem gP{α:Type}{l:List α}{p:α->Bool}(h:l.all p=true){j:Nat}{v:α}(hj:l[j]? =some v):p v=true:=
 aW.1 h v (jC hj)
theorem a1Y{w:World}{G:Nat->Prop}{ρ:cM}{A:bU}{p:Nat->Bool}{v:AVal}{cv:Value}(h:V w G ρ A v cv)(hb:JX p v=true):V w G ρ (λ i=>A i/\p i=true) v cv:=by
 cases v with
 |agg cells=>cases h with|agg h1 h2=>exact .agg h1 λ j v hj=>SE (h2 j v hj) (gP hb hj)
 |fn f cells=>cases h with|fn h1 h2=>exact .fn h1 λ j v hj=>SE (h2 j v hj) (gP hb hj)
 |_=>exact SE h hb
theorem aEV{w:World}{G:Nat->Prop}{ρ:cM}{A:bU}{p:Nat->Bool}{v:AVal}{cv:Value}(h:V w G ρ A v cv)(hb:bd p v=true):V w G ρ (λ i=>A i/\p i=true) v cv:=by
 cases v with
 |tup cells=>cases h with|tup h1 h2=>exact .tup h1 λ j v hj=>a1Y (h2 j v hj) (gP hb hj)
 |_=>exact a1Y h hb
def leF(fr:Fr):Fr->Prop
 |[]=>True
 |(t,v)::r=>look fr t=some v/\leF fr r
def OO(H:aS):aS->Prop
 |[]=>True
 |(t,v)::r=>look H t=some v/\OO H r
def bdF(p:Nat->Bool)(fr:Fr):Bool:=fr.all λ x=>bd p x.2
def rG(p:Nat->Bool)(H:aS):Bool:=H.all λ x=>p x.1&&(x.2.pure||x.2.rows.all λ row=>row.all (iC p))
def kW(k:Nat):Nat->Bool:=λ i=>decide (i<k)
theorem LZ{fr:Fr}:∀ {fr1:Fr},leF fr fr1->∀t v,look fr1 t=some v->look fr t=some v
 |[],_,t,v,h=>by simp[look]at h
 |(t',v')::r,⟨h1,h2⟩,t,v,h=>by
  simp only[look]at h;split at h;.rename_i he;subst he;cases h;exact h1
  exact LZ h2 t v h
theorem EL{H:aS}:∀ {H1:aS},OO H H1->∀t v,look H1 t=some v->look H t=some v
 |[],_,t,v,h=>by simp[look]at h
 |(t',v')::r,⟨h1,h2⟩,t,v,h=>by
  simp only[look]at h;split at h;.rename_i he;subst he;cases h;exact h1
  exact EL h2 t v h
theorem rQ{α:Type}{p:Nat×α->Bool}:∀ {l:List (Nat×α)},l.all p=true->∀ {t v},look l t=some v->p (t,v)=true
 |[],_,t,v,h=>by simp[look]at h
 |(t',v')::r,ha,t,v,h=>by
  simp only[hY,aC]at ha;simp only[look]at h;split at h;.rename_i he;subst he;cases h;exact ha.1
  exact rQ ha.2 h
structure Wk (kb k:Nat) (fr:Fr) (H:aS) (k1:Nat) (fr1:Fr) (H1:aS):Prop where
 base:kb<=k1
 frm:leF fr fr1
 heap:OO H H1
 bound:k1=k\/(bdF (kW k1) fr1=true/\rG (kW k1) H1=true)
theorem Wk.inv {A0:bU}{w:World}{G:Nat->Prop}{ρ:cM}{a:Act}{k1:Nat}{fr1:Fr}{H1:aS}(hA0:∀i,A0 i->i<kb)(hw:Wk kb k fr H k1 fr1 H1)(hi:Inv Γ nt w G ρ (jA A0 kb k) a fr H):
 ∃ρ',Inv Γ nt w G ρ' (jA A0 kb k1) a fr1 H1/\∀A,Step A w G ρ w G ρ':=by
 let ρ':cM:=λ id=>match look H1 id with|some _=>ρ id|none=>none
 have hρ:∀id,ρ' id=none\/ρ' id=ρ id:=λ id=>by
  simp only[ρ'];split;.exact .inr rfl
  exact .inl rfl
 have hsome:∀id x,ρ' id=some x->ρ id=some x/\∃B,look H1 id=some B:=λ id x h=>by
  simp only[ρ']at h;split at h;.rename_i B hB;exact⟨h,B,hB⟩
  cases h
 have hV:∀v cv,V w G ρ (jA A0 kb k) v cv->V w G ρ' (jA A0 kb k) v cv:=λ v cv h=>
  h.mono (λ _ h=>h) (λ _ _=>rfl) (λ _ _=>rfl) (λ _ h=>h) (λ id _=>hρ id)
 have hlow:∀i,jA A0 kb k i->i<k1->jA A0 kb k1 i:=λ i h1 h2=>by
  rcases h1 with h1|h1;.exact .inl h1
  exact .inr ⟨h1.1,h2⟩
 have hVl:∀v cv,V w G ρ' (λ i=>jA A0 kb k i/\kW k1 i=true) v cv->V w G ρ' (jA A0 kb k1) v cv:=λ v cv h=>
  h.mono (λ _ h=>h) (λ _ _=>rfl) (λ _ _=>rfl) (λ i h=>hlow i h.1 (of_decide_eq_true h.2)) (λ _ _=> .inr rfl)
 refine⟨ρ',⟨⟨?_,?_,?_,hi.rel.ro,hi.rel.glob⟩,hi.size,hi.defers,?_⟩,λ A=>⟨aF _,λ _ _ _=>rfl,λ _ _=>rfl,λ _ h=>h,λ _ h=> .inl h,?_,λ id _=>hρ id,rfl,rfl,rfl⟩⟩;.intro id h;simp only[bK,dG]at h;simp only[ρ',h]
 .intro id B A h;simp only[bK,aB]at h;obtain⟨B',hB,he⟩:=h;cases he;have hl:=EL hw.heap id B hB;obtain⟨hlt,b,hb,hg,hBR⟩:=hi.rel.blk id B (jA A0 kb k) (by simp[bK,hl]);refine⟨?_,b,by simp only[ρ',hB,hb],hg,?_⟩
  .rcases hw.bound with rfl|⟨_,hh⟩;.exact hlt
   have:=rQ hh hB;simp only[aC]at this;exact hlow _ hlt (of_decide_eq_true this.1)
  obtain⟨⟨C,ty,hC,hrows⟩,hlen⟩:=hBR;refine⟨⟨C,ty,hC,λ r row c v hr hc=>?_⟩,hlen⟩;obtain⟨cv,h1,h2⟩:=hrows r row c v hr hc;refine⟨cv,h1,?_⟩;by_cases hp:B.pure=true;.simp only[hp,if_true]at h2⊢;exact h2
  simp only[hp]at h2⊢
  have h3:=hV v cv h2;rcases hw.bound with rfl|⟨_,hh⟩;.exact h3
  have:=rQ hh hB;simp only[aC,bH]at this;have h5:=this.2.resolve_left hp;have h4:=gP (gP h5 hr) hc;exact hVl _ _ (SE h3 h4)
 .intro i j b s t h1 h2;exact hi.rel.inj i j b s t (hsome _ _ h1).1 (hsome _ _ h2).1
 .intro t v h;have h1:=hV _ _ (hi.frm t v (LZ hw.frm t v h));rcases hw.bound with rfl|⟨hf,_⟩;.exact h1
  exact hVl _ _ (aEV h1 (rQ hf h))
 rintro b ⟨id,s,hb⟩;exact .inl ⟨id,s,(hsome _ _ hb).1⟩
end
def Vs(w:World)(G:Nat->Prop)(ρ:cM)(A:bU)(vs:List AVal)(cs:Array Value):Prop:=
 vs.length=cs.size/\∀j v,vs[j]? =some v->V w G ρ A v (cs.getD j undef)
def Tr(P:Program)(Γ:List (Nat×List AVal))(f:FuncId)(k:Nat)(args:List AVal)(H:aS)(Q:Nat->AVal->aS->Prop):Prop:=
 ∀ A:bU,(∀i,A i->i<k)->∀w G ρ cargs,HRel Γ w G ρ (bK H A)->Vs w G ρ A args cargs→
   Calls P f cargs w λ e w'=>∃cv G' ρ' k' r H',e= .returned cv/\Q k' r H'/\k<=k'/\HRel Γ w' G' ρ' (bK H' (jA A k k'))/\V w' G' ρ' (jA A k k') r cv/\Step (kN k) w G ρ w' G' ρ'
theorem Tr.mono {P:Program}{Γ:List (Nat×List AVal)}{f:FuncId}{k:Nat}{args:List AVal}{H:aS}{Q Q':Nat->AVal->aS->Prop}(h:Tr P Γ f k args H Q)(hq:∀k r H,Q k r H->Q' k r H):
 Tr P Γ f k args H Q':=λ A hA w G ρ cargs h1 h2=>
 (h A hA w G ρ cargs h1 h2).mono λ _ _ ⟨cv,G',ρ',k',r,H',he,hQ,rest⟩=>⟨cv,G',ρ',k',r,H',he,hq _ _ _ hQ,rest⟩
def uX:Nat->List AVal->Fr
 |_,[]=>[]
 |i,v::r=>(i,v)::uX (i+1) r
theorem NT:∀(l:List AVal) (i t:Nat) (v:AVal),look (uX i l) t=some v->i<=t/\l[t-i]? =some v
 |[],i,t,v,h=>by simp[uX,look]at h
 |x::r,i,t,v,h=>by
  simp only[uX,look]at h;split at h;.rename_i he;subst he;cases h;exact⟨aF _,by simp⟩
  rename_i hne;obtain⟨h1,h2⟩:=NT r (i+1) t v h;refine⟨oO,?_⟩;have e:t-i=(t-(i+1))+1:=oO;rw[e,eW];exact h2
def iR(H:lP)(A:bU):List (Nat×Option Blk)->lP
 |[]=>H
 |(id,x)::r=>λ i=>if i=id then x.map λ B=>(B,A)else iR H A r i
def dT(ρ:cM)(n:Nat)(x:Option (Nat×Nat)):cM:=λ i=>if i=n then x else ρ i
section
variable{Γ:List (Nat×List AVal)}{w w':World}{G G':Nat->Prop}{ρ ρ':cM}{H:lP}
theorem BRel.step {A A' S:bU}{B:Blk}{b:Nat}(hB:BRel w G ρ A B b)(h:HRel Γ w G ρ H)(hs:Step S w G ρ w' G' ρ')(hS:∀i,A i->S i)(hA:∀i,A i->A' i)(hb:w'.heap[b]? =w.heap[b]?):
 BRel w' G' ρ' A' B b:=by
 obtain⟨⟨C,o,hC,hr⟩,hl⟩:=hB;refine⟨⟨C,o,⟨hb.trans hC.1,hC.2⟩,λ r row c v h1 h2=>?_⟩,hl⟩;obtain⟨cv,h3,h4⟩:=hr r row c v h1 h2;refine⟨cv,h3,?_⟩;by_cases hp:B.pure=true
 .simp only[hp,if_true]at h4⊢
  exact h4.mono hs.g (λ b hb=>hs.keep b (h.ro b hb) (λ ho=>h.owned_not_ro ho hb)) hs.shape (λ _ h=>h) (λ _ h=>h.elim)
 simp only[hp]at h4⊢
 exact h4.step h hs hS hA
theorem HRel.after {S:bU}(h:HRel Γ w G ρ H)(hs:Step S w G ρ w' G' ρ')(H':lP)(hdom:∀id,H' id=none->ρ' id=none)
 (hblk:∀id B A,H' id=some (B,A)->A id∧
   ((∃A0 b,H id=some (B,A0)/\(∀i,A0 i->A i)/\(∀i,A0 i->S i)/\ρ' id=ρ id/\ρ id=some (b,B.sz)/\w'.heap[b]? =w.heap[b]? /\¬G' b)∨
    (∃b,ρ' id=some (b,B.sz)/\¬G' b/\BRel w' G' ρ' A B b)))
 (hinj:∀i j b s t,ρ' i=some (b,s)->ρ' j=some (b,t)->i=j) (hro:∀b,G' b->b<w'.heap.size):HRel Γ w' G' ρ' H' where
 dom:=hdom
 blk:=λ id B A hH=>by
  obtain⟨hA,hc⟩:=hblk id B A hH;refine⟨hA,?_⟩;rcases hc with⟨A0,b,h0,hA0,hS,hρ,hb,hk,hg⟩|hc;.obtain⟨_,b',hb',_,hBR⟩:=h.blk id B A0 h0;rw[hb]at hb';cases hb';exact⟨b,hρ.trans hb,hg,hBR.step h hs hS hA0 hk⟩
  exact hc
 inj:=hinj
 ro:=hro
 glob:=GW h hs
theorem wF(w:World)(o:Obj){b:Nat}(hb:b<w.heap.size):(w.alloc o).heap[b]? =w.heap[b]? :=by show(w.heap.push o)[b]? =_;rw[Array.getElem?_push,if_neg (Nat.ne_of_lt hb)]
theorem iV(w:World)(o:Obj):(w.alloc o).heap[w.heap.size]? =some o:=by show(w.heap.push o)[w.heap.size]? =_;rw[Array.getElem?_push,if_pos rfl]
theorem mS(n sz:Nat)(o:Obj)(w1:World)(hw1:w1.heap=w.heap)(h1:w1.os=w.os)(h2:w1.tape=w.tape)(h3:w1.output=w.output):
 Step (λ i=>i≠n) w G ρ (w1.alloc o) G (dT ρ n (some (w.heap.size,sz))) where
 size:=by show _<=(w1.heap.push o).size;rw[Array.size_push,hw1];omega
 keep:=λ b hb _=>by rw[wF w1 o (by rw[hw1];exact hb),hw1]
 shape:=λ b hb=>shp_of (by rw[wF w1 o (by rw[hw1];exact hb),hw1])
 g:=λ _ h=>h
 g':=λ _ h=> .inl h
 own:=by
  rintro b ⟨id,s,hb⟩;simp only[dT]at hb;split at hb;.cases hb;exact .inr (aF _)
  exact .inl ⟨id,s,hb⟩
 ids:=λ id hi=> .inr (by simp[dT,hi])
 os:=h1
 tape:=h2
 output:=h3
theorem HRel.allocO (h:HRel Γ w G ρ H)(n:Nat)(hn:ρ n=none)(hf:∀id B A,H id=some (B,A)->¬A n)(B:Blk)(C:Array Value)(o:Obj)(ho:ObjC o C)(A A':bU)(hAn:¬A n)(hA:∀i,A i->A' i)(hA':A' n)
 (hl:∀(r:Nat) row,B.rows[r]? =some row->row.length=B.sz)
 (hr:∀r row c v,B.rows[r]? =some row->row[c]? =some v->∃cv,C[r*B.sz+c]? =some cv/\V w G (if B.pure then bR else ρ) (if B.pure then cF else A) v cv)
 (w1:World) (hw1:w1.heap=w.heap) (h1:w1.os=w.os) (h2:w1.tape=w.tape) (h3:w1.output=w.output):
 HRel Γ (w1.alloc o) G (dT ρ n (some (w.heap.size,B.sz))) (iR H A' [(n,some B)]):=by
 have hs:=mS (G:=G) (ρ:=ρ) n B.sz o w1 hw1 h1 h2 h3;refine h.after hs _ ?_ ?_ ?_ ?_
 .intro id hid;simp only[iR]at hid;split at hid;.cases hid
  rename_i hne;simp only[dT,hne,if_false];exact h.dom id hid
 .intro id B' A0 hid;simp only[iR]at hid;split at hid
  .rename_i he;subst he;cases hid;refine⟨hA',.inr ⟨w.heap.size,by simp[dT],λ hg=>absurd (h.ro _ hg) (tC _),⟨⟨C,o,⟨by rw[<-hw1];exact iV w1 _,ho⟩,λ r row c v hrow hc=>?_⟩,hl⟩⟩⟩;obtain⟨cv,hcv,hv⟩:=hr r row c v hrow hc;refine⟨cv,hcv,?_⟩;by_cases hp:B.pure=true
   .simp only[hp,if_true]at hv⊢
    exact hv.mono hs.g (λ b hb=>hs.keep b (h.ro b hb) (λ ho=>h.owned_not_ro ho hb)) hs.shape (λ _ h=>h) (λ _ h=>h.elim)
   simp only[hp]at hv⊢
   exact hv.step h hs (λ i hi=>λ he=>hAn (he▸hi)) hA
  rename_i hne;obtain⟨hAid,b,hb,hg,hBR⟩:=h.blk id B' A0 hid;refine⟨hAid,.inl ⟨A0,b,hid,λ _ h=>h,λ i hi he=>hf id B' A0 hid (he▸hi),by simp[dT,hne],hb,?_,hg⟩⟩;have hlt:=h.owned_lt ⟨id,_,hb⟩;rw[wF w1 _ (by rw[hw1];exact hlt),hw1]
 .intro i j b s t hi hj;simp only[dT]at hi hj;split at hi<;>split at hj;.rename_i e1 e2;rw[e1,e2]
  .cases hi;exact absurd (h.owned_lt ⟨j,t,hj⟩) (tC _)
  .cases hj;exact absurd (h.owned_lt ⟨i,s,hi⟩) (tC _)
  exact h.inj i j b s t hi hj
 intro b hb;have:=h.ro b hb;show b<(w1.heap.push _).size;rw[Array.size_push,hw1];omega
theorem HRel.alloc (h:HRel Γ w G ρ H)(n:Nat)(hn:ρ n=none)(hf:∀id B A,H id=some (B,A)->¬A n)(B:Blk)(C:Array Value)(ty:TypeId)(A A':bU)(hAn:¬A n)(hA:∀i,A i->A' i)(hA':A' n)
 (hl:∀(r:Nat) row,B.rows[r]? =some row->row.length=B.sz)
 (hr:∀r row c v,B.rows[r]? =some row->row[c]? =some v->∃cv,C[r*B.sz+c]? =some cv/\V w G (if B.pure then bR else ρ) (if B.pure then cF else A) v cv)
 (w1:World) (hw1:w1.heap=w.heap) (h1:w1.os=w.os) (h2:w1.tape=w.tape) (h3:w1.output=w.output):
 HRel Γ (w1.alloc (.cells C ty)) G (dT ρ n (some (w.heap.size,B.sz))) (iR H A' [(n,some B)]):=
 h.allocO n hn hf B C (.cells C ty) .cells A A' hAn hA hA' hl hr w1 hw1 h1 h2 h3
theorem a2V{b:Nat}{C:Array Value}{ty:TypeId}(hC:w'.heap[b]? =some (.cells C ty (0,0)))(h:w'.shape? b=w.shape? b):BA w' b=BA w b:=by
 have e:BA w' b=some (some (ty,C.size)):=by unfold BA;rw[hC];rfl
 rw[AZ,AZ,e]at h;rw[e]
 cases hw:BA w b with
 |none=>rw[hw]at h;cases h
 | some x=>rw[hw]at h;cases x with
   |none=>cases h
   |some y=>cases h;rfl
theorem HRel.rewriteO (h:HRel Γ w G ρ H){id b:Nat}{B:Blk}(hb:ρ id=some (b,B.sz))(n:Nat)(hn:n=id\/(ρ n=none/\∀i B A,H i=some (B,A)->¬A n))
 (B':Blk) (hsz:B'.sz=B.sz) (C':Array Value) (o:Obj) (ho:ObjC o C') (A A':bU) (hAn:n=id\/¬A n) (hA:∀i,A i->A' i) (hA':A' n)
 (w':World) (hC:w'.heap[b]? =some o) (hother:∀j,j≠b->w'.heap[j]? =w.heap[j]?) (hsize:w'.heap.size=w.heap.size) (hshape:BA w' b=BA w b)
 (h1:w'.os=w.os) (h2:w'.tape=w.tape) (h3:w'.output=w.output)
 (hl:∀(r:Nat) row,B'.rows[r]? =some row->row.length=B'.sz)
 (hr:∀r row c v,B'.rows[r]? =some row->row[c]? =some v->∃cv,C'[r*B'.sz+c]? =some cv/\V w G (if B'.pure then bR else ρ) (if B'.pure then cF else A) v cv):
 HRel Γ w' G (dT (dT ρ id none) n (some (b,B.sz))) (iR H A' [(n,some B'),(id,none)])/\Step (λ i=>i≠n\/n=id) w G ρ w' G (dT (dT ρ id none) n (some (b,B.sz))):=by
 have hbo:oI ρ b:=⟨id,_,hb⟩;have hbg:=h.owned_not_ro hbo
 have hs:Step (λ i=>i≠n\/n=id) w G ρ w' G (dT (dT ρ id none) n (some (b,B.sz))):=by
  refine⟨oO,λ j hj ho=>hother j (λ he=>ho (he▸hbo)),λ j hj=>?_,λ _ h=>h,λ _ h=> .inl h,?_,?_,h1,h2,h3⟩
  .by_cases he:j=b;.rw[he];exact hshape
   exact shp_of (hother j he)
  .rintro j ⟨i,s,hj⟩;simp only[dT]at hj;split at hj;.cases hj;exact .inl hbo
   split at hj;.cases hj
   exact .inl ⟨i,s,hj⟩
  intro i hi;simp only[dT];split
  .rename_i he;rcases hi with hi|hi
   .exact absurd he hi
   right;rw[he,hi,hb]
  split;.exact .inl rfl
  exact .inr rfl
 refine⟨h.after hs _ ?_ ?_ ?_ ?_,hs⟩
 .intro i hi;simp only[iR]at hi;simp only[dT];split at hi;.cases hi
  rename_i h4;rw[if_neg h4];split at hi;.rename_i h5;rw[if_pos h5]
  rename_i h5;rw[if_neg h5];exact h.dom i hi
 .intro i B1 A1 hi;simp only[iR]at hi;split at hi
  .rename_i he;subst he;cases hi;refine⟨hA',.inr ⟨b,by simp[dT,hsz],hbg,⟨⟨C',o,⟨hC,ho⟩,λ r row c v hrow hc=>?_⟩,hl⟩⟩⟩;obtain⟨cv,hcv,hv⟩:=hr r row c v hrow hc;refine⟨cv,hcv,?_⟩;by_cases hp:B'.pure=true
   .simp only[hp,if_true]at hv⊢
    exact hv.mono hs.g (λ b hb=>hs.keep b (h.ro b hb) (λ ho=>h.owned_not_ro ho hb)) hs.shape (λ _ h=>h) (λ _ h=>h.elim)
   simp only[hp]at hv⊢
   refine hv.step h hs (λ j hj=>?_) hA;rcases hAn with e|e;.exact .inr e
   exact .inl (λ he=>e (he▸hj))
  rename_i hne;split at hi;.cases hi
  rename_i hne2;obtain⟨hAid,b1,hb1,hg1,hBR⟩:=h.blk i B1 A1 hi;refine⟨hAid,.inl ⟨A1,b1,hi,λ _ h=>h,λ j hj=>?_,by simp[dT,hne,hne2],hb1,hother b1 ?_,hg1⟩⟩
  .rcases hn with e|⟨_,e⟩;.exact .inr e
   exact .inl (λ he=>e i B1 A1 hi (he▸hj))
  rintro rfl;exact hne2 (h.inj i id _ _ _ hb1 hb)
 .intro i j c s t hi hj;simp only[dT]at hi hj;split at hi<;>split at hj;.rename_i e1 e2;rw[e1,e2]
  .rename_i e1 e2;cases hi;split at hj;.cases hj
   rename_i e3;exact absurd (h.inj j id _ _ _ hj hb) e3
  .rename_i e1 e2;cases hj;split at hi;.cases hi
   rename_i e3;exact absurd (h.inj i id _ _ _ hi hb) e3
  split at hi;.cases hi
  split at hj;.cases hj
  exact h.inj i j c s t hi hj
 intro c hc;rw[hsize];exact h.ro c hc
theorem vX (h:HRel Γ w G ρ H){id b:Nat}{B:Blk}(hb:ρ id=some (b,B.sz))(n:Nat)(hn:n=id\/(ρ n=none/\∀i B A,H i=some (B,A)->¬A n))
 (B':Blk) (hsz:B'.sz=B.sz) (C':Array Value) (ty:TypeId) (A A':bU) (hAn:n=id\/¬A n) (hA:∀i,A i->A' i) (hA':A' n)
 (w':World) (hC:w'.heap[b]? =some (.cells C' ty (0,0))) (hother:∀j,j≠b->w'.heap[j]? =w.heap[j]?) (hsize:w'.heap.size=w.heap.size) (hshape:w'.shape? b=w.shape? b)
 (h1:w'.os=w.os) (h2:w'.tape=w.tape) (h3:w'.output=w.output)
 (hl:∀(r:Nat) row,B'.rows[r]? =some row->row.length=B'.sz)
 (hr:∀r row c v,B'.rows[r]? =some row->row[c]? =some v->∃cv,C'[r*B'.sz+c]? =some cv/\V w G (if B'.pure then bR else ρ) (if B'.pure then cF else A) v cv):
 HRel Γ w' G (dT (dT ρ id none) n (some (b,B.sz))) (iR H A' [(n,some B'),(id,none)])/\Step (λ i=>i≠n\/n=id) w G ρ w' G (dT (dT ρ id none) n (some (b,B.sz))):=
 h.rewriteO hb n hn B' hsz C' (.cells C' ty (0,0)) .cells A A' hAn hA hA' w' hC hother hsize (a2V hC hshape) h1 h2 h3 hl hr
theorem PR(S:bU)(hw:w'.heap=w.heap)(h1:w'.os=w.os)(h2:w'.tape=w.tape)(h3:w'.output=w.output):Step S w G ρ w' G ρ:=
 ⟨by rw[hw];exact aF _,λ _ _ _=>by rw[hw],λ _ _=>shp_of (by rw[hw]),λ _ h=>h,λ _ h=> .inl h,λ _ h=> .inl h,λ _ _=> .inr rfl,h1,h2,h3⟩
theorem HRel.same (h:HRel Γ w G ρ H)(hw:w'.heap=w.heap)(h1:w'.os=w.os)(h2:w'.tape=w.tape)(h3:w'.output=w.output):HRel Γ w' G ρ H:=
 h.after (PR (λ _=>True) hw h1 h2 h3) H h.dom (λ id B A hH=>by obtain⟨hA,b,hb,hg,_⟩:=h.blk id B A hH;exact⟨hA,.inl ⟨A,b,hH,λ _ h=>h,λ _ _=>trivial,rfl,hb,by rw[hw],hg⟩⟩) h.inj (λ b hb=>by rw[hw];exact h.ro b hb)
theorem HRel.allow (h:HRel Γ w G ρ H)(H':lP)(hd:∀id,H' id=none->H id=none)(hh:∀id B A',H' id=some (B,A')->∃A,H id=some (B,A)/\∀i,A i->A' i):HRel Γ w G ρ H':=
 h.after (jT (λ _=>True) _ _ _) H' (λ id hid=>h.dom id (hd id hid)) (λ id B A' hH=>by obtain⟨A,h1,h2⟩:=hh id B A' hH;obtain⟨hA,b,hb,hg,_⟩:=h.blk id B A h1;exact⟨h2 id hA,.inl ⟨A,b,h1,h2,λ _ _=>trivial,rfl,hb,rfl,hg⟩⟩) h.inj h.ro
end
structure Out where
 v:AVal
 k:Nat
 upd:List (Nat×Option Blk)
 rds:List Nat
def OpOk(P:Program)(Γ:List (Nat×List AVal))(o:Oper)(ev:Operand->Option AVal)(get:Nat->Option Blk)(k:Nat)(out:Out):Prop:=
 ∀ w G ρ H (A:bU) (a:Act),HRel Γ w G ρ H->(∀i,A i->i<k)->(∀i,k<=i->i<out.k->ρ i=none/\∀id B A',H id=some (B,A')->¬A' i)→
   (∀id,id∈out.rds->∃B A',get id=some B/\H id=some (B,A')/\∀i,A' i->A i)→
   (∀x,x∈o.op.operands->∀v,ev x=some v->V w G ρ A v (a.eval x))→
   ∀ (next:Act->World->Prop) (Q:Exit->Act->World->Prop),
     (∀w' G' ρ' cv,HRel Γ w' G' ρ' (iR H (λ i=>A i\/(k<=i/\i<out.k)) out.upd)->V w' G' ρ' (λ i=>A i\/(k<=i/\i<out.k)) out.v cv→
       Step (λ i=>¬(k<=i/\i<out.k)) w G ρ w' G' ρ'->next (a.put o.dst cv) w')->o.wp P a w next Q
section
variable{P:Program}{Γ:List (Nat×List AVal)}{o:Oper}{ev:Operand->Option AVal}{get:Nat->Option Blk}{k:Nat}
theorem cE{v:AVal}{rds:List Nat}
 (h:∀w G ρ H (A:bU) (a:Act),HRel Γ w G ρ H->(∀id,id∈rds->∃B A',get id=some B/\H id=some (B,A')/\∀i,A' i->A i)→
   (∀x,x∈o.op.operands->∀v,ev x=some v->V w G ρ A v (a.eval x))->∃cv,(execOp a.eval o).run P w= .ok (.value cv) w/\V w G ρ A v cv):
 OpOk P Γ o ev get k ⟨v,k,[],rds⟩:=by
 intro w G ρ H A a hr hA hf hrd hop next Q hn
 obtain⟨cv,hrun,hv⟩:=h w G ρ H A a hr hrd hop;unfold Oper.wp;rw[hrun];refine hn w G ρ cv ?_ (hv.mono (λ _ h=>h) (λ _ _=>rfl) (λ _ _=>rfl) (λ _ h=> .inl h) (λ _ _=> .inr rfl)) (jT _ _ _ _);exact hr
def aQC:AVal->Option Value
 | .lit v=>some v
 | .fn f []=>some (.func (.func f) #[] #[])
 |_=>none
def mY:List AVal->Option (List Value)
 |[]=>some []
 | x::r=>match aQC x,mY r with
   |some v,some vs=>some (v::vs)
   |_,_=>none
def PQ:AVal->Option Value
 | .agg cs=>(mY cs).map λ l=> .agg l.toArray
 |v=>aQC v
theorem aGH{w:World}{G:Nat->Prop}{ρ:cM}{A:bU}{v:AVal}{cv u:Value}(h:V w G ρ A v cv)(hl:aQC v=some u):cv=u:=by
 cases h with
 |lit=>cases hl;rfl
 |fn h1 h2=>
  rename_i f caps cs
  cases caps with
  |nil=>cases hl;have:cs= #[]:=lC (by simpa using h1.symm);rw[this]
  |cons=>cases hl
 |_=>cases hl
theorem XU:∀ {cs:List AVal} {vs:List Value},mY cs=some vs->vs.length=cs.length/\∀ {w:World} {G:Nat->Prop} {ρ:cM} {A:bU} {j:Nat} {v:AVal} {cv:Value},cs[j]? =some v->V w G ρ A v cv->vs[j]? =some cv
 |[],vs,h=>by cases h;exact⟨rfl,λ hj=>by simp at hj⟩
 |x::r,vs,h=>by
  simp only[mY]at h;split at h
  .rename_i v vs' h1 h2;cases h;obtain⟨hl,ih⟩:=XU h2;refine⟨by simp[hl],λ {w G ρ A j u cv} hj hv=>?_⟩
   cases j with
   |zero=>simp only[iX,mB.injEq]at hj⊢;subst hj;exact(aGH hv h1).symm
   |succ j=>simp only[eW]at hj⊢;exact ih hj hv
  cases h
theorem JC{w:World}{G:Nat->Prop}{ρ:cM}{A:bU}{v:AVal}{cv u:Value}(h:V w G ρ A v cv)(hl:PQ v=some u):cv=u:=by
 cases v with
 |agg cells=>
  simp only[PQ,aB]at hl;obtain⟨vs,h1,rfl⟩:=hl
  cases h with
  |agg h2 h3=>
   rename_i cs;obtain⟨h4,h5⟩:=XU h1;congr 1;apply aFB;.simp[h4,h2]
   intro i hi1 hi2;have hc:i<cells.length:=oO;have h6:=h5 (aE hc) (h3 i _ (aE hc));rw[aD,aP hi1]at h6;rw[List.getElem_toArray];have h7:=(aG.1 h6).2;exact h7.symm
 |_=>exact aGH h hl
def JH{α:Type}(P:Program):Sem α->Option α
 | .pure a=>some a
 | .program k=>JH P (k P)
 | .mark _ k=>JH P k
 |_=>none
theorem WX{α:Type}(P:Program)(w:World):∀(s:Sem α) (v:α),JH P s=some v->s.run P w= .ok v w:=by
 intro s
 induction s with
 |pure a=>intro v h;cases h;rfl
 |program kk ih=>intro v h;exact ih P v h
 |mark m kk ih=>intro v h;exact ih v h
 |_=>intro v h;cases h
theorem aFW{x:Operand}{v:AVal}(ho:o.op= .move x\/o.op= .assign x)(hx:ev x=some v):OpOk P Γ o ev get k ⟨v,k,[],[]⟩:=by
 refine cE λ w G ρ H A a hr _ hop=>⟨a.eval x,?_,hop x ?_ v hx⟩;.rcases ho with ho|ho<;>simp[execOp,ho]
 rcases ho with ho|ho<;>simp[ho,Op.operands]
theorem aWP{c x y:Operand}{t:Bool}{v:AVal}(ho:o.op= .pick c x y)(hc:ev c=some (.lit (.bool t)))(hx:(if t then ev x else ev y)=some v):OpOk P Γ o ev get k ⟨v,k,[],[]⟩:=by
 refine cE λ w G ρ H A a hr _ hop=>?_;have h1:a.eval c= .bool t:=gV (hop c (by simp[ho,Op.operands]) _ hc)
 cases t with
 |true=>simp only[if_true]at hx;exact⟨a.eval x,by simp[execOp,ho,h1,asBool],hop x (by simp[ho,Op.operands]) v hx⟩
 |false=>exact⟨a.eval y,by simp[execOp,ho,h1,asBool],hop y (by simp[ho,Op.operands]) v (by simpa using hx)⟩
theorem HY{x:Operand}{v:AVal}(ho:o.op= .nilCheck x)(hx:ev x=some v)(hv:(∃c,v= .rp c)\/(∃i r c,v= .ptr i r c/\(get i).isSome)):
 OpOk P Γ o ev get k ⟨v,k,[],match v with| .ptr i _ _=>[i]|_=>[]⟩:=by
 refine cE λ w G ρ H A a hr hrd hop=>⟨a.eval x,?_,hop x (by simp[ho,Op.operands]) v hx⟩;have h1:=hop x (by simp[ho,Op.operands]) v hx;rcases hv with⟨c,rfl⟩|⟨i,r,c,rfl,_⟩
 .generalize hev:a.eval x=cv at h1⊢
  cases h1 with
  |rp=>simp[execOp,ho,hev]
 generalize hev:a.eval x=cv at h1⊢
 obtain⟨B,A',_,hH,_⟩:=hrd i (by simp);obtain⟨_,b,hb,_⟩:=hr.blk i B A' hH
 cases h1 with
 |dang _ hn=>rw[hb]at hn;cases hn
 |ptr=>simp[execOp,ho,hev]
def bT(P:Program)(s f:Nat):Option Nat:=
 match P.underlying s with
 | some (.struct fields)=>match fields[f]? with
   | some x=>match P.info? x.type with
     |some i=>if i.size=0 then none else some x.offset
     |none=>none
   |none=>none
 |_=>none
theorem EQ{s f off b o':Nat}(h:bT P s f=some off)(w:World):(Instr.fieldAt s (.pointer (some ⟨b,o',none⟩)) f).run P w= .ok (.pointer (some ⟨b,o'+off,none⟩)) w:=by
 unfold bT at h;split at h
 .rename_i fields hu;split at h
  .rename_i x hx;split at h
   .rename_i i hi;split at h;.cases h
    rename_i hz;cases h;simp[Instr.fieldAt,underlying,hu,hx,Instr.sureAddr,fieldPlace,sizeOf,typeInfo,hi,hz,Addr.add_mid]
   cases h
  cases h
 cases h
theorem ER{s f:Nat}{x:Operand}{v:AVal}{off:Nat}(ho:o.op= .fieldAddr s x f)(hoff:bT P s f=some off)
 (hx:(∃cells,ev x=some (.rp cells)/\v= .rp (cells.drop off))\/(∃i r c,ev x=some (.ptr i r c)/\(get i).isSome/\v= .ptr i r (c+off))):
 OpOk P Γ o ev get k ⟨v,k,[],match v with| .ptr i _ _=>[i]|_=>[]⟩:=by
 refine cE λ w G ρ H A a hr hrd hop=>?_;rcases hx with⟨cells,hx,rfl⟩|⟨i,r,c,hx,_,rfl⟩
 .have h1:=hop x (by simp[ho,Op.operands]) _ hx;generalize hev:a.eval x=cv at h1
  cases h1 with
  |rp g hb hc hv=>
   refine⟨_,by simp only[execOp,ho,hev];simp[EQ hoff w];rfl,.rp (λ j=>g (off+j)) hb (λ j v hj=>?_) (λ j v hj=>?_)⟩;.rw[hU]at hj;rw[fS];exact hc _ v hj
   rw[hU]at hj;exact hv _ v hj
 have h1:=hop x (by simp[ho,Op.operands]) _ hx;obtain⟨B,A',_,hH,_⟩:=hrd i (by simp);obtain⟨_,b,hb,_⟩:=hr.blk i B A' hH;generalize hev:a.eval x=cv at h1
 cases h1 with
 |dang _ hn=>rw[hb]at hn;cases hn
 |ptr ha hρ hsh=>refine⟨_,by simp only[execOp,ho,hev];simp[EQ hoff w];rfl,?_⟩;rw[fS];exact .ptr ha hρ hsh
end
def oK(P:Program)(t:TypeId):Option Nat:=(P.info? t).map (·.size)
def iS(P:Program)(t:TypeId):Option Bool:=
 match P.underlying t with
 |some d=>some d.isRow
 |none=>none
def CD(P:Program)(t:TypeId):Option Nat:=
 match P.underlying t with
 |some (.slice e)=>oK P e
 |_=>none
def BT(P:Program)(t:TypeId):Option (Nat×Nat):=
 match P.underlying t with
 |some (.array n e)=>(oK P e).map λ s=>(n,s)
 |_=>none
section
variable{P:Program}{Γ:List (Nat×List AVal)}{o:Oper}{ev:Operand->Option AVal}{get:Nat->Option Blk}{k:Nat}
theorem MU{t s:Nat}(h:CD P t=some s):∃e i,P.underlying t=some (.slice e)/\P.info? e=some i/\i.size=s:=by
 unfold CD at h;split at h;.rename_i e he;simp only[oK,aB]at h;obtain⟨i,hi,hs⟩:=h;exact⟨e,i,he,hi,hs⟩
 cases h
theorem ZQ{t n s:Nat}(h:BT P t=some (n,s)):∃e i,P.underlying t=some (.array n e)/\P.info? e=some i/\i.size=s:=by
 unfold BT at h;split at h;.rename_i m e he;simp only[oK,Option.map_map,aB]at h;obtain⟨i,hi,hs⟩:=h;cases hs;exact⟨e,i,he,hi,rfl⟩
 cases h
theorem vN{t s:Nat}(h:CD P t=some s)(b off n cap:Nat)(kk:IntKind)(i:Int)(h0:0<=i)(h1:i<n)(w:World):
 (Instr.indexAt t (.slice (some ⟨b,off,none⟩) n cap) (.int kk i)).run P w= .ok (.pointer (some ⟨b,off+i.toNat*s,none⟩)) w:=by obtain⟨e,inf,hu,hi,rfl⟩:=MU h;simp[Instr.indexAt,asIntOf,underlying,hu,h0,h1,sizeOf,typeInfo,hi,Addr.add_mid]
theorem vO{t m s:Nat}(h:BT P t=some (m,s))(b off:Nat)(kk:IntKind)(i:Int)(h0:0<=i)(h1:i<m)(w:World):
 (Instr.indexAt t (.pointer (some ⟨b,off,none⟩)) (.int kk i)).run P w= .ok (.pointer (some ⟨b,off+i.toNat*s,none⟩)) w:=by obtain⟨e,inf,hu,hi,rfl⟩:=ZQ h;simp[Instr.indexAt,asIntOf,underlying,hu,h0,h1,sizeOf,typeInfo,hi,Addr.add_mid,Instr.sureAddr]
theorem YD{t s n:Nat}{x y:Operand}{f:Nat->List AVal}{kk:IntKind}{i:Int}(ho:o.op= .indexAddr t x y)(hs:CD P t=some s)(hx:ev x=some (.rd s n f))(hy:ev y=some (.lit (.int kk i)))
 (h0:0<=i) (h1:i<n):OpOk P Γ o ev get k ⟨.rp (f i.toNat),k,[],[]⟩:=by
 refine cE λ w G ρ H A a hr _ hop=>?_;have hvx:=hop x (by simp[ho,Op.operands]) _ hx;have hvy:=gV (hop y (by simp[ho,Op.operands]) _ hy);generalize hev:a.eval x=cv at hvx
 cases hvx with
 |rd0=>omega
 |rd g hb hcap hn hl hc hv=>refine⟨_,by simp only[execOp,ho,hev,hvy];simp[vN hs _ _ _ _ kk i h0 h1 w],.rp (λ j=>g i.toNat j) hb (λ j v hj=>hc i.toNat j v oO hj) (λ j v hj=>hv i.toNat j v oO hj)⟩
theorem YB{t s n id r:Nat}{x y:Operand}{B:Blk}{kk:IntKind}{i:Int}(ho:o.op= .indexAddr t x y)(hs:CD P t=some s)(hx:ev x=some (.sl id r n))(hy:ev y=some (.lit (.int kk i)))
 (hB:get id=some B) (hsz:B.sz=s) (h0:0<=i) (h1:i<n):OpOk P Γ o ev get k ⟨.ptr id (r+i.toNat) 0,k,[],[id]⟩:=by
 refine cE λ w G ρ H A a hr hrd hop=>?_;have hvx:=hop x (by simp[ho,Op.operands]) _ hx;have hvy:=gV (hop y (by simp[ho,Op.operands]) _ hy);obtain⟨B',A',h2,hH,_⟩:=hrd id (by simp);rw[hB]at h2;cases h2;obtain⟨_,b,hb,_⟩:=hr.blk id B A' hH;generalize hev:a.eval x=cv at hvx
 cases hvx with
 |dangs _ hn=>rw[hb]at hn;cases hn
 |sl0=>omega
 |sl ha hρ hsh hm hn hc hoff=>
  rw[hb]at hρ;cases hρ;rename_i cap off;have hoff':off=r*B.sz:=hoff.resolve_left oO;subst hoff';refine⟨_,by simp only[execOp,ho,hev,hvy];simp[vN hs _ _ _ _ kk i h0 h1 w];rfl,?_⟩;have e:r*B.sz+i.toNat*s=(r+i.toNat)*B.sz+0:=by rw[hsz,cX,jX]
  rw[e];exact .ptr ha hb hsh
theorem YC{t m s:Nat}{x y:Operand}{cells:List AVal}{kk:IntKind}{i:Int}(ho:o.op= .indexAddr t x y)(hs:BT P t=some (m,s))(hx:ev x=some (.rp cells))(hy:ev y=some (.lit (.int kk i)))
 (h0:0<=i) (h1:i<m):OpOk P Γ o ev get k ⟨.rp (cells.drop (i.toNat*s)),k,[],[]⟩:=by
 refine cE λ w G ρ H A a hr _ hop=>?_;have hvx:=hop x (by simp[ho,Op.operands]) _ hx;have hvy:=gV (hop y (by simp[ho,Op.operands]) _ hy);generalize hev:a.eval x=cv at hvx
 cases hvx with
 |rp g hb hc hv=>
  refine⟨_,by simp only[execOp,ho,hev,hvy];simp[vO hs _ _ kk i h0 h1 w];rfl,.rp (λ j=>g (i.toNat*s+j)) hb (λ j v hj=>?_) (λ j v hj=>?_)⟩;.rw[hU]at hj;rw[fS];exact hc _ v hj
  rw[hU]at hj;exact hv _ v hj
theorem TN{t m s id r c:Nat}{x y:Operand}{B:Blk}{kk:IntKind}{i:Int}(ho:o.op= .indexAddr t x y)(hs:BT P t=some (m,s))(hx:ev x=some (.ptr id r c))(hy:ev y=some (.lit (.int kk i)))
 (hB:get id=some B) (h0:0<=i) (h1:i<m):OpOk P Γ o ev get k ⟨if B.sz=s/\c=0 then .ptr id (r+i.toNat) 0 else .ptr id r (c+i.toNat*s),k,[],[id]⟩:=by
 refine cE λ w G ρ H A a hr hrd hop=>?_;have hvx:=hop x (by simp[ho,Op.operands]) _ hx;have hvy:=gV (hop y (by simp[ho,Op.operands]) _ hy);obtain⟨B',A',h2,hH,_⟩:=hrd id (by simp);rw[hB]at h2;cases h2;obtain⟨_,b,hb,_⟩:=hr.blk id B A' hH;generalize hev:a.eval x=cv at hvx
 cases hvx with
 |dang _ hn=>rw[hb]at hn;cases hn
 |ptr ha hρ hsh=>
  rw[hb]at hρ;cases hρ;refine⟨_,by simp only[execOp,ho,hev,hvy];simp[vO hs _ _ kk i h0 h1 w];rfl,?_⟩;split
  .rename_i hc;have e:r*B.sz+c+i.toNat*s=(r+i.toNat)*B.sz+0:=by rw[hc.2,<-hc.1,cX];omega
   rw[e];exact .ptr ha hb hsh
  rw[fS];exact .ptr ha hb hsh
def gD(agg:Bool)(n:Nat)(row:List AVal)(c:Nat):Option AVal:=
 if agg then(if c+n<=row.length then some (.agg ((row.drop c).take n))else none)else row[c]?
theorem SV{t n b off:Nat}(ht:iS P t=some true)(hn:oK P t=some n)(cs:List Value)(hl:cs.length=n)(w:World)(hc:w.rangeAt b off cs):
 (Instr.loadAt t (.pointer (some ⟨b,off,none⟩))).run P w= .ok (.agg cs.toArray) w:=by
 unfold iS at ht;split at ht
 .rename_i d hd
  cases hdr:d.isRow with
  |false=>rw[hdr]at ht;cases ht
  |true=>exact run_loadAt_mid w b off t cs d hc hd hdr (by rw[hl];exact hn)
 cases ht
theorem SU{t b off:Nat}(ht:iS P t=some false)(u:Value)(w:World)(hc:w.cell? ⟨b,off,none⟩=some u):
 (Instr.loadAt t (.pointer (some ⟨b,off,none⟩))).run P w= .ok u w:=by
 unfold iS at ht;split at ht
 .rename_i d hd;have hagg:(isAgg t).run P w= .ok false w:=by unfold isAgg;rw[bO,run_underlying hd w];cases d<;>simp_all
  simp[Instr.loadAt,Instr.sureAddr,loadVar,bO,hagg,hc]
 cases ht
theorem a5O{w:World}{G:Nat->Prop}{ρ:cM}{A:bU}(cells:List AVal)(g:Nat->Value)(hv:∀(j:Nat) v,cells[j]? =some v->V w G ρ A v (g j)):
 V w G ρ A (.agg cells) (.agg ((aM cells.length).map g).toArray):=by
 refine .agg (by simp) λ j v hj=>?_;have hlt:=(aG.1 hj).1;have:((aM cells.length).map g).toArray.getD j undef=g j:=by rw[aD,cH,aQ,aML hlt];rfl
 rw[this];exact hv j v hj
theorem xC{t n b off c:Nat}{ag:Bool}{row:List AVal}{v:AVal}{w:World}{G:Nat->Prop}{ρ:cM}{A:bU}(ht:iS P t=some ag)(hn:oK P t=some n)(hp:gD ag n row c=some v)
 (g:Nat->Value) (hc:∀j u,row[j]? =some u->w.cell? ⟨b,off+j,none⟩=some (g j)) (hv:∀j u,row[j]? =some u->V w G ρ A u (g j)):
 ∃cv,(Instr.loadAt t (.pointer (some ⟨b,off+c,none⟩))).run P w= .ok cv w/\V w G ρ A v cv:=by
 unfold gD at hp
 cases ag with
 |true=>
  simp only[if_true]at hp;split at hp
  .rename_i hle;cases hp;have hlen:((row.drop c).take n).length=n:=by simp;omega
   have hsub:∀(j:Nat) u,((row.drop c).take n)[j]? =some u->row[c+j]? =some u:=λ j u hj=>by
    rw[lB]at hj;split at hj;.rw[hU]at hj;exact hj
    cases hj
   have hV:=a5O (w:=w) (G:=G) (ρ:=ρ) (A:=A) ((row.drop c).take n) (λ j=>g (c+j)) (λ j u hj=>hv _ u (hsub j u hj));refine⟨_,SV ht hn ((aM ((row.drop c).take n).length).map λ j=>g (c+j)) (by simpa using hlen) w ?_,hV⟩;intro j u hj;rw[aQ]at hj;simp only[aB]at hj;obtain⟨i,hi,rfl⟩:=hj;have hi':=aG.1 hi;obtain⟨hlt,he⟩:=hi';simp at he;subst he;have hlt':j<((row.drop c).take n).length:=by simpa using hlt
   rw[fS];exact hc (c+j) _ (hsub j _ (aE hlt'))
  cases hp
 |false=>simp only[aO,if_false]at hp;exact⟨g c,SU ht _ w (hc c v hp),hv c v hp⟩
theorem aCA{t n:Nat}{x:Operand}{cells:List AVal}{ag:Bool}{v:AVal}(ho:o.op= .load t x)(ht:iS P t=some ag)(hn:oK P t=some n)(hx:ev x=some (.rp cells))
 (hp:gD ag n cells 0=some v):OpOk P Γ o ev get k ⟨v,k,[],[]⟩:=by
 refine cE λ w G ρ H A a hr _ hop=>?_;have hvx:=hop x (by simp[ho,Op.operands]) _ hx;generalize hev:a.eval x=cv at hvx
 cases hvx with
 |rp g hb hc hv=>obtain⟨cv,hrun,hV⟩:=xC (P:=P) (G:=G) (ρ:=bR) (A:=cF) ht hn hp g hc hv;exact⟨cv,by simp only[execOp,ho,hev];simp only[jX]at hrun;simp[hrun],hV.weaken⟩
theorem XS{t n id r c:Nat}{x:Operand}{B:Blk}{row:List AVal}{ag:Bool}{v:AVal}(ho:o.op= .load t x)(ht:iS P t=some ag)(hn:oK P t=some n)(hx:ev x=some (.ptr id r c))
 (hB:get id=some B) (hrow:B.rows[r]? =some row) (hp:gD ag n row c=some v):OpOk P Γ o ev get k ⟨v,k,[],[id]⟩:=by
 refine cE λ w G ρ H A a hr hrd hop=>?_;have hvx:=hop x (by simp[ho,Op.operands]) _ hx;obtain⟨B',A',h2,hH,hAA⟩:=hrd id (by simp);rw[hB]at h2;cases h2;obtain⟨_,b,hb,_,hBR⟩:=hr.blk id B A' hH;generalize hev:a.eval x=cv at hvx
 cases hvx with
 |dang _ hn=>rw[hb]at hn;cases hn
 |ptr ha hρ hsh=>
  rw[hb]at hρ;cases hρ;obtain⟨⟨C,ty,hC,hrows⟩,hlen⟩:=hBR.old hsh;have hcell:∀j u,row[j]? =some u->w.cell? ⟨b,r*B.sz+j,none⟩=some (C.getD (r*B.sz+j) undef):=λ j u hj=>by obtain⟨cv,h3,_⟩:=hrows r row j u hrow hj;rw[cell_of_row w b _ C ty (0,0) hC,h3,aD,h3];rfl
  have hval:∀j u,row[j]? =some u->V w G ρ A u (C.getD (r*B.sz+j) undef):=λ j u hj=>by
   obtain⟨cv,h3,h4⟩:=hrows r row j u hrow hj;rw[aD,h3];by_cases hp:B.pure=true;.simp only[hp,if_true]at h4;exact h4.weaken
   simp only[hp]at h4;exact h4.mono (λ _ h=>h) (λ _ _=>rfl) (λ _ _=>rfl) hAA (λ _ _=> .inr rfl)
  obtain⟨cv,hrun,hV⟩:=xC (P:=P) ht hn hp (λ j=>C.getD (r*B.sz+j) undef) hcell hval;exact⟨cv,by simp only[execOp,ho,hev];simp[hrun],hV⟩
def fN(P:Program)(t:TypeId):Bool:=match P.underlying t with|some (.slice _)=>true|_=>false
theorem aQJ{t:Nat}{x:Operand}{v:AVal}{n:Nat}{ty:Array TypeId}(ho:o.op= .call {callee:= .builtin .len,args:= #[x],argTypes:=ty})(hty:ty[0]? =some t)(ht:fN P t=true)
 (hx:ev x=some v) (hv:(∃s f,v= .rd s n f)\/(∃id r,v= .sl id r n/\(get id).isSome)):
 OpOk P Γ o ev get k ⟨.lit (.int .i64 n),k,[],match v with| .sl id _ _=>[id]|_=>[]⟩:=by
 refine cE λ w G ρ H A a hr hrd hop=>?_;have hvx:=hop x (by simp[ho,Op.operands,Call.operands]) _ hx;unfold fN at ht
 have hsl:∃p m c,a.eval x= .slice p m c/\m=n:=by
  generalize hev:a.eval x=cv at hvx;rcases hv with⟨s,f,rfl⟩|⟨id,r,rfl,_⟩
  .cases hvx with
   |rd0=>exact⟨_,_,_,rfl,rfl⟩
   |rd=>exact⟨_,_,_,rfl,rfl⟩
  obtain⟨B',A',h2,hH,_⟩:=hrd id (by simp);obtain⟨_,b,hb,_⟩:=hr.blk id B' A' hH
  cases hvx with
  |dangs _ hn=>rw[hb]at hn;cases hn
  |sl=>exact⟨_,_,_,rfl,rfl⟩
  |sl0=>exact⟨_,_,_,rfl,rfl⟩
 obtain⟨p,m,c,hev,rfl⟩:=hsl;split at ht;.rename_i e hu;refine⟨.int .i64 m,?_,.lit⟩;simp[execOp,ho,resolve,invoke,builtin,Builtin.len_,hty,hev,underlying,hu,goInt]
 cases ht
theorem aCW{x:Operand}{i:Nat}{vs:List AVal}{v:AVal}(ho:o.op= .extract x i)(hx:ev x=some (.tup vs))(hv:vs[i]? =some v):OpOk P Γ o ev get k ⟨v,k,[],[]⟩:=by
 refine cE λ w G ρ H A a hr _ hop=>?_;have hvx:=hop x (by simp[ho,Op.operands]) _ hx;generalize hev:a.eval x=cv at hvx
 cases hvx with
 |tup hl hvs=>rename_i cs;have hlt:=(aG.1 hv).1;have h2:=hvs i v hv;obtain⟨u,hg,hu⟩:∃u,cs[i]? =some u/\cs.getD i undef=u:=⟨cs[i]'oO,aP oO,by rw[aD,aP oO];rfl⟩;rw[hu]at h2;exact⟨u,by simp[execOp,ho,hev,Instr.extract,hg],h2⟩
def fieldAt(P:Program)(s f:Nat):Option (Nat×Nat×Bool):=
 match P.underlying s with
 | some (.struct fields)=>match fields[f]? with
   | some x=>match iS P x.type,oK P x.type with
     |some ag,some n=>some (x.offset,n,ag)
     |_,_=>none
   |none=>none
 |_=>none
theorem WP{t n:Nat}{ag:Bool}(ht:iS P t=some ag)(hn:oK P t=some n)(cells:List AVal)(off:Nat)(v:AVal)(hp:gD ag n cells off=some v)(cs:Array Value)(hl:cells.length=cs.size)
 {w:World} {G:Nat->Prop} {ρ:cM} {A:bU} (hv:∀(j:Nat) u,cells[j]? =some u->V w G ρ A u (cs.getD j undef)):∃cv,(part t cs off).run P w= .ok cv w/\V w G ρ A v cv:=by
 unfold iS at ht;split at ht
 .rename_i d hd;have hagg:(isAgg t).run P w= .ok d.isRow w:=by unfold isAgg;rw[bO,run_underlying hd w];cases d<;>simp_all
  cases ht;simp only[oK,aB]at hn;obtain⟨inf,hinf,rfl⟩:=hn;unfold gD at hp
  cases hrow:d.isRow with
  |true=>
   simp only[hrow,if_true]at hp;split at hp
   .rename_i hle;cases hp;refine⟨.agg (cs.extract off (off+inf.size)),by simp[part,hagg,hrow,sizeOf,typeInfo,hinf],.agg (by simp;omega) λ j u hj=>?_⟩;rw[lB]at hj;split at hj
    .rename_i hlt;rw[hU]at hj;have h2:=hv _ u hj;have hlt2:=(aG.1 hj).1;have e:(cs.extract off (off+inf.size)).getD j undef=cs.getD (off+j) undef:=by rw[aD,aD,Array.getElem?_extract_of_lt oO,aP oO]
     rw[e];exact h2
    cases hj
   cases hp
  |false=>simp only[hrow,aO,if_false]at hp;have hlt:=(aG.1 hp).1;obtain⟨u,hg,hu⟩:∃u,cs[off]? =some u/\cs.getD off undef=u:=⟨cs[off]'oO,aP oO,by rw[aD,aP oO];rfl⟩;have h2:=hv off v hp;rw[hu]at h2;exact⟨u,by simp[part,hagg,hrow,hg],h2⟩
 cases ht
theorem aRV{s f off n:Nat}{ag:Bool}{x:Operand}{cells:List AVal}{v:AVal}(ho:o.op= .field s x f)(hf:fieldAt P s f=some (off,n,ag))(hx:ev x=some (.agg cells))
 (hp:gD ag n cells off=some v):OpOk P Γ o ev get k ⟨v,k,[],[]⟩:=by
 refine cE λ w G ρ H A a hr _ hop=>?_;have hvx:=hop x (by simp[ho,Op.operands]) _ hx;generalize hev:a.eval x=cv at hvx;unfold fieldAt at hf;split at hf
 .rename_i fields hu;split at hf
  .rename_i fl hfl;split at hf
   .rename_i ag' n' h1 h2;cases hf
    cases hvx with
    |agg hl hvs=>obtain⟨cv,hrun,hV⟩:=WP h1 h2 cells _ v hp _ hl hvs;exact⟨cv,by simp[execOp,ho,hev,Instr.field,underlying,hu,hfl,asAgg,hrun],hV⟩
   cases hf
  cases hf
 cases hf
theorem TO{t m s:Nat}{ag:Bool}{x y:Operand}{cells:List AVal}{v:AVal}{kk:IntKind}{i:Int}{e:TypeId}(ho:o.op= .index t x y)(hu:P.underlying t=some (.array m e))(ht:iS P e=some ag)(hs:oK P e=some s)
 (hx:ev x=some (.agg cells)) (hy:ev y=some (.lit (.int kk i))) (h0:0<=i) (h1:i<m) (hp:gD ag s cells (i.toNat*s)=some v):OpOk P Γ o ev get k ⟨v,k,[],[]⟩:=by
 refine cE λ w G ρ H A a hr _ hop=>?_;have hvx:=hop x (by simp[ho,Op.operands]) _ hx;have hvy:=gV (hop y (by simp[ho,Op.operands]) _ hy);generalize hev:a.eval x=cv at hvx
 cases hvx with
 |agg hl hvs=>obtain⟨cv,hrun,hV⟩:=WP ht hs cells _ v hp _ hl hvs;simp only[oK,aB]at hs;obtain⟨inf,hinf,rfl⟩:=hs;exact⟨cv,by simp[execOp,ho,hev,hvy,Instr.index,asIntOf,underlying,hu,h0,h1,sizeOf,typeInfo,hinf,hrun],hV⟩
theorem XP{f:FuncId}{caps:Array Operand}{vs:List AVal}(ho:o.op= .makeFunc (.func f) #[] caps)(hl:vs.length=caps.size)(hc:∀(j:Nat) x v,caps[j]? =some x->vs[j]? =some v->ev x=some v):
 OpOk P Γ o ev get k ⟨.fn f vs,k,[],[]⟩:=by
 refine cE λ w G ρ H A a hr _ hop=>⟨.func (.func f) #[] (caps.map a.eval),by simp[execOp,ho,Instr.makeFunc],.fn (by simpa using hl) λ j v hj=>?_⟩;have hlt:=(aG.1 hj).1;have hx:caps[j]? =some caps[j]:=aP oO;have e:(caps.map a.eval).getD j undef=a.eval caps[j]:=by rw[aD,Array.getElem?_map,hx];rfl
 rw[e];exact hop _ (by simp[ho,Op.operands,bGD hx]) v (hc j _ v hx hj)
end
def clean:AVal->Bool
 | .lit _=>true
 | .rd .. =>true
 | .rp _=>true
 | .junk=>true
 | .fn _ []=>true
 | .nn=>true
 |_=>false
def one:AVal->Bool
 | .lit v=>v.oneCell'
 | .junk=>false
 | .agg _=>false
 | .tup _=>false
 |_=>true
def uZ:AVal->Option (List AVal)
 | .agg cs=>some cs
 | .lit (.agg cs)=>some (cs.toList.map .lit)
 | .junk=>none
 | .tup _=>none
 |v=>some [v]
def oP(s n:Nat)(cells:List AVal):List (List AVal):=(aM n).map λ i=>(cells.drop (i*s)).take s
def AA(P:Program)(t:TypeId)(cells:List AVal):Blk:=
 match BT P t with
 |some (n,s)=>if 0<s/\cells.length=n*s then⟨s,cells.all clean,oP s n cells⟩else⟨cells.length,cells.all clean,[cells]⟩
 |none=>⟨cells.length,cells.all clean,[cells]⟩
def gS(P:Program)(t:TypeId):Option (List AVal):=((P.info? t).bind (·.zero)).map λ z=>z.cells.toList.map .lit
theorem FB{w:World}{G:Nat->Prop}{ρ:cM}{A:bU}{v:AVal}{cv:Value}(h:V w G ρ A v cv)(hc:clean v=true):V w G bR cF v cv:=by
 cases h with
 |junk=>exact .junk
 |lit=>exact .lit
 |rp g h1 h2 h3=>exact .rp g h1 h2 h3
 |nn=>exact .nn
 |rd0=>exact .rd0
 |rd g h1 h2 h3 h4 h5 h6=>exact .rd g h1 h2 h3 h4 h5 h6
 | fn h1 h2=>rename_i f caps cs;cases caps with
   |nil=>exact .fn h1 (λ j v hj=>by simp at hj)
   |cons=>simp[clean]at hc
 |_=>simp[clean]at hc
theorem aPG{w:World}{G:Nat->Prop}{ρ:cM}{A:bU}{v:AVal}{cv:Value}(h:V w G ρ A v cv)(hc:one v=true):cv.oneCell'=true:=by cases h<;>simp_all [one,Value.oneCell']
theorem FI{w:World}{G:Nat->Prop}{ρ:cM}{A:bU}{v:AVal}{cv:Value}{cs:List AVal}(h:V w G ρ A v cv)(hc:uZ v=some cs):
 cs.length=cv.cells.size/\∀(j:Nat) u,cs[j]? =some u->V w G ρ A u (cv.cells.getD j undef):=by
 have single:∀(x:Value),(∀ys,x≠ .agg ys)->x.cells= #[x]:=λ x hx=>by cases x<;>simp_all [Value.cells]
 cases h with
 |junk=>cases hc
 |tup h1 h2=>cases hc
 |agg h1 h2=>cases hc;exact⟨h1,h2⟩
 |lit=>
  cases cv with
  |agg ys=>
   cases hc;refine⟨by simp[Value.cells],λ j u hj=>?_⟩;simp only[aQ,aB]at hj;obtain⟨x,hx,rfl⟩:=hj;have:(Value.agg ys).cells.getD j undef=x:=by simp only[Value.cells];rw[aD,<-bA,hx];rfl
   rw[this];exact .lit
  |_=>
   cases hc;refine⟨rfl,λ j u hj=>?_⟩
   cases j with
   |zero=>cases hj;exact .lit
   |succ j=>simp at hj
 |dang h1 h2=>cases hc;exact⟨rfl,λ j u hj=>by cases j with|zero=>cases hj;exact .dang h1 h2|succ j=>simp at hj⟩
 |dangs h1 h2=>cases hc;exact⟨rfl,λ j u hj=>by cases j with|zero=>cases hj;exact .dangs h1 h2|succ j=>simp at hj⟩
 |ptr h1 h2 h3=>cases hc;exact⟨rfl,λ j u hj=>by cases j with|zero=>cases hj;exact .ptr h1 h2 h3|succ j=>simp at hj⟩
 |dangm h1 h2=>cases hc;exact⟨rfl,λ j u hj=>by cases j with|zero=>cases hj;exact .dangm h1 h2|succ j=>simp at hj⟩
 |mp h1 h2 h3=>cases hc;exact⟨rfl,λ j u hj=>by cases j with|zero=>cases hj;exact .mp h1 h2 h3|succ j=>simp at hj⟩
 |dangi h1 h2=>cases hc;exact⟨rfl,λ j u hj=>by cases j with|zero=>cases hj;exact .dangi h1 h2|succ j=>simp at hj⟩
 |it h1 h2 h3=>cases hc;exact⟨rfl,λ j u hj=>by cases j with|zero=>cases hj;exact .it h1 h2 h3|succ j=>simp at hj⟩
 |sl h1 h2 h3 h4 h5 h6 h7=>cases hc;exact⟨rfl,λ j u hj=>by cases j with|zero=>cases hj;exact .sl h1 h2 h3 h4 h5 h6 h7|succ j=>simp at hj⟩
 |sl0 h1 h2=>cases hc;exact⟨rfl,λ j u hj=>by cases j with|zero=>cases hj;exact .sl0 h1 h2|succ j=>simp at hj⟩
 |rp g h1 h2 h3=>cases hc;exact⟨rfl,λ j u hj=>by cases j with|zero=>cases hj;exact .rp g h1 h2 h3|succ j=>simp at hj⟩
 |rd0=>cases hc;exact⟨rfl,λ j u hj=>by cases j with|zero=>cases hj;exact .rd0|succ j=>simp at hj⟩
 |rd g h1 h2 h3 h4 h5 h6=>cases hc;exact⟨rfl,λ j u hj=>by cases j with|zero=>cases hj;exact .rd g h1 h2 h3 h4 h5 h6|succ j=>simp at hj⟩
 |fn h1 h2=>cases hc;exact⟨rfl,λ j u hj=>by cases j with|zero=>cases hj;exact .fn h1 h2|succ j=>simp at hj⟩
 |nn=>cases hc;exact⟨rfl,λ j u hj=>by cases j with|zero=>cases hj;exact .nn|succ j=>simp at hj⟩
 |dangc h1 h2=>cases hc;exact⟨rfl,λ j u hj=>by cases j with|zero=>cases hj;exact .dangc h1 h2|succ j=>simp at hj⟩
 |slc h1 h2 h3 h4 h5 h6 h7=>cases hc;exact⟨rfl,λ j u hj=>by cases j with|zero=>cases hj;exact .slc h1 h2 h3 h4 h5 h6 h7|succ j=>simp at hj⟩
 |bfn h1=>cases hc;exact⟨rfl,λ j u hj=>by cases j with|zero=>cases hj;exact .bfn h1|succ j=>simp at hj⟩
theorem NG{s n:Nat}{cells:List AVal}{r:Nat}{row:List AVal}(h:(oP s n cells)[r]? =some row):r<n/\row=(cells.drop (r*s)).take s:=by unfold oP at h;rw[aQ]at h;simp only[aB]at h;obtain⟨i,hi,rfl⟩:=h;obtain⟨hlt,he⟩:=aG.1 hi;simp at he hlt;subst he;exact⟨hlt,rfl⟩
theorem AO{s n:Nat}{cells:List AVal}{r c:Nat}{row:List AVal}{v:AVal}(h:(oP s n cells)[r]? =some row)(hc:row[c]? =some v):cells[r*s+c]? =some v:=by
 obtain⟨_,rfl⟩:=NG h;rw[lB]at hc;split at hc;.rw[hU]at hc;exact hc
 cases hc
theorem DH{s n:Nat}{cells:List AVal}(hl:cells.length=n*s){r:Nat}{row:List AVal}(h:(oP s n cells)[r]? =some row):row.length=s:=by obtain⟨hlt,rfl⟩:=NG h;have:(r+1)*s<=n*s:=dE s hlt;rw[cX]at this;simp;omega
def aEY(cells:List AVal)(B:Blk):Prop:=(∀(r:Nat) row,B.rows[r]? =some row->row.length=B.sz)/\∀(r:Nat) row (c:Nat) v,B.rows[r]? =some row->row[c]? =some v->cells[r*B.sz+c]? =some v
theorem HZ(P:Program)(t:TypeId)(cells:List AVal):aEY cells (AA P t cells)/\(AA P t cells).pure=cells.all clean:=by
 have one_row:aEY cells ⟨cells.length,cells.all clean,[cells]⟩:=by
  refine⟨λ r row h=>?_,λ r row c v h hc=>?_⟩
  .cases r with
   |zero=>cases h;rfl
   |succ r=>simp at h
  cases r with
  |zero=>cases h;simpa using hc
  |succ r=>simp at h
 unfold AA;split
 .split;.rename_i h;exact⟨⟨λ r row hr=>DH h.2 hr,λ r row c v hr hc=>AO hr hc⟩,rfl⟩
  exact⟨one_row,rfl⟩
 exact⟨one_row,rfl⟩
section
variable{P:Program}{Γ:List (Nat×List AVal)}{o:Oper}{ev:Operand->Option AVal}{get:Nat->Option Blk}{k:Nat}
theorem FO{B:Blk}{cells:List AVal}{v:AVal}{rds:List Nat}(hB:aEY cells B)(hp:B.pure=true->cells.all clean=true)
 (h:∀w G ρ H (A:bU) (a:Act),HRel Γ w G ρ H->(∀id,id∈rds->∃B A',get id=some B/\H id=some (B,A')/\∀i,A' i->A i)→
   (∀x,x∈o.op.operands->∀v,ev x=some v->V w G ρ A v (a.eval x))→
   ∃ (C:Array Value) (ty:TypeId) (w1:World) (cv:Value),(execOp a.eval o).run P w= .ok (.value cv) (w1.alloc (.cells C ty))/\w1.heap=w.heap/\w1.os=w.os/\w1.tape=w.tape/\w1.output=w.output∧
     (∀(j:Nat) u,cells[j]? =some u->∃cu,C[j]? =some cu/\V w G ρ A u cu)∧
     ((v= .ptr k 0 0/\cv= .pointer (some ⟨w.heap.size,0,none⟩))\/(∃n cap,v= .sl k 0 n/\cv= .slice (some ⟨w.heap.size,0,none⟩) n cap/\n<=cap/\cap<=maxLen/\cap*B.sz<=C.size))):
 OpOk P Γ o ev get k ⟨v,k+1,[(k,some B)],rds⟩:=by
 intro w G ρ H A a hr hA hf hrd hop next Q hn
 obtain⟨C,ty,w1,cv,hrun,hw,ho,ht,hou,hC,hv⟩:=h w G ρ H A a hr hrd hop;have hkA:¬A k:=λ hk=>tC _ (hA k hk);obtain⟨hρ,hfr⟩:=hf k (aF _) (dC _);unfold Oper.wp;rw[hrun]
 have hcon:∀r row c v,B.rows[r]? =some row->row[c]? =some v->∃cv,C[r*B.sz+c]? =some cv/\V w G (if B.pure then bR else ρ) (if B.pure then cF else A) v cv:=λ r row c v h1 h2=>by
  have h3:=hB.2 r row c v h1 h2;obtain⟨cu,h4,h5⟩:=hC _ v h3;refine⟨cu,h4,?_⟩;by_cases hpb:B.pure=true;.simp only[hpb,if_true];exact FB h5 (gP (hp hpb) h3)
  simp only[hpb];exact h5
 have hrel:=hr.alloc k hρ hfr B C ty A (λ i=>A i\/(k<=i/\i<k+1)) hkA (λ _ h=> .inl h) (.inr ⟨aF _,dC _⟩) hB.1 hcon w1 hw ho ht hou;have hst:=mS (w:=w) (G:=G) (ρ:=ρ) k B.sz (.cells C ty) w1 hw ho ht hou;refine hn _ G _ cv hrel ?_ ⟨hst.size,hst.keep,hst.shape,hst.g,hst.g',hst.own,λ id hid=>hst.ids id (λ he=>hid (oO:k<=id/\id<k+1)),hst.os,hst.tape,hst.output⟩;rcases hv with⟨rfl,rfl⟩|⟨n,cap,rfl,rfl,h1,h2,h3⟩
 .have:=V.ptr (w:=w1.alloc (.cells C ty)) (G:=G) (ρ:=dT ρ k (some (w.heap.size,B.sz))) (A:=λ i=>A i\/(k<=i/\i<k+1)) (id:=k) (r:=0) (c:=0) (b:=w.heap.size) (s:=B.sz) (.inr ⟨aF _,dC _⟩) (by simp[dT]) (ty:=ty) (m:=C.size) (by have:=iV w1 (.cells C ty);rw[hw]at this;simp[World.shape?,this])
  simpa using this
 refine .sl (b:=w.heap.size) (s:=B.sz) (ty:=ty) (m:=C.size) (.inr ⟨aF _,dC _⟩) (by simp[dT]) ?_ (by simpa using h3) h1 h2 (.inr (by simp));have:=iV w1 (.cells C ty);rw[hw]at this;simp[World.shape?,this]
theorem aUH{t:Nat}{cells:List AVal}(ho:o.op= .alloc t)(hz:gS P t=some cells):OpOk P Γ o ev get k ⟨.ptr k 0 0,k+1,[(k,some (AA P t cells))],[]⟩:=by
 have hb:=HZ P t cells;refine FO hb.1 (λ h=>hb.2▸h) λ w G ρ H A a hr _ hop=>?_;simp only[gS,aB,bX]at hz;obtain⟨z,⟨i,hi,hz⟩,rfl⟩:=hz;refine⟨z.cells,t,w,.pointer (some ⟨w.heap.size,0,none⟩),?_,rfl,rfl,rfl,rfl,λ j u hj=>?_,.inl ⟨rfl,rfl⟩⟩;.simp[execOp,ho,Instr.alloc,zeroValue,typeInfo,hi,hz,newVar,newRow]
 simp only[aQ,aB]at hj;obtain⟨x,hx,rfl⟩:=hj;exact⟨x,by rw[<-bA];exact hx,.lit⟩
theorem yJ{cs:Array Value}{j:Nat}(h:j<cs.size):cs[j]? =some (cs.getD j undef):=by rw[aD,aP h];rfl
theorem a5D{t:Nat}{x:Operand}{v:AVal}{cells:List AVal}(ho:o.op= .box t x)(hx:ev x=some v)(hc:uZ v=some cells):OpOk P Γ o ev get k ⟨.ptr k 0 0,k+1,[(k,some (AA P t cells))],[]⟩:=by
 have hb:=HZ P t cells;refine FO hb.1 (λ h=>hb.2▸h) λ w G ρ H A a hr _ hop=>?_;obtain⟨hl,hv⟩:=FI (hop x (by simp[ho,Op.operands]) v hx) hc;refine⟨(a.eval x).cells,t,w,.pointer (some ⟨w.heap.size,0,none⟩),?_,rfl,rfl,rfl,rfl,λ j u hj=>?_,.inl ⟨rfl,rfl⟩⟩;.simp[execOp,ho,Instr.box,newVar,newRow]
 have hlt:=(aG.1 hj).1;exact⟨_,yJ oO,hv j u hj⟩
def iB(P:Program)(t:TypeId):Option (Nat×Nat×List AVal):=
 match P.underlying t with
 | some (.slice e)=>match P.info? e with
   | some i=>match i.zero with
     |some z=>if z.cells.size=i.size/\0<i.size then some (i.size,i.bytes,z.cells.toList.map .lit)else none
     |none=>none
   |none=>none
 |_=>none
theorem CL{z:Array Value}{n s:Nat}(hs:z.size=s)(h0:0<s){r c:Nat}(hr:r<n)(hc:c<s):(madeCells z (n*s))[r*s+c]? =z[c]? :=by
 unfold madeCells;have hlt:r*s+c<n*s:=by have:(r+1)*s<=n*s:=dE s hr;rw[cX]at this;omega
 have hm:(r*s+c)%s=c:=by rw[bFX,Nat.add_mul_mod_self_right];exact HR hc
 rw[Array.getElem?_map,Array.getElem?_range,if_pos hlt];simp only[cB,hs,hm];rw[Array.getElem!_eq_getD,aD,aP oO];rfl
theorem aXF{t s by':Nat}{x y:Operand}{zrow:List AVal}{kl kc:IntKind}{l c:Int}(ho:o.op= .makeSlice t x y)(hz:iB P t=some (s,by',zrow))(hx:ev x=some (.lit (.int kl l)))(hy:ev y=some (.lit (.int kc c)))
 (h0:0<=l) (h1:l<=c) (h2:(by':Int)*c<=281474976710656) (h3:c<=9223372036854775807):
 OpOk P Γ o ev get k ⟨.sl k 0 l.toNat,k+1,[(k,some ⟨s,true,eI l.toNat zrow⟩)],[]⟩:=by
 unfold iB at hz;split at hz
 .rename_i e hu;split at hz
  .rename_i i hi;split at hz
   .rename_i z hzz;split at hz
    .rename_i hsz;cases hz
     have hlen:∀(r:Nat) row,(eI l.toNat (z.cells.toList.map AVal.lit))[r]? =some row->r<l.toNat/\row=z.cells.toList.map AVal.lit:=λ r row h=>by
      rw[a0T]at h;split at h;.cases h;exact⟨‹_›,rfl⟩
      cases h
     refine FO (cells:=(madeCells z.cells (c.toNat*i.size)).toList.map .lit) ⟨λ r row h=>by rw[(hlen r row h).2];simp[hsz.1],λ r row j v h hj=>?_⟩ (λ _=>by simp[clean]) λ w G ρ H A a hr _ hop=>?_
     .obtain⟨hr1,rfl⟩:=hlen r row h;rw[aQ]at hj⊢
      simp only[aB]at hj⊢
      obtain⟨u,hu1,rfl⟩:=hj;refine⟨u,?_,rfl⟩;have hjlt:j<i.size:=by have:=(aG.1 hu1).1;simp at this;omega
      rw[bA,CL hsz.1 hsz.2 oO hjlt,<-bA];exact hu1
     have hvx:=gV (hop x (by simp[ho,Op.operands]) _ hx);have hvy:=gV (hop y (by simp[ho,Op.operands]) _ hy);have hrun:=run_make (P:=P) w t e i z hu hi hzz kl kc l c h0 h1 h2 h3;refine⟨madeCells z.cells (c.toNat*i.size),e,w,.slice (some ⟨w.heap.size,0,none⟩) l.toNat c.toNat,by simp[execOp,ho,hvx,hvy,hrun],rfl,rfl,rfl,rfl,λ j u hj=>?_,.inr ⟨l.toNat,c.toNat,rfl,rfl,oO,by unfold maxLen;omega,by rw[size_madeCells];exact aF _⟩⟩;rw[aQ]at hj;simp only[aB]at hj;obtain⟨u',hu1,rfl⟩:=hj;exact⟨u',by rw[<-bA];exact hu1,.lit⟩
    cases hz
   cases hz
  cases hz
 cases hz
theorem BE{α:Type}{l vs:List α}{o:Nat}(h:o+vs.length<=l.length)(i:Nat):
 (l.take o++vs++l.drop (o+vs.length))[i]? =if i<o then l[i]? else if i<o+vs.length then vs[i-o]? else l[i]? :=by
 have ho:(l.take o).length=o:=by simp;omega
 by_cases h1:i<o;.rw[if_pos h1,bL,fU oO,lB,if_pos h1]
 rw[if_neg h1];by_cases h2:i<o+vs.length;.rw[if_pos h2,bL,gQ oO,ho,fU oO]
 rw[if_neg h2,gQ (by simp;omega),hU];congr 1;simp;omega
theorem aJG{sz r r' c c' n:Nat}(h1:c'<sz)(h2:c+n<=sz)(hne:r'≠r):r'*sz+c'<r*sz+c\/r*sz+c+n<=r'*sz+c':=by
 rcases Nat.lt_or_gt_of_ne hne with h|h;.left;have:(r'+1)*sz<=r*sz:=dE sz h;rw[cX]at this;omega
 right;have:(r+1)*sz<=r'*sz:=dE sz h;rw[cX]at this;omega
theorem tU{t b off n:Nat}{w:World}{C:Array Value}{ty:TypeId}(hC:w.heap[b]? =some (.cells C ty (0,0)))(hn:oK P t=some n)(v:Value)(hv:v.cells.size=n)(h1:∀u∈v.cells.toList,u.oneCell'=true)(hfit:off+n<=C.size):
 (Instr.storeAt t (.pointer (some ⟨b,off,none⟩)) v).run P w= .ok () (w.setRow b (C.toList.take off++v.cells.toList++C.toList.drop (off+v.cells.toList.length)).toArray):=by simp only[oK,aB]at hn;obtain⟨i,hi,rfl⟩:=hn;have:=run_storeCells_at (P:=P) b off ty v.cells.toList 0 C w hC (by simp;omega) h1;simp only[jX]at this;simp only[Instr.storeAt,Instr.sureAddr,storeVar,sizeOf,typeInfo,bO,dP,bI,run_program,hi,hv];simp[this]
def kZ(row vs:List AVal)(c:Nat):List AVal:=row.take c++vs++row.drop (c+vs.length)
theorem aNL{t n id r c:Nat}{x y:Operand}{B:Blk}{row cells:List AVal}{v:AVal}(ho:o.op= .store t x y)(hn:oK P t=some n)(hx:ev x=some (.ptr id r c))(hy:ev y=some v)(hc:uZ v=some cells)
 (hl:cells.length=n) (h1:cells.all one=true) (hB:get id=some B) (hrow:B.rows[r]? =some row) (hfit:c+n<=row.length):
 OpOk P Γ o ev get k ⟨.junk,k,[(id,some ⟨B.sz,B.pure&&cells.all clean,B.rows.set r (kZ row cells c)⟩)],[id]⟩:=by
 intro w G ρ H A a hr hA hf hrd hop next Q hn'
 have hvx:=hop x (by simp[ho,Op.operands]) _ hx;have hvy:=hop y (by simp[ho,Op.operands]) _ hy;obtain⟨B',A',h2,hH,hAA⟩:=hrd id (by simp);rw[hB]at h2;cases h2;obtain⟨hAid,b,hb,hg,hBR⟩:=hr.blk id B A' hH;have hlen:=hBR.len;obtain⟨hcl,hcv⟩:=FI hvy hc;have hrl:=hlen r row hrow;generalize hev:a.eval x=cv at hvx
 cases hvx with
 |dang _ hn=>rw[hb]at hn;cases hn
 |ptr ha hρ hsh=>
  rw[hb]at hρ;cases hρ;obtain⟨⟨C,ty,hC,hrows⟩,_⟩:=hBR.old hsh
  have hone:∀u∈(a.eval y).cells.toList,u.oneCell'=true:=λ u hu=>by
   obtain⟨j,hj⟩:=aAC hu;have hjl:=(aG.1 hj).1;have hjl':j<cells.length:=by simp at hjl;omega
   have h3:=hcv j _ (aE hjl');have e:(a.eval y).cells.getD j undef=u:=by rw[aD,<-bA,hj];rfl
   rw[e]at h3;exact aPG h3 (gP h1 (aE hjl'))
  have hsz:r*B.sz+row.length<=C.size:=by
   by_cases h0:row.length=0
   .have:0<row.length\/row.length=0:=oO
    cases hrw:row with
    |nil=>
     have:n=0:=by rw[hrw]at hfit;simp at hfit;omega
     rw[hrw]at hrl;simp at hrl;rw[<-hrl];simp
    |cons=>rw[hrw]at h0;simp at h0
   have hlast:row[row.length-1]? =some row[row.length-1]:=aE oO;obtain⟨cu,h4,_⟩:=hrows r row _ _ hrow hlast;have:=(cZ.1 h4).1;omega
  have hrun:=tU (P:=P) (off:=r*B.sz+c) hC hn (a.eval y) oO hone oO;unfold Oper.wp;have hrun':(execOp a.eval o).run P w= .ok .skip (w.setRow b (C.toList.take (r*B.sz+c)++(a.eval y).cells.toList++C.toList.drop (r*B.sz+c+(a.eval y).cells.toList.length)).toArray):=by simp only[execOp,ho,hev];simp[hrun]
  rw[hrun'];have hvl:(a.eval y).cells.toList.length=n:=by simp;omega
  have hseg:=BE (l:=C.toList) (vs:=(a.eval y).cells.toList) (o:=r*B.sz+c) (by simp;omega)
  have hrw:=vX hr hb id (.inl rfl) ⟨B.sz,B.pure&&cells.all clean,B.rows.set r (kZ row cells c)⟩ rfl
   (C.toList.take (r*B.sz+c)++(a.eval y).cells.toList++C.toList.drop (r*B.sz+c+(a.eval y).cells.toList.length)).toArray ty A (λ i=>A i\/(k<=i/\i<k)) (.inl rfl) (λ _ h=> .inl h) (.inl (hAA _ hAid))
   (w.setRow b (C.toList.take (r*B.sz+c)++(a.eval y).cells.toList++C.toList.drop (r*B.sz+c+(a.eval y).cells.toList.length)).toArray)
   (setRow_heap w b C _ ty _ hC) (λ j hj=>setRow_other w b j _ hj) (size_setRow _ _ _)
   (by unfold World.shape?;rw[setRow_heap w b C _ ty _ hC,hC];simp;omega)
   rfl rfl rfl ?_ ?_
  .obtain⟨hrel,hst⟩:=hrw
   have hnm:dT (dT ρ id none) id (some (b,B.sz))=ρ:=funext λ i=>by
    simp only[dT];split;.rename_i he;rw[he,hb]
    rfl
   rw[hnm]at hrel hst
   have hup:iR H (λ i=>A i\/(k<=i/\i<k)) [(id,some ⟨B.sz,B.pure&&cells.all clean,B.rows.set r (kZ row cells c)⟩),(id,none)]
    =iR H (λ i=>A i\/(k<=i/\i<k)) [(id,some ⟨B.sz,B.pure&&cells.all clean,B.rows.set r (kZ row cells c)⟩)]:=funext λ i=>by
    simp only[iR];split<;>rfl
   rw[hup]at hrel;exact hn' _ G ρ undef hrel .junk ⟨hst.size,hst.keep,hst.shape,hst.g,hst.g',hst.own,λ i hi=>hst.ids i (.inr rfl),hst.os,hst.tape,hst.output⟩
  .intro r' row' h;simp only[fY]at h;split at h
   .split at h;.cases h;show(kZ row cells c).length=B.sz;unfold kZ;simp;omega
    cases h
   exact hlen r' row' h
  intro r' row' c' v' h hv';change (B.rows.set r (kZ row cells c))[r']? =some row' at h
  show ∃cv,(C.toList.take (r*B.sz+c)++(a.eval y).cells.toList++C.toList.drop (r*B.sz+c+(a.eval y).cells.toList.length)).toArray[r'*B.sz+c']? =some cv∧
   V w G (if(B.pure&&cells.all clean)then bR else ρ) (if(B.pure&&cells.all clean)then cF else A) v' cv
  have hc'lt:=(aG.1 hv').1
  have tovb:∀u cu,V w G (if B.pure then bR else ρ) (if B.pure then cF else A') u cu->V w G (if(B.pure&&cells.all clean)then bR else ρ) (if(B.pure&&cells.all clean)then cF else A) u cu:=λ u cu hu=>by
   by_cases hp:B.pure=true
   .simp only[hp,if_true]at hu;by_cases hq:cells.all clean=true;.simp only[hp,hq,a0W,if_true];exact hu
    simp only[hq,qP,aO,if_false];exact hu.weaken
   have hp':B.pure=false:=by simpa using hp
   simp only[hp',kD,aO,if_false]at hu⊢
   exact hu.mono (λ _ h=>h) (λ _ _=>rfl) (λ _ _=>rfl) hAA (λ _ _=> .inr rfl)
  simp only[fY]at h;rw[cH,hseg];split at h
  .rename_i hre;subst hre;split at h
   .cases h;unfold kZ at hv';have hs2:=BE (l:=row) (vs:=cells) (o:=c) oO c';rw[hs2]at hv';by_cases h3:c'<c;.rw[if_pos h3]at hv';rw[if_pos oO];obtain⟨cu,h4,h5⟩:=hrows r row c' v' hrow hv';exact⟨cu,by rw[bA];exact h4,tovb _ _ h5⟩
    rw[if_neg h3]at hv';by_cases h4:c'<c+cells.length
    .rw[if_pos h4]at hv';rw[if_neg oO,if_pos oO];have e:r*B.sz+c'-(r*B.sz+c)=c'-c:=oO;rw[e];refine⟨(a.eval y).cells.getD (c'-c) undef,?_,?_⟩;.rw[bA];exact yJ oO
     have h6:=hcv _ _ hv';by_cases hq:(B.pure&&cells.all clean)=true;.simp only[hq,if_true];simp only[aC]at hq;exact FB h6 (gP hq.2 hv')
     simp only[hq];exact h6
    rw[if_neg h4]at hv';rw[if_neg oO,if_neg oO];obtain⟨cu,h5,h6⟩:=hrows r row c' v' hrow hv';exact⟨cu,by rw[bA];exact h5,tovb _ _ h6⟩
   cases h
  rename_i hre;obtain⟨cu,h5,h6⟩:=hrows r' row' c' v' h hv';have hl':=hlen r' row' h;have hap:=aJG (sz:=B.sz) (r:=r) (r':=r') (c:=c) (c':=c') (n:=n) oO oO (λ e=>hre e.symm);refine⟨cu,?_,tovb _ _ h6⟩;rcases hap with h7|h7;.rw[if_pos h7,bA];exact h5
  rw[if_neg oO,if_neg oO,bA];exact h5
theorem AI{s:Nat}:∀ {rows:List (List AVal)},(∀(r:Nat) row,rows[r]? =some row->row.length=s)->∀(j:Nat) u,rows.flatten[j]? =some u->∃r row c,rows[r]? =some row/\row[c]? =some u/\j=r*s+c
 |[],_,j,u,h=>by simp at h
 |x::rest,hl,j,u,h=>by
  rw[List.flatten_cons,kY]at h;split at h;.exact⟨0,x,j,rfl,h,oO⟩
  rename_i hj;have hx:x.length=s:=hl 0 x rfl;obtain⟨r,row,c,h1,h2,h3⟩:=AI (rows:=rest) (λ r row hr=>hl (r+1) row (by simpa using hr)) (j-x.length) u h;refine⟨r+1,row,c,by simpa using h1,h2,?_⟩;rw[cX];omega
theorem XT{t n id:Nat}{x:Operand}{B:Blk}{ag:Bool}{v:AVal}(ho:o.op= .load t x)(ht:iS P t=some ag)(hn:oK P t=some n)(hx:ev x=some (.ptr id 0 0))
 (hB:get id=some B) (hp:gD ag n B.rows.flatten 0=some v):OpOk P Γ o ev get k ⟨v,k,[],[id]⟩:=by
 refine cE λ w G ρ H A a hr hrd hop=>?_;have hvx:=hop x (by simp[ho,Op.operands]) _ hx;obtain⟨B',A',h2,hH,hAA⟩:=hrd id (by simp);rw[hB]at h2;cases h2;obtain⟨_,b,hb,_,hBR⟩:=hr.blk id B A' hH;generalize hev:a.eval x=cv at hvx
 cases hvx with
 |dang _ hn=>rw[hb]at hn;cases hn
 |ptr ha hρ hsh=>
  rw[hb]at hρ;cases hρ;obtain⟨⟨C,ty,hC,hrows⟩,hlen⟩:=hBR.old hsh;have hcell:∀(j:Nat) u,B.rows.flatten[j]? =some u->w.cell? ⟨b,0*B.sz+j,none⟩=some (C.getD (0*B.sz+j) undef):=λ j u hj=>by obtain⟨r,row,c,h3,h4,rfl⟩:=AI hlen j u hj;obtain⟨cv,h5,_⟩:=hrows r row c u h3 h4;rw[tM,dV,cell_of_row w b _ C ty (0,0) hC,h5,aD,h5];rfl
  have hval:∀(j:Nat) u,B.rows.flatten[j]? =some u->V w G ρ A u (C.getD (0*B.sz+j) undef):=λ j u hj=>by
   obtain⟨r,row,c,h3,h4,rfl⟩:=AI hlen j u hj;obtain⟨cv,h5,h6⟩:=hrows r row c u h3 h4;rw[tM,dV,aD,h5];by_cases hp:B.pure=true;.simp only[hp,if_true]at h6;exact h6.weaken
   simp only[hp]at h6;exact h6.mono (λ _ h=>h) (λ _ _=>rfl) (λ _ _=>rfl) hAA (λ _ _=> .inr rfl)
  obtain⟨cv,hrun,hV⟩:=xC (P:=P) ht hn hp (λ j=>C.getD (0*B.sz+j) undef) hcell hval;rw[tM,dV]at hrun hev;exact⟨cv,by simp only[execOp,ho,hev];simp[hrun],hV⟩
theorem SN{t n id:Nat}{x y:Operand}{B:Blk}{cells:List AVal}{v:AVal}(ho:o.op= .store t x y)(hn:oK P t=some n)(hx:ev x=some (.ptr id 0 0))(hy:ev y=some v)(hc:uZ v=some cells)
 (hl:cells.length=n) (h1:cells.all one=true) (hB:get id=some B) (hsz0:0<B.sz) (hfit:n=B.rows.length*B.sz):
 OpOk P Γ o ev get k ⟨.junk,k,[(id,some ⟨B.sz,cells.all clean,oP B.sz B.rows.length cells⟩)],[id]⟩:=by
 intro w G ρ H A a hr hA hf hrd hop next Q hn'
 have hvx:=hop x (by simp[ho,Op.operands]) _ hx;have hvy:=hop y (by simp[ho,Op.operands]) _ hy;obtain⟨B',A',h2,hH,hAA⟩:=hrd id (by simp);rw[hB]at h2;cases h2;obtain⟨hAid,b,hb,hg,hBR⟩:=hr.blk id B A' hH;have hlen:=hBR.len;obtain⟨hcl,hcv⟩:=FI hvy hc;generalize hev:a.eval x=cv at hvx
 cases hvx with
 |dang _ hn=>rw[hb]at hn;cases hn
 |ptr ha hρ hsh=>
  rw[hb]at hρ;cases hρ;obtain⟨⟨C,ty,hC,hrows⟩,_⟩:=hBR.old hsh
  have hone:∀u∈(a.eval y).cells.toList,u.oneCell'=true:=λ u hu=>by
   obtain⟨j,hj⟩:=aAC hu;have hjl:=(aG.1 hj).1;have hjl':j<cells.length:=by simp at hjl;omega
   have h3:=hcv j _ (aE hjl');have e:(a.eval y).cells.getD j undef=u:=by rw[aD,<-bA,hj];rfl
   rw[e]at h3;exact aPG h3 (gP h1 (aE hjl'))
  have hsz:n<=C.size:=by
   cases hR:B.rows.length with
   |zero=>rw[hR]at hfit;simp at hfit;omega
   |succ q=>have hrow:B.rows[q]? =some (B.rows[q]'oO):=aE oO;have hrl:=hlen q _ hrow;have hlast:(B.rows[q]'oO)[B.sz-1]? =some ((B.rows[q]'oO)[B.sz-1]'oO):=aE oO;obtain⟨cu,h4,_⟩:=hrows q _ _ _ hrow hlast;have:=(cZ.1 h4).1;rw[hfit,hR,cX];omega
  have hrun:=tU (P:=P) (off:=0*B.sz+0) hC hn (a.eval y) oO hone oO;simp only[tM,dV]at hrun;unfold Oper.wp;have hrun':(execOp a.eval o).run P w= .ok .skip (w.setRow b (C.toList.take 0++(a.eval y).cells.toList++C.toList.drop (0+(a.eval y).cells.toList.length)).toArray):=by simp only[execOp,ho,hev,tM,dV,jX];simp at hrun;simp[hrun]
  rw[hrun'];have hvl:(a.eval y).cells.toList.length=n:=by simp;omega
  have hseg:=BE (l:=C.toList) (vs:=(a.eval y).cells.toList) (o:=0) (by simp;omega)
  have hrw:=vX hr hb id (.inl rfl) ⟨B.sz,cells.all clean,oP B.sz B.rows.length cells⟩ rfl
   (C.toList.take 0++(a.eval y).cells.toList++C.toList.drop (0+(a.eval y).cells.toList.length)).toArray ty A (λ i=>A i\/(k<=i/\i<k)) (.inl rfl) (λ _ h=> .inl h) (.inl (hAA _ hAid))
   (w.setRow b (C.toList.take 0++(a.eval y).cells.toList++C.toList.drop (0+(a.eval y).cells.toList.length)).toArray)
   (setRow_heap w b C _ ty _ hC) (λ j hj=>setRow_other w b j _ hj) (size_setRow _ _ _)
   (by unfold World.shape?;rw[setRow_heap w b C _ ty _ hC,hC];simp;omega)
   rfl rfl rfl ?_ ?_
  .obtain⟨hrel,hst⟩:=hrw
   have hnm:dT (dT ρ id none) id (some (b,B.sz))=ρ:=funext λ i=>by
    simp only[dT];split;.rename_i he;rw[he,hb]
    rfl
   rw[hnm]at hrel hst
   have hup:iR H (λ i=>A i\/(k<=i/\i<k)) [(id,some ⟨B.sz,cells.all clean,oP B.sz B.rows.length cells⟩),(id,none)]
    =iR H (λ i=>A i\/(k<=i/\i<k)) [(id,some ⟨B.sz,cells.all clean,oP B.sz B.rows.length cells⟩)]:=funext λ i=>by
    simp only[iR];split<;>rfl
   rw[hup]at hrel;exact hn' _ G ρ undef hrel .junk ⟨hst.size,hst.keep,hst.shape,hst.g,hst.g',hst.own,λ i hi=>hst.ids i (.inr rfl),hst.os,hst.tape,hst.output⟩
  .intro r' row' h;exact DH (by rw[hl];exact hfit) h
  intro r' row' c' v' h hv';change (oP B.sz B.rows.length cells)[r']? =some row' at h
  show ∃cv,(C.toList.take 0++(a.eval y).cells.toList++C.toList.drop (0+(a.eval y).cells.toList.length)).toArray[r'*B.sz+c']? =some cv∧
   V w G (if(cells.all clean)then bR else ρ) (if(cells.all clean)then cF else A) v' cv
  have h6:=AO h hv';have hlt:=(aG.1 h6).1;rw[cH,hseg,if_neg oO,if_pos oO,bFW];refine⟨(a.eval y).cells.getD (r'*B.sz+c') undef,?_,?_⟩;.rw[bA];exact yJ oO
  have h7:=hcv _ _ h6;by_cases hq:cells.all clean=true;.simp only[hq,if_true];exact FB h7 (gP hq h6)
  simp only[hq];exact h7
end
def VL(w:World)(G:Nat->Prop)(ρ:cM)(A:bU)(cells:List AVal)(cs:Array Value):Prop:=
 cells.length=cs.size/\∀(j:Nat) v,cells[j]? =some v->V w G ρ A v (cs.getD j undef)
def CM(place:Nat->Option (Nat×Nat))(cells:List AVal):List (Nat×AVal)->Option (List AVal)
 |[]=>some cells
 | (i,v)::rest=>match place i,uZ v with
   |some (off,size),some vs=>if vs.length=size/\off+size<=cells.length then CM place (kZ cells vs off) rest else none
   |_,_=>none
theorem YK(off:Nat):∀(l:List Value) (start:Nat) (cs:Array Value),
 ((l.zipIdx start).foldl (λ(cs:Array Value) (x:Value×Nat)=>cs.setIfInBounds (off+x.2) x.1) cs).size=cs.size∧
 ∀ i,((l.zipIdx start).foldl (λ(cs:Array Value) (x:Value×Nat)=>cs.setIfInBounds (off+x.2) x.1) cs)[i]? =
   if off+start<=i/\i<off+start+l.length/\i<cs.size then l[i-off-start]? else cs[i]?
 |[],start,cs=>by refine⟨rfl,λ i=>?_⟩;rw[if_neg (by simp;omega)];rfl
 |x::r,start,cs=>by
  obtain⟨h1,h2⟩:=YK off r (start+1) (cs.setIfInBounds (off+start) x);simp only[List.zipIdx_cons,List.foldl_cons];refine⟨by rw[h1];simp,λ i=>?_⟩;rw[h2];by_cases hi:i=off+start
  .subst hi;rw[if_neg oO];by_cases hs:off+start<cs.size;.rw[if_pos ⟨oO,by simp,hs⟩,qV hs];have:off+start-off-start=0:=oO;rw[this];rfl
   rw[if_neg oO,gH (by simp;omega),gH oO]
  rw[kR (λ e=>hi e.symm)];by_cases hc:off+start<=i/\i<off+start+(x::r).length/\i<cs.size;.rw[if_pos hc,if_pos ⟨oO,by simp at hc;omega,by simp;omega⟩];have e:i-off-start=(i-off-(start+1))+1:=oO;rw[e,eW]
  rw[if_neg hc,if_neg (by simp at hc⊢;omega)]
theorem TY{w:World}{G:Nat->Prop}{ρ:cM}{A:bU}(place:Nat->Option (Nat×Nat)):∀(parts:List (Nat×AVal)) (cparts:List (Nat×Value)) (cells cells':List AVal) (cs:Array Value),VL w G ρ A cells cs→
 parts.length=cparts.length->(∀(j:Nat) p cp,parts[j]? =some p->cparts[j]? =some cp->p.1=cp.1/\V w G ρ A p.2 cp.2)->CM place cells parts=some cells'→
 ∃cs',Instr.fill place cs cparts=some cs'/\VL w G ρ A cells' cs'
 |[],cparts,cells,cells',cs,hv,hl,hp,hf=>by
  cases cparts with
  |nil=>cases hf;exact⟨cs,rfl,hv⟩
  |cons=>simp at hl
 |(i,v)::rest,cparts,cells,cells',cs,hv,hl,hp,hf=>by
  cases cparts with
  |nil=>simp at hl
  |cons cp crest=>
   obtain⟨i',cv⟩:=cp;obtain⟨he,hV⟩:=hp 0 _ _ rfl rfl;simp only at he hV;subst he;simp only[CM]at hf;split at hf
   .rename_i off size vs h1 h2;split at hf
    .rename_i hc;obtain⟨h3,h4⟩:=FI hV h2;have hfold:=YK off cv.cells.toList 0 cs;simp only[jX,bFW]at hfold
     have hvl:VL w G ρ A (kZ cells vs off) (cv.cells.zipIdx.foldl (λ(cs:Array Value) (x:Value×Nat)=>cs.setIfInBounds (off+x.2) x.1) cs):=by
      rw[<-Array.foldl_toList,Array.toList_zipIdx];refine⟨by rw[hfold.1,<-hv.1];unfold kZ;simp;omega,λ j u hj=>?_⟩;unfold kZ at hj;rw[BE oO]at hj;rw[aD,hfold.2];by_cases h5:j<off;.rw[if_pos h5]at hj;rw[if_neg oO,<-aD];exact hv.2 j u hj
      rw[if_neg h5]at hj;by_cases h6:j<off+vs.length;.rw[if_pos h6]at hj;rw[if_pos ⟨oO,by simp;omega,by rw[<-hv.1];omega⟩,bA,<-aD];exact h4 _ u hj
      rw[if_neg h6]at hj;rw[if_neg (by simp;omega),<-aD];exact hv.2 j u hj
     obtain⟨cs',h5,h6⟩:=TY place rest crest _ cells' _ hvl (by simpa using hl) (λ j p cp hj hcj=>hp (j+1) p cp (by simpa using hj) (by simpa using hcj)) hf;refine⟨cs',?_,h6⟩;simp only[Instr.fill,h1];rw[if_neg (by simp;rw[<-hv.1];omega)];exact h5
    cases hf
   cases hf
def mL(ev:Operand->Option AVal):List (Nat×Operand)->Option (List (Nat×AVal))
 |[]=>some []
 | (i,x)::r=>match ev x,mL ev r with
   |some v,some vs=>some ((i,v)::vs)
   |_,_=>none
theorem EU{ev:Operand->Option AVal}:∀ {ps:List (Nat×Operand)} {vs:List (Nat×AVal)},mL ev ps=some vs->vs.length=ps.length/\∀(j:Nat) v p,vs[j]? =some v->ps[j]? =some p->v.1=p.1/\ev p.2=some v.2
 |[],vs,h=>by cases h;exact⟨rfl,λ j v p hv=>by simp at hv⟩
 |(i,x)::r,vs,h=>by
  simp only[mL]at h;split at h
  .rename_i v vs' h1 h2;cases h;obtain⟨h3,h4⟩:=EU h2;refine⟨by simp[h3],λ j u p hu hp=>?_⟩
   cases j with
   |zero=>cases hu;cases hp;exact⟨rfl,h1⟩
   |succ j=>exact h4 j u p (by simpa using hu) (by simpa using hp)
  cases h
def gT(P:Program)(t:TypeId):Option (Array (Nat×Nat)):=
 match P.underlying t with
 |some (.struct fields)=>JH P (fields.mapM λ f=>do pure (f.offset,<-sizeOf f.type))
 |some (.array n e)=>(oK P e).map λ s=>(Array.range n).map λ i=>(i*s,s)
 |_=>none
section
variable{P:Program}{Γ:List (Nat×List AVal)}{o:Oper}{ev:Operand->Option AVal}{get:Nat->Option Blk}{k:Nat}
theorem HT{t:Nat}{cells:List AVal}(h:gS P t=some cells):∃i z,P.info? t=some i/\i.zero=some z/\cells=z.cells.toList.map .lit:=by simp only[gS,aB,bX]at h;obtain⟨z,⟨i,hi,hz⟩,rfl⟩:=h;exact⟨i,z,hi,hz,rfl⟩
theorem VJ{w:World}{G:Nat->Prop}{ρ:cM}{A:bU}(cs:Array Value):VL w G ρ A (cs.toList.map .lit) cs:=by
 refine⟨by simp,λ j u hj=>?_⟩;simp only[aQ,aB]at hj;obtain⟨x,hx,rfl⟩:=hj;have:cs.getD j undef=x:=by rw[aD,<-bA,hx];rfl
 rw[this];exact .lit
theorem TA{w:World}{G:Nat->Prop}{ρ:cM}{A:bU}{a:Act}{parts:Array (Nat×Operand)}{vs:List (Nat×AVal)}(he:mL ev parts.toList=some vs)
 (hop:∀x,x∈(parts.toList.map (·.2)).toArray->∀v,ev x=some v->V w G ρ A v (a.eval x)):
 vs.length=(parts.map λ(p:Nat×Operand)=>(p.1,a.eval p.2)).toList.length/\∀(j:Nat) p cp,vs[j]? =some p->(parts.map λ(p:Nat×Operand)=>(p.1,a.eval p.2)).toList[j]? =some cp->p.1=cp.1/\V w G ρ A p.2 cp.2:=by obtain⟨h1,h2⟩:=EU he;refine⟨by simp[h1],λ j p cp hp hcp=>?_⟩;simp only[Array.toList_map,aQ,aB]at hcp;obtain⟨q,hq,rfl⟩:=hcp;obtain⟨h3,h4⟩:=h2 j p q hp hq;exact⟨h3,hop q.2 (by simp only[List.mem_toArray,cL];exact⟨q,jC hq,rfl⟩) _ h4⟩
theorem aTK{t:Nat}{parts:Array (Nat×Operand)}{vs:List (Nat×AVal)}{cells cells':List AVal}{pl:Array (Nat×Nat)}(ho:o.op= .build t parts)(hz:gS P t=some cells)(hpl:gT P t=some pl)
 (hs:∃fields,P.underlying t=some (.struct fields)) (he:mL ev parts.toList=some vs) (hf:CM (pl[·]?) cells vs=some cells'):OpOk P Γ o ev get k ⟨.agg cells',k,[],[]⟩:=by refine cE λ w G ρ H A a hr _ hop=>?_;obtain⟨i,z,hi,hzz,rfl⟩:=HT hz;obtain⟨fields,hu⟩:=hs;simp only[gT,hu]at hpl;have hpl':=WX P w _ _ hpl;obtain⟨h1,h2⟩:=TA (w:=w) (G:=G) (ρ:=ρ) (A:=A) (a:=a) he (λ x hx v hv=>hop x (by simpa [ho,Op.operands]using hx) v hv);obtain⟨cs',h3,h4⟩:=TY (pl[·]?) vs _ _ cells' z.cells (VJ z.cells) h1 h2 hf;refine⟨.agg cs',?_,.agg h4.1 h4.2⟩;simp only[execOp,ho,Instr.build,zeroValue,typeInfo,bO,run_program,bI,hi,dP,hzz,underlying,hu,hpl',h3]
theorem UX{t n e s:Nat}{parts:Array (Nat×Operand)}{vs:List (Nat×AVal)}{cells cells':List AVal}(ho:o.op= .build t parts)(hz:gS P t=some cells)(hu:P.underlying t=some (.array n e))
 (hs:oK P e=some s) (he:mL ev parts.toList=some vs) (hf:CM (λ i=>some (i*s,s)) cells vs=some cells'):OpOk P Γ o ev get k ⟨.agg cells',k,[],[]⟩:=by refine cE λ w G ρ H A a hr _ hop=>?_;obtain⟨i,z,hi,hzz,rfl⟩:=HT hz;simp only[oK,aB]at hs;obtain⟨inf,hinf,rfl⟩:=hs;obtain⟨h1,h2⟩:=TA (w:=w) (G:=G) (ρ:=ρ) (A:=A) (a:=a) he (λ x hx v hv=>hop x (by simpa [ho,Op.operands]using hx) v hv);obtain⟨cs',h3,h4⟩:=TY (λ i=>some (i*inf.size,inf.size)) vs _ _ cells' z.cells (VJ z.cells) h1 h2 hf;refine⟨.agg cs',?_,.agg h4.1 h4.2⟩;simp only[execOp,ho,Instr.build,zeroValue,typeInfo,bO,run_program,bI,hi,dP,hzz,underlying,hu,sizeOf,hinf,h3]
theorem OY{t len s by':Nat}{parts:Array (Nat×Operand)}{vs:List (Nat×AVal)}{zrow cells':List AVal}(ho:o.op= .buildSlice t len parts)(hz:iB P t=some (s,by',zrow))
 (hsmall:len*s<=16777216) (he:mL ev parts.toList=some vs) (hf:CM (λ i=>some (i*s,s)) (eI len zrow).flatten vs=some cells') (hlen:cells'.length=len*s):
 OpOk P Γ o ev get k ⟨.sl k 0 len,k+1,[(k,some ⟨s,cells'.all clean,oP s len cells'⟩)],[]⟩:=by
 refine FO (cells:=cells') ⟨λ r row hr=>DH hlen hr,λ r row c v hr hc=>AO hr hc⟩ (λ h=>h) λ w G ρ H A a hr _ hop=>?_;unfold iB at hz;split at hz
 .rename_i e hu;split at hz
  .rename_i i hi;split at hz
   .rename_i z hzz;split at hz
    .rename_i hsz;cases hz;obtain⟨h1,h2⟩:=TA (w:=w) (G:=G) (ρ:=ρ) (A:=A) (a:=a) he (λ x hx v hv=>hop x (by simpa [ho,Op.operands]using hx) v hv)
     have hmade:(madeCells z.cells (len*i.size)).toList.map AVal.lit=(eI len (z.cells.toList.map AVal.lit)).flatten:=by
      apply kP;intro j;by_cases hj:j<len*i.size
      .have hc:j%i.size<i.size:=Nat.mod_lt _ hsz.2;have hr':j/i.size<len:=ZZ (by rw[jW];exact hj);have e0:j=(j/i.size)*i.size+j%i.size:=by have:=Nat.div_add_mod j i.size;rw[jW]at this;omega
       rw[aQ,bA];have e1:=CL (n:=len) hsz.1 hsz.2 hr' hc;rw[<-e0]at e1;rw[e1]
       have:∀(m:Nat) (row:List AVal) (r c:Nat),c<row.length->r<m->(eI m row).flatten[r*row.length+c]? =row[c]? :=by
        intro m
        induction m with
        |zero=>intro row r c _ h;omega
        |succ m ih=>
         intro row r c hc' hr'';rw[List.replicate_succ,List.flatten_cons]
         cases r with
         |zero=>rw[fU oO];simp
         |succ r=>
          rw[gQ (by rw[cX];omega)];have:(r+1)*row.length+c-row.length=r*row.length+c:=by rw[cX];omega
          rw[this];exact ih row r c hc' oO
       have e2:=this len (z.cells.toList.map AVal.lit) (j/i.size) (j%i.size) (by simp[hsz.1];exact hc) hr';simp only[bP,vM,hsz.1]at e2;rw[<-e0]at e2;rw[e2,aQ,bA]
      rw[cI (by simp[size_madeCells];omega),cI (by simp[hsz.1];omega)]
     obtain⟨cs',h3,h4⟩:=TY (λ j=>some (j*i.size,i.size)) vs _ _ cells' (madeCells z.cells (len*i.size)) (by rw[<-hmade];exact VJ _) h1 h2 hf;have hsm:¬(len*i.size>2^24):=oO;refine⟨cs',e,w,.slice (some ⟨w.heap.size,0,none⟩) len len,?_,rfl,rfl,rfl,rfl,λ j u hj=>?_,.inr ⟨len,len,rfl,rfl,aF _,?_,by rw[<-h4.1,hlen];exact aF _⟩⟩
     .by_cases h0:len*i.size=0
      .have hm0:madeCells z.cells (len*i.size)=(Array.range (len*i.size)).map ((#[]:Array Value)[· %0]!):=by rw[h0];simp[madeCells]
       rw[hm0]at h3;simp[execOp,ho,Instr.buildSlice,underlying,hu,sizeOf,typeInfo,hi,h0,newRow]at h3⊢
       rw[h3];simp
      simp[execOp,ho,Instr.buildSlice,underlying,hu,sizeOf,typeInfo,hi,hsm,h0,zeroValue,hzz,newRow,madeCells]at h3⊢
      rw[h3];simp
     .have hlt:=(aG.1 hj).1;exact⟨_,yJ (by rw[<-h4.1];exact hlt),h4.2 j u hj⟩
     have:len*1<=len*i.size:=Nat.mul_le_mul_left len hsz.2;unfold maxLen;omega
    cases hz
   cases hz
  cases hz
 cases hz
end
end Go.AM
end
