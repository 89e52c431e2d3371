import Derived.Test.YteimiejbhhgljaaGreatDoorZAG
import Derived.Shelf.SlSortCmp.WholeK
import Derived.WalkKit
import Derived.KernelRfl
import Derived.Shelf.SlSortCmp.NoneTotal
import Derived.RangeFuncRecord
import Derived.TacticsIn
import Derived.BigFrameIn
set_option linter.unusedVariables false
set_option linter.defProp false
set_option linter.unusedSimpArgs false
set_option maxHeartbeats 0
set_option maxRecDepth 100000
open Go.AM.AVal renaming lit->aD
open Array renaming eq_empty_of_size_eq_zero->kH,ext->aJX,ext'->bJL,getElem?_eq_getElem->aW,getElem?_eq_none->iS,getElem?_eq_some_iff->dK,getElem?_modify->TV,replicate_succ->bWJ,replicate_zero->bWI
open Bool renaming and_eq_true->aO,eq_iff_iff->eY,false->aF,false_eq_true->bP,not_eq_true->bVK,not_eq_true'->dV,true->aB,true_and->lZ
open Int renaming eq_ofNat_of_zero_le->JM,fdiv_eq_ediv_of_nonneg->fG,natCast_nonneg->tC,toNat_natCast->bW
open Go.IntKind renaming i64->aH,u64->aI
open List renaming Pairwise->vH,Perm->iF,append_assoc->dA,append_eq_nil_iff->bEH,append_nil->cX,cons_append->bA,eq_nil_of_length_eq_zero->jE,getD->oZ,getD_eq_getElem?_getD->aU,getElem?_eq_getElem->aN,getElem?_eq_none->bE,getElem?_eq_some_iff->aL,getElem?_map->aV,getElem_mem->zY,length_append->bT,length_cons->iI,length_map->dG,length_nil->FM,map->tB,map_append->aQ,map_cons->bN,map_map->kT,map_nil->bV,mem_append->dJ,nil_append->aZ,pairwise_append->bWF,pairwise_iff_getElem->CI,range->aR,size_toArray->fE
open Nat renaming add_assoc->gM,add_sub_cancel->a7O,add_sub_cancel_left->kJ,add_zero->kG,le_refl->aJ,le_trans->pL,lt_of_lt_of_le->oW,mod_eq_of_lt->LC,mul_one->JK,not_lt_zero->bU,pos_of_ne_zero->OP,reduceAdd->aAC,sub_self->TT,sub_zero->vN,zero_add->eQ,zero_le->bF,zero_mul->rT
open Option renaming isSome_none->sZ,map_eq_none_iff->dL,map_some->bO,none->aC,some->aA
open Or renaming inl->dE,inr->dP
open Go.Proofs.Tryz renaming prog->aG
open Go.Value renaming int->aE,slice->aP
section
namespace Go.AM
open Go.Sort Go.Proofs
section
variable{Γ:dW}{w w':World}{G G':Nat->Prop}{ρ ρ':dH}{H:mP}
def JW(S:cF)(os:Array Obj):Step S w G ρ (grow w os) G ρ:=
 ⟨by rw[size_grow];omega,λ b hb _=>heap_grow_old w os hb,λ b hb=>shp_of (heap_grow_old w os hb),λ _ h=>h,λ _ h=>dE h,λ _ h=>dE h,λ _ _=>dP rfl,rfl,rfl,rfl⟩
def HRel.grow (h:HRel Γ w G ρ H)(os:Array Obj):HRel Γ (grow w os) G ρ H:=
 h.after (JW (λ _=>True) os) H h.dom (λ id B A hH=>by obtain⟨hA,b,hb,hg,_⟩:=h.blk id B A hH;exact⟨hA,dE ⟨A,b,hH,λ _ h=>h,λ _ _=>trivial,rfl,hb,heap_grow_old w os (h.owned_lt ⟨id,_,hb⟩),hg⟩⟩) h.inj (λ b hb=>by rw[size_grow];have:=h.ro b hb;omega)
def HRel.rows {S:cF}(h:HRel Γ w G ρ H){id b:Nat}{B B':Blk}{A:cF}(hid:H id=aA (B,A))(hb:ρ id=aA (b,B.sz))(hsz:B'.sz=B.sz){C C':Array Value}{ty:TypeId}{H':mP}
 (hH':∀i,H' i=if i=id then aA (B',A)else H i)
 (hC0:w.heap[b]? =aA (.cells C ty (0,0))) (hC:w'.heap[b]? =aA (.cells C' ty (0,0))) (hcs:C'.size=C.size) (hother:∀j,j≠b->w'.heap[j]? =w.heap[j]?) (hsize:w'.heap.size=w.heap.size)
 (h1:w'.os=w.os) (h2:w'.tape=w.tape) (h3:w'.output=w.output)
 (hS:∀i B A,H i=aA (B,A)->∀j,A j->S j)
 (hl:∀(r:Nat) row,B'.rows[r]? =aA row->row.length=B'.sz)
 (hr:∀r row c v,B'.rows[r]? =aA row->row[c]? =aA v->∃cv,C'[r*B'.sz+c]? =aA cv/\V w G bX cQ v cv) (hp:B'.pure=aB):
 HRel Γ w' G ρ H'/\Step S w G ρ w' G ρ:=by
 have hbo:mK ρ b:=⟨id,_,hb⟩;have hbg:=h.owned_not_ro hbo
 have hs:Step S w G ρ w' G ρ:=by
  refine⟨oO,λ j hj ho=>hother j (λ he=>ho (he▸hbo)),λ j hj=>?_,λ _ h=>h,λ _ h=>dE h,λ _ h=>dE h,λ _ _=>dP rfl,h1,h2,h3⟩;by_cases he:j=b;.subst he;unfold shp;rw[hC,hC0];simp only[bO,hcs]
  exact shp_of (hother j he)
 refine⟨h.after hs _ ?_ ?_ h.inj (λ c hc=>by rw[hsize];exact h.ro c hc),hs⟩
 .intro i hi;rw[hH']at hi;split at hi;.cases hi
  exact h.dom i hi
 intro i B1 A1 hi;rw[hH']at hi;split at hi;.rename_i he;subst he;cases hi;obtain⟨hA,_⟩:=h.blk i B A hid;refine⟨hA,dP ⟨b,by rw[hsz];exact hb,hbg,⟨⟨C',_,⟨hC,.cells⟩,λ r row c v hrow hc=>?_⟩,hl⟩⟩⟩;obtain⟨cv,hcv,hv⟩:=hr r row c v hrow hc;refine⟨cv,hcv,?_⟩;simp only[hp,if_true];exact hv.mono hs.g (λ b hb=>hs.keep b (h.ro b hb) (λ ho=>h.owned_not_ro ho hb)) hs.shape (λ _ h=>h) (λ _ h=>h.elim)
 rename_i hne;obtain⟨hAid,b1,hb1,hg1,hBR⟩:=h.blk i B1 A1 hi;exact⟨hAid,.inl ⟨A1,b1,hi,λ _ h=>h,hS i B1 A1 hi,rfl,hb1,hother b1 (by rintro rfl;exact hne (h.inj i id _ _ _ hb1 hb)),hg1⟩⟩
end
end Go.AM
namespace Go.Proofs.T
open Go Go.Proofs Go.Shelf Go.RowKit Go.Lib Go.Sort
def cfI(r a b r' a' b':Int):Int:=if r=r' then(if a=a' then b-b' else a-a')else r-r'
def fD{n:Int}(h1: -9223372036854775808<=n)(h2:n<=9223372036854775807):aH.wrap n=n:=by simp[IntKind.wrap,IntKind.bits,IntKind.signed];omega
def a6E(r a b r' a' b':Int)(hr:0<=r/\r<256)(ha:0<=a/\a<1000000)(hb:0<=b/\b<1000000)(hr':0<=r'/\r'<256)(ha':0<=a'/\a'<1000000)(hb':0<=b'/\b'<1000000)(W:World):
 Calls aG 196 #[.agg #[.int .u8 r,.int .i64 a,.int .i64 b],.agg #[.int .u8 r',.int .i64 a',.int .i64 b']] W λ e w'=>e= .returned (.int .i64 (cfI r a b r' a' b'))/\∃q os',w'=grow (W.drewN q) os':=by
 by_cases h1:r=r'
 .by_cases h2:a=a'
  .have e:cfI r a b r' a' b'=b-b':=by simp[cfI,h1,h2]
   rw[e];subst h1 h2;clear e;go_enter Tryz.func196,Tryz.ntmps196
   go_wp2
   go_ret
   exact⟨rfl,0,_,by rw[alloc_eq_grow,alloc_eq_grow,grow_grow];rfl⟩
  have e:cfI r a b r' a' b'=a-a':=by simp[cfI,h1,h2]
  rw[e];subst h1;clear e;go_enter Tryz.func196,Tryz.ntmps196
  go_wp2
  go_ret
  exact⟨rfl,0,_,by rw[alloc_eq_grow,alloc_eq_grow,grow_grow];rfl⟩
 have e:cfI r a b r' a' b'=r-r':=by simp[cfI,h1]
 rw[e];clear e;go_enter Tryz.func196,Tryz.ntmps196
 go_wp2
 go_ret
 exact⟨rfl,0,_,by rw[alloc_eq_grow,alloc_eq_grow,grow_grow];rfl⟩
end Go.Proofs.T
namespace Go.Proofs.T
open Go Go.AM Go.Proofs Go.Shelf Go.RowKit Go.Lib Go.Sort
def Flt.ok (f:Flt):Prop:=(0<=f.r/\f.r<256)/\(0<=f.a/\f.a<1000000)/\(0<=f.b/\f.b<1000000)
structure BF where
 f:Flt
 h:f.ok
instance:Inhabited BF:=⟨⟨⟨0,0,0⟩,by unfold Flt.ok;simp⟩⟩
def GI(x:BF):List Value:=[.int .u8 x.f.r,.int .i64 x.f.a,.int .i64 x.f.b]
def cfF(x y:Flt):Int:=cfI x.r x.a x.b y.r y.a y.b
def cfB(x y:BF):Int:=cfF x.f y.f
def ltB_iff(x y:BF):ltOf cfB x y=aB↔cfF x.f y.f<0:=⟨λ h=>of_decide_eq_true h,λ h=>decide_eq_true h⟩
def EQ(x y:BF):ltOf cfB x y=aF↔0<=cfF x.f y.f:=⟨λ h=>Int.not_lt.1 (of_decide_eq_false h),λ h=>decide_eq_false (Int.not_lt.2 h)⟩
def aZF(x y:Flt):cfF x y<0↔(x.r<y.r\/(x.r=y.r/\(x.a<y.a\/(x.a=y.a/\x.b<y.b)))):=by
 unfold cfF cfI;split;.split<;>omega
 omega
def RR(x y:Flt):0<=cfF x y↔¬(x.r<y.r\/(x.r=y.r/\(x.a<y.a\/(x.a=y.a/\x.b<y.b)))):=by rw[<-aZF];omega
def a9V:SWO (ltOf cfB) where
 irrefl x:=by rw[EQ,RR];omega
 trans x y z h1 h2:=by rw[ltB_iff,aZF]at*;omega
 ntrans x y z h1 h2:=by rw[EQ,RR]at*;omega
def bKT(x y:Flt)(h1:0<=cfF x y)(h2:0<=cfF y x):x=y:=by
 rw[RR]at h1 h2;cases x;cases y;simp only[Flt.mk.injEq]at*
 omega
def bOI(blk off size:Nat)(w:World):CmpLays aG 196 #[] GI 3 cfB blk off size w:=λ _ _ _ _ x y=>
 a6E x.f.r x.f.a x.f.b y.f.r y.f.a y.f.b x.h.1 x.h.2.1 x.h.2.2 y.h.1 y.h.2.1 y.h.2.2 _
def JU(l:List Flt)(hb:∀f∈l,f.ok):Array BF:=(l.pmap (λ f h=>(⟨f,h⟩:BF)) hb).toArray
def nQ(l:List Flt)(hb:∀f∈l,f.ok):(JU l hb).size=l.length:=by simp[JU]
def NE(l:List Flt)(hb:∀f∈l,f.ok)(i:Nat)(hi:i<l.length):((JU l hb)[i]!).f=l[i]:=by rw[getElem!_pos (JU l hb) i (by rw[nQ];exact hi)];simp[JU]
def aDA(x:BF)(c:Nat)(v:AVal)(h:(Flt.row x.f)[c]? =aA v):v= .lit ((GI x)[c]!):=by
 match c with
 |0=>simp[Flt.row]at h;simp[GI,h]
 |1=>simp[Flt.row]at h;simp[GI,h]
 |2=>simp[Flt.row]at h;simp[GI,h]
 |c+3=>simp[Flt.row]at h
def aUG(x:BF)(c:Nat)(hc:c<3):(Flt.row x.f)[c]? =aA (.lit ((GI x)[c]!)):=by
 match c with
 |0=>rfl
 |1=>rfl
 |2=>rfl
def holdsF{w:World}{G:Nat->Prop}{b:Nat}{C:Array Value}{ty:TypeId}(l:List Flt)(hb:∀f∈l,f.ok)(hC:w.heap[b]? =aA (.cells C ty (0,0)))
 (hr:∀r row c v,(l.map Flt.row)[r]? =aA row->row[c]? =aA v->∃cv,C[r*3+c]? =aA cv/\V w G bX cQ v cv):HoldsK GI 3 w b 0 (JU l hb):=by
 intro j hj;rw[size_flatK,nQ]at hj;have hq:j/3<l.length:=oO;refine⟨?_,?_⟩
 .rw[get_flatK GI 3 _ j (by rw[nQ];exact hj)];have h1:(l.map Flt.row)[j/3]? =aA (Flt.row ((JU l hb)[j/3]!).f):=by rw[aV,aN hq,NE l hb _ hq];rfl
  obtain⟨cv,h3,h4⟩:=hr (j/3) _ (j%3) _ h1 (aUG _ (j%3) (Nat.mod_lt _ oO));cases h4;unfold World.cell?;simp only[hC];rw[(oO:j/3*3+j%3=j)]at h3;simp[h3]
 unfold World.frozen?;simp[hC]
def aFJ(l R:List Flt)(hb:∀f∈l,f.ok)(hR:∀f∈R,f.ok)(hp:R.Perm l)(hs:R.Pairwise (λ x y=>0<=cfF y x))(d:Array BF)(h1:PermIn 0 (JU l hb).size (JU l hb) d)(h2:SortedIn (ltOf cfB) 0 (JU l hb).size d):d=JU R hR:=by
 have hT:∀x y:BF,ltOf cfB x y=aF->ltOf cfB y x=aF->x=y:=λ x y h3 h4=>by rw[EQ]at h3 h4;have:=bKT _ _ h3 h4;cases x;cases y;cases this;rfl
 have e1:=sorted_unique_holds a9V hT _ _ h1 h2;have hsz:(JU R hR).size=(JU l hb).size:=by rw[nQ,nQ,hp.length_eq]
 have hpm:(JU R hR).toList.Perm (JU l hb).toList:=by simp only[JU];have:∀(a b:List Flt) (ha:∀f∈a,f.ok) (hb:∀f∈b,f.ok),a.Perm b->(a.pmap (λ f h=>(⟨f,h⟩:BF)) ha).Perm (b.pmap (λ f h=>(⟨f,h⟩:BF)) hb):=λ a b ha hb h=>h.pmap _;exact this _ _ _ _ hp
 have h3:PermIn 0 (JU l hb).size (JU l hb) (JU R hR):=by
  refine⟨hsz,λ i hi=>?_,?_⟩
  .rcases hi with hi|hi;.omega
   rw[getElem!_neg _ i oO,getElem!_neg _ i oO]
  rw[Array.extract_size,<-hsz,Array.extract_size];exact hpm
 have h4:SortedIn (ltOf cfB) 0 (JU l hb).size (JU R hR):=by intro i j _ hij hj;rw[nQ,<-hp.length_eq]at hj;rw[EQ,NE R hR j hj,NE R hR i oO];exact CI.1 hs i j oO hj hij
 exact bJL (e1.trans (sorted_unique_holds a9V hT _ _ h3 h4).symm)
end Go.Proofs.T
namespace Go.Proofs.T
open Go Go.AM Go.Proofs Go.Shelf Go.RowKit Go.Lib Go.Sort
variable{Γ:dW}
def aBN{w:World}{b:Nat}{C:Array Value}{ty:TypeId}(n:Nat)(F:Array Value)(hC:w.heap[b]? =aA (.cells C ty (0,0))):
 (putRow id (Sort.ahead w n) b 0 F).heap[b]? =aA (.cells (putCells id 0 F C) ty (0,0))/\(∀j,j≠b->(putRow id (Sort.ahead w n) b 0 F).heap[j]? =w.heap[j]?)/\(putRow id (Sort.ahead w n) b 0 F).heap.size=w.heap.size:=by
 refine⟨?_,λ j hj=>?_,?_⟩;.simp only[putRow,mapBlock,Sort.ahead,TV,if_true];rw[hC];rfl
 .simp only[putRow,mapBlock,Sort.ahead,TV];rw[iN (λ h=>hj h.symm)]
 simp[putRow,mapBlock,Sort.ahead]
def XO(F C:Array Value)(j:Nat)(hj:j<F.size)(hC:j<C.size):(putCells id 0 F C)[j]? =aA F[j]! :=by simp only[putCells,Array.getElem?_mapIdx,aW hC,bO,bF,eQ,hj,and_self,if_true,vN,id]
def aTL(k F:Nat)(l R:List Flt)(hb:∀f∈l,f.ok)(hp:R.Perm l)(hs:R.Pairwise (λ x y=>0<=cfF y x))(hl:l.length<=100000)
 (hnone:∀w,Calls aG 195 #[.slice aC 0 0,.func (.func 196) #[] #[]] w λ e w'=>e= .returned (.tuple #[])/\w'=w):
 Tr aG Γ 195 k [dI F (l.map Flt.row),.fn 196 []] (cM F 3 (l.map Flt.row) []) (λ k1 r1 H1=>k1=k/\r1= .tup []/\H1=cM F 3 (R.map Flt.row) []):=by
 intro A hA w G ρ cargs hr hvs;obtain⟨hlen,hv⟩:=hvs;have h0:=hv 0 _ rfl;have h1:=hv 1 _ rfl
 have hc2:cargs= #[cargs.getD 0 undef,cargs.getD 1 undef]:=by
  have hsz:cargs.size=2:=hlen.symm;apply aJX;.simp[hsz]
  intro i hi1 hi2
  match i with
  |0=>simp[Array.getD,hsz]
  |1=>simp[Array.getD,hsz]
  |i+2=>omega
 obtain⟨cs,hfn,hcs⟩:∃cs:Array Value,cargs.getD 1 undef= .func (.func 196) #[] cs/\cs.size=0:=by
  generalize cargs.getD 1 undef=x at h1
  cases h1 with
  |fn hl _=>exact⟨_,rfl,hl.symm⟩
 have hcs':cs= #[]:=kH hcs;subst hcs'
 cases l with
 |nil=>
  have hR:R=[]:=hp.eq_nil;subst hR;have e0:cargs.getD 0 undef= .slice aC 0 0:=by generalize cargs.getD 0 undef=x at h0;cases h0;rfl
  rw[hc2,e0,hfn];refine(hnone w).mono ?_;rintro e w' ⟨rfl,rfl⟩;refine⟨.tuple #[],G,ρ,k,.tup [],[],rfl,⟨rfl,rfl,rfl⟩,aJ _,?_,.tup rfl (λ j v hj=>by simp at hj),lF _ _ _ _⟩;exact⟨λ id _=>hr.dom id rfl,λ id B A' hid=>by simp[bK,AM.look]at hid,hr.inj,hr.ro,hr.glob⟩
 |cons x t=>
  obtain⟨l,el⟩:=xE (x::t);have hne:l.length≠0:=by rw[el];simp
  have eV:dI F ((x::t).map Flt.row)= .sl F 0 l.length:=by rw[el];simp[dI]
  have eH:∀q:List Flt,q.length≠0->cM F 3 (q.map Flt.row) []=[(F,⟨3,aB,q.map Flt.row⟩)]:=λ q hq=>by
   cases q with
   |nil=>simp at hq
   |cons a b=>rfl
  rw[eV]at h0;rw[<-el,eH l hne]at hr;rw[<-el]at hb hp hl;clear eV;have hRne:R.length≠0:=by rw[hp.length_eq];exact hne
  rw[eH R hRne];have hid:bK [(F,⟨3,aB,l.map Flt.row⟩)] A F=aA (⟨3,aB,l.map Flt.row⟩,A):=by simp[bK,AM.look]
  obtain⟨hAF,b,hρ,hgb,hBRF⟩:=hr.blk F _ _ hid;simp only at hρ
  obtain⟨cap,e0,sh,hsh⟩:∃cap,cargs.getD 0 undef= .slice (aA ⟨b,0,aC⟩) l.length cap/\∃sh,w.shape? b=aA sh:=by
   generalize cargs.getD 0 undef=x at h0;generalize hll:l.length=ll at h0⊢
   cases h0 with
   |dangs _ hn=>rw[hρ]at hn;cases hn
   |sl0=>exact absurd hll hne
   |sl _ hs hsh _ hnc _ ho=>
    rw[hρ]at hs;cases hs;rcases ho with ho|ho;.omega
    rw[ho,rT];exact⟨_,rfl,_,hsh⟩
  obtain⟨⟨C,ty,hC,hrow⟩,hrl⟩:=hBRF.old hsh;simp only[if_true]at hrow;have hRok:∀f∈R,f.ok:=λ f hf=>hb f (hp.mem_iff.1 hf);have hblt:b<w.heap.size:=hr.owned_lt ⟨F,3,hρ⟩;have eg:∀args w,(callFunc 196 args).run aG w= .ok (.enter 196 args) w:=enters_of Tryz.func196 kRf rfl;have hcon:=AnyQ.slices_SortFunc Tryz.sortF 3 Tryz.isAgg125 Tryz.sizeOf125 GI (λ _=>rfl) (λ x v hv=>by simp[GI]at hv;rcases hv with rfl|rfl|rfl<;>rfl) cfB a9V 196 #[] b 0 cap (JU l hb) w eg (bOI _ _ _ _) (holdsF l hb hC hrow) hblt (by rw[nQ];omega);change Calls aG 195 _ _ _ at hcon;rw[hc2,e0,hfn];rw[nQ]at hcon;refine hcon.mono ?_;rintro e w' ⟨rfl,d',n,os,hpm,hso,rfl⟩;rw[<-nQ l hb]at hpm hso;have hd:=aFJ l R hb hRok hp hs d' hpm hso;subst hd;have hF:(flatK GI 3 (JU R hRok)).size=l.length*3:=by rw[size_flatK,nQ,hp.length_eq]
  obtain⟨p1,p2,p3⟩:=aBN n (flatK GI 3 (JU R hRok)) hC
  have hrows:∀r row c v,(R.map Flt.row)[r]? =aA row->row[c]? =aA v->∃cv,(putCells id 0 (flatK GI 3 (JU R hRok)) C)[r*3+c]? =aA cv/\V w G bX cQ v cv:=by
   intro r row c v hrw hcv
   have hrlt:r<R.length:=by
    by_cases h:r<R.length;.exact h
    rw[bE sO]at hrw;cases hrw
   have hrow':row=Flt.row ((JU R hRok)[r]!).f:=by rw[aV,aN hrlt,bO,aA.injEq]at hrw;rw[NE R hRok r hrlt];exact hrw.symm
   subst hrow'
   have hc3:c<3:=by
    by_cases h:c<3;.exact h
    rw[bE (by simp[Flt.row];omega)]at hcv;cases hcv
   have hv':=aDA _ c v hcv;have hll:r<l.length:=by rw[<-hp.length_eq];exact hrlt
   have hCs:r*3+c<C.size:=by
    obtain⟨cv,hcv1,_⟩:=hrow r _ c _ (by rw[aV,aN hll];rfl) (by rw[aN (by simp[Flt.row];omega)]);by_cases h:r*3+c<C.size;.exact h
    rw[iS oO]at hcv1;cases hcv1
   refine⟨(GI ((JU R hRok)[r]!))[c]!,?_,by rw[hv'];exact .lit⟩;rw[XO _ _ _ oO hCs,get_flatK GI 3 _ _ (by rw[nQ];omega)];rw[(oO:(r*3+c)/3=r),(oO:(r*3+c)%3=c)]
  have hHF:∀i,bK [(F,(⟨3,aB,R.map Flt.row⟩:Blk))] A i=if i=F then aA ((⟨3,aB,R.map Flt.row⟩:Blk),A)else bK [(F,(⟨3,aB,l.map Flt.row⟩:Blk))] A i:=λ i=>by
   by_cases h:i=F;.subst h;simp[bK,AM.look]
   have h':¬F=i:=λ e=>h e.symm;rw[iN h];simp[bK,AM.look,h']
  obtain⟨q1,q2⟩:=HRel.rows (S:=lX k) (H':=bK [(F,⟨3,aB,R.map Flt.row⟩)] A) (B':=⟨3,aB,R.map Flt.row⟩) hr hid hρ rfl hHF hC p1 (by simp[putCells]) p2 p3 rfl rfl rfl
   (λ i B A' hi j hj=>by
     have:A'=A:=by simp only[bK,AM.look]at hi;split at hi<;>simp at hi;exact hi.2.symm
     subst this;exact hA j hj)
   (λ r row hrw=>by
     rw[aV]at hrw
     cases hR:R[r]? with
     |none=>rw[hR]at hrw;cases hrw
     |some f=>rw[hR]at hrw;cases hrw;rfl)
   hrows rfl
  refine⟨.tuple #[],G,ρ,k,.tup [],[(F,⟨3,aB,R.map Flt.row⟩)],rfl,⟨rfl,rfl,rfl⟩,aJ _,?_,.tup rfl (λ j v hj=>by simp at hj),?_⟩
  .refine(q1.grow os).allow _ ?_ ?_;.intro i hi;simp only[bK,dL]at hi⊢;exact hi
   intro i B A' hi;simp only[bK]at hi⊢
   cases hlk:AM.look [(F,(⟨3,aB,R.map Flt.row⟩:Blk))] i with
   |none=>rw[hlk]at hi;cases hi
   |some B1=>rw[hlk]at hi;cases hi;exact⟨A,rfl,λ i hi=> .inl hi⟩
  exact q2.trans (JW (lX k) os) (λ _ h=>h)
end Go.Proofs.T
end
section
namespace Go.Proofs.T
open Go Go.AM Go.Proofs
variable{Γ:dW}
def aOS(w:World):Calls aG 195 #[.slice aC 0 0,.func (.func 196) #[] #[]] w λ e w'=>e= .returned (.tuple #[])/\w'=w:=
 AnyF.slices_SortFunc_none Tryz.sortF aC 0 _ w
def sorted(k L F:Nat)(s:St)(l R:List Flt)(hL:L<k)(hF:F<k)(hne:L≠F)(hb:∀f∈l,f.ok)(hp:R.Perm l)(hs:R.Pairwise (λ x y=>0<=cfF y x))(hl:l.length<=100000):
 Tr aG Γ 117 k [.ptr L 0 0] (LK L F s l) (λ k1 r1 H1=>k1=k/\r1=dI F (R.map Flt.row)/\H1=LK L F s R):=by
 obtain⟨a1,a2,a3,a4,a5,a6⟩:=dB hL;obtain⟨b1,b2,b3,b4,b5,b6⟩:=dB hF;obtain⟨c1,c2⟩:=jG hne
 have hV:dI F (l.map Flt.row)=dI F (R.map Flt.row):=by
  cases l with
  |nil=>rw[hp.eq_nil]
  |cons a b=>
   cases R with
   |nil=>exact absurd hp.length_eq sS
   |cons c d=>simp only[bN,dI,iI,dG];rw[show d.length=b.length by have:=hp.length_eq;simpa using this]
 refine bR Tryz.func117 rfl 12 rfl bB (pW ?_);have kp:=kN k [0,2];have uU:=fB a1 a2 a3 a4 a5 a6 b1 b2 (rY b3 @b4 @b5 @b6 c1 c2);refine jI ?_;refine cl [.gen (.tup []) k (cM F 3 (l.map Flt.row) []) (cM F 3 (R.map Flt.row) [])] ?_;refine iA ?_ ?_;.exact aTL k F l R hb hp hs hl aOS
 refine jI ?_;refine cB rfl ?_;rw[hV];refine⟨k,[(2,dI F (R.map Flt.row))],LK L F s R,?_,_,rfl,rfl,rfl,rfl⟩;(have uU:=fB a1 a2 a3 a4 a5 a6 b1 b2 (rY b3 @b4 @b5 @b6 c1 c2);exact pK)
def sD(s:St):List Flt:=vE s++(AA s++CO s)
def BC(s:St):List Flt:=if 0<(qU s).length then qU s else if 0<(sD s).length then sD s else xX s
def SO {kb k:Nat}{fr:Fr}{H:aS}(id:Nat){s:Nat}{p:Bool}{rows:List (List AVal)}(hH:AM.look H id=aA ⟨s,p,rows⟩):
 Mv kb k fr H k fr ((id,⟨s,aF,rows⟩)::del H id):=λ hk=>nC ⟨hk,λ t v h=>⟨v,h,bL v⟩,λ i B hB=>by
 rw[yC]at hB
 split at hB
 · rename_i he
   subst he
   cases hB
   exact⟨_,hH,rfl,λ q row hq=>⟨row,hq,rfl,λ c u v hu hv=>by rw[hu]at hv;cases hv;exact bL _⟩,λ h=>by cases h⟩
 · exact⟨B,hB,nN B⟩,dE rfl⟩ hk
structure PreOk (s:St):Prop where
 sm:s.Small
 n12:s.ns<=12
 p12:∀g,g<s.ns->s.nsp g<=12
def FW(s:St)(h:s.ns<=12):(qU s).length<=100:=by have h1:=fK (LL s) s.ns;unfold qU jC;simp only[bT];split<;>split<;>split<;>split<;>simp<;>omega
def LY(s:St)(h:s.ns<=12)(hc:s.cpus<=64):(xX s).length<=800:=by have:=fK (f:=rD s) (m:=12) (λ i=>by have:=fK (f:=sH s i) (m:=1) (λ j=>JX _ _ _ _) s.ns;unfold rD;omega) s.cpus.toNat;unfold xX;omega
def MC(s:St)(hs:s.Small):(vE s).length<=2000:=by have h1:=fK (f:=qD s) (m:=1) (λ i=>jA _ _) s.nk;have h2:=fK (f:=BW s) (m:=1) (λ i=>jA _ _) s.nu;have:=hs.nk;have:=hs.nu;unfold vE;rw[bT];omega
def OX(s:St)(hs:s.Small):(AA s).length<=7000:=by have h1:=fK (f:=vS s) (m:=7) (OY s) s.nt;have:=hs.nt;unfold AA;omega
def PB(s:St)(hs:PreOk s):(CO s).length<=144:=by have h1:=sI (f:=uY s) (m:=12) s.ns (λ g hg=>by have:=fK (f:=vV s g) (m:=1) (FV s g) (s.nsp g);have:=hs.p12 g hg;unfold uY;omega);have:=hs.n12;unfold CO;omega
def check(hD:JP Γ)(s:St)(hq:PreOk s)(R:List Flt)(hcfg:nU s=aF->R=[⟨1,0,0⟩])
 (hfl:nU s=aB->(qU s).length=0->(sD s).length=0->FloorOk s)
 (hb:nU s=aB->∀f∈BC s,f.ok) (hp:nU s=aB->R.Perm (BC s)) (hso:nU s=aB->R.Pairwise (λ x y=>0<=cfF y x)):
 Pure aG Γ 113 [.agg s.cells] (rows 3 (R.map Flt.row)):=by
 obtain⟨hs,h12,hp12⟩:=id hq;obtain⟨hng,hnk,hnu,hnt,hns,hnsp⟩:=id hs;refine cA Tryz.func113 rfl 45 rfl bB rfl λ k=>?_;have kp:=kN k [0,1,2,3,4,6,8,15,22,23,24,26,27,28,29,41];refine jI ?_;refine cl [.ret (nU s)] ?_;refine iA ?_ ?_;.exact xS hD s
 refine uQ rfl _ rfl (λ ht=>?_) (λ hf=>?_)
 .refine jI ?_;have ht':nU s=aF:=by simpa using ht
  rw[hcfg ht'];exact a1D rfl (WR (id:=k+2) (s:=3) (l:=[Flt.row ⟨1,0,0⟩]) 2 sL sL) ⟨_,rfl,bL _⟩
 have hcf:nU s=aB:=by simpa using hf
 have hrc:=hcf;rw[DV]at hrc;obtain⟨⟨r1,r2,r3,r4,r5,r6,r7⟩,rall⟩:=iJ hrc;refine BM rfl (sT ?_);refine iG rfl (clA [] ?_);refine gW (SO (k+1) (by simp-dsimp-implicitDefEqProofs only[go_sem,↓reduceIte];rfl)) ?_;refine gW (gT (k+2) (by simp-dsimp-implicitDefEqProofs only[go_sem,↓reduceIte];rfl) rfl) ?_;simp-dsimp-implicitDefEqProofs only[qO,jR,go_sem,eq_self,↓reduceIte];refine gW (gT (k+3) (by simp-dsimp-implicitDefEqProofs only[go_sem,↓reduceIte];rfl) rfl) ?_;simp-dsimp-implicitDefEqProofs only[qO,jR,go_sem,eq_self,↓reduceIte];refine gW (gT (k+4) (by simp-dsimp-implicitDefEqProofs only[go_sem,↓reduceIte];rfl) rfl) ?_;simp-dsimp-implicitDefEqProofs only[qO,jR,go_sem,eq_self,↓reduceIte];refine EB (X:=List Flt) rfl [2,3] (k+3) (λ l=>[]) (λ l=>LK (k+1) (k+2) s l) (λ l=>l=BC s) ?_ ?_
 .refine iG rfl (clA [] ?_);refine gW (nC (fr1:=[(23,aD (aE aH 0)),(22,.agg [.rd 1 1 (λ q=>([[AVal.fn 190 []]]:List (List AVal)).getD q []),.rd 1 3 (λ q=>([[AVal.fn 191 []],[AVal.fn 192 []],[AVal.fn 193 []]]:List (List AVal)).getD q []),.rd 1 1 (λ q=>([[AVal.fn 194 []]]:List (List AVal)).getD q [])]),(3,.ptr (k+1) 0 0),(2,aD (aP aC 0 0))]) (k1:=k+3) (H1:=LK (k+1) (k+2) s []) wL) (gG ?_);refine BN rfl (JQ rfl 4 (AM.rounds_succ (sP λ ht=>?_)));refine JQ rfl 2 (AM.rounds_succ (sP λ ht=>?_));obtain⟨l1,e1,h1⟩:∃x,x=qU s/\x.length<=100:=⟨_,rfl,FW s h12⟩;refine lO [0,1,2,3,4,6,8,15,22,23,24,26,27,28,29,41] (k+3) [] (LK (k+1) (k+2) s l1) ?_ ?_
  .refine cl [.gen (.tup []) (k+4) (LK (k+1) (k+2) s []) (LK (k+1) (k+3) s l1)] ?_;refine iA ?_ ?_;.have h:=shape (Γ:=Γ) s hs (k+3) (k+1) (k+2) [] oO oO oO sS;rw[aZ,<-e1]at h;exact h
   exact FI (k+3) (k+2) wL
  refine gG ?_;refine wl ?_;refine WS (gB λ ht ht=>?_) (aAO λ ht ht ht=>?_);.refine⟨l1,by rw[BC,<-e1,iP oO],?_⟩;exact sB
  obtain rfl:l1=[]:=jE oO;have hz:(qU s).length=0:=by rw[<-e1];rfl
  have hchk:BC s=if 0<(sD s).length then sD s else xX s:=by rw[BC,iN oO]
  obtain⟨z1,z2,z3,z4⟩:=shapes_nil (s:=s) (by rw[<-EI];exact hz);refine JQ rfl 4 (AM.rounds_succ (sP λ ht=>?_));obtain⟨p1,f1,g1⟩:∃x,x=vE s/\x.length<=2000:=⟨_,rfl,MC s hs⟩;refine lO [0,1,2,3,4,6,8,15,22,23,24,26,27,28,29,41] (k+3) [] (LK (k+1) (k+2) s p1) ?_ ?_
  .refine cl [.gen (.tup []) (k+4) (LK (k+1) (k+2) s []) (LK (k+1) (k+3) s p1)] ?_;refine iA ?_ ?_;.have h:=bCS (Γ:=Γ) s hs (k+3) (k+1) (k+2) [] oO oO oO sS;rw[aZ,<-f1]at h;exact h
   exact FI (k+3) (k+2) wL
  refine gG ?_;refine sP λ ht=>?_;obtain⟨p2,f2,g2⟩:∃x,x=p1++AA s/\x.length<=9000:=⟨_,rfl,by have:=OX s hs;rw[bT];omega⟩;refine lO [0,1,2,3,4,6,8,15,22,23,24,26,27,28,29,41] (k+3) [] (LK (k+1) (k+2) s p2) ?_ ?_
  .refine cl [.gen (.tup []) (k+4) (LK (k+1) (k+2) s p1) (LK (k+1) (k+3) s p2)] ?_;refine iA ?_ ?_;.have h:=bEZ (Γ:=Γ) s hs oO (k+3) (k+1) (k+2) p1 oO oO oO oO;rw[<-f2]at h;exact h
   exact FI (k+3) (k+2) wL
  refine gG ?_;refine sP λ ht=>?_;obtain⟨p3,f3,g3⟩:∃x,x=p2++CO s/\x.length<=9144:=⟨_,rfl,by have:=PB s hq;rw[bT];omega⟩;refine lO [0,1,2,3,4,6,8,15,22,23,24,26,27,28,29,41] (k+3) [] (LK (k+1) (k+2) s p3) ?_ ?_
  .refine cl [.gen (.tup []) (k+4) (LK (k+1) (k+2) s p2) (LK (k+1) (k+3) s p3)] ?_;refine iA ?_ ?_;.have h:=bFC (Γ:=Γ) s hs oO h12 hp12 (k+3) (k+1) (k+2) p2 oO oO oO oO;rw[<-f3]at h;exact h
   exact FI (k+3) (k+2) wL
  refine gG ?_;have f3':p3=sD s:=by rw[f3,f2,f1,sD,dA]
  clear f3 f2 f1;refine wl ?_;refine WS (gB λ ht ht=>?_) (aAO λ ht ht ht=>?_);.refine⟨p3,by rw[hchk,<-f3',iP oO],?_⟩;exact sB
  obtain rfl:p3=[]:=jE oO;have hz2:(sD s).length=0:=by rw[<-f3'];rfl
  refine JQ rfl 2 (AM.rounds_succ (sP λ ht=>?_));obtain⟨q1,u1,v1⟩:∃x,x=xX s/\x.length<=800:=⟨_,rfl,LY s h12 r2⟩;refine lO [0,1,2,3,4,6,8,15,22,23,24,26,27,28,29,41] (k+3) [] (LK (k+1) (k+2) s q1) ?_ ?_
  .refine cl [.gen (.tup []) (k+4) (LK (k+1) (k+2) s []) (LK (k+1) (k+3) s q1)] ?_;refine iA ?_ ?_;.have h:=bBO (Γ:=Γ) s hs (hfl hcf hz hz2) (k+3) (k+1) (k+2) [] oO oO oO sS;rw[aZ,<-u1]at h;exact h
   exact FI (k+3) (k+2) wL
  refine gG ?_;refine wl ?_;refine WS (gB λ ht ht=>?_) (aAO λ ht ht ht=>?_);.refine⟨q1,by rw[hchk,iN oO];exact u1,?_⟩;exact sB
  refine⟨q1,by rw[hchk,iN oO];exact u1,?_⟩;exact sB
 intro l hl;have hb':=hb hcf;have hp':=hp hcf;rw[<-hl]at hb' hp'
 have hll:l.length<=100000:=by
  rw[hl];have h1:=FW s h12;have h2:=MC s hs;have h3:=OX s hs;have h4:=PB s hq;have h5:=LY s h12 r2;unfold BC sD;split;.omega
  split;.simp only[bT];omega
  omega
 refine gG ?_;refine jI ?_;refine cl [.gen (dI (k+2) (R.map Flt.row)) (k+3) (LK (k+1) (k+2) s l) (LK (k+1) (k+2) s R)] ?_;refine iA ?_ ?_;.exact sorted (k+3) (k+1) (k+2) s l R oO oO oO hb' hp' (hso hcf) hll
 exact aJW rfl (id:=k+2) (s:=3) (l:=tB Flt.row R) 2 sL sL ⟨_,rfl,bL _⟩
end Go.Proofs.T
end
section
namespace Go.Proofs.T
open Go Go.AM Go.Proofs
variable{b:Bool}{x y:Flt}{R:Flt->Flt->Prop}{r:Int}{P:Int->Prop}{g n:Nat}{o:Option Int}{p:Prop}{s:St}
def oA{f g:Nat->List Flt}:∀ {n:Nat},(∀i,i<n->f i=g i)->cI f n=cI g n
 |0,_=>rfl
 |n+1,h=>by rw[gC,gC,oA (λ i hi=>h i oO),h n oO]
def QT{f g:Nat->List Flt}:∀ {n:Nat},(∀i,i<n->(f i).Perm (g i))->(cI f n).Perm (cI g n)
 |0,_=>iF.refl _
 |n+1,h=>(QT (λ i hi=>h i oO)).append (h n oO)
def aDJ:cI (λ _=>[]) n=[]:=by
 induction n with
 |zero=>rfl
 |succ n ih=>rw[gC,ih];rfl
def aPQ{α:Type}(a b c d:List α):((a++b)++(c++d)).Perm ((a++c)++(b++d)):=by rw[dA,dA];refine iF.append_left a ?_;rw[<-dA,<-dA];exact iF.append_right d List.perm_append_comm
def VR{f g:Nat->List Flt}:∀ {n:Nat},(cI (λ i=>f i++g i) n).Perm (cI f n++cI g n)
 |0=>iF.refl _
 |n+1=>((VR (f:=f) (g:=g) (n:=n)).append_right _).trans (aPQ _ _ _ _)
def flats_comm{f:Nat->Nat->List Flt}{m:Nat}:∀ {n:Nat},(cI (λ i=>cI (f i) m) n).Perm (cI (λ j=>cI (λ i=>f i j) n) m)
 |0=>by show iF [] (cI (λ j=>[]) m);rw[aDJ]
 |n+1=>by rw[gC];exact((flats_comm (f:=f) (m:=m) (n:=n)).append_right _).trans (VR (f:=λ j=>cI (λ i=>f i j) n) (g:=f n)).symm
def xY{f:Nat->List Flt}:∀ {n:Nat},cI f (n+1)=f 0++cI (λ i=>f (i+1)) n
 |0=>by simp[cI]
 |n+1=>by rw[gC,xY,gC,dA]
def VQ{f:Nat->List Flt}:∀ {n:Nat},(cI (λ j=>f (n-1-j)) n).Perm (cI f n)
 |0=>iF.refl _
 |n+1=>by
  rw[xY,gC];have:cI (λ i=>f (n+1-1-(i+1))) n=cI (λ j=>f (n-1-j)) n:=oA λ i hi=>by show f _=f _;congr 1;omega
  rw[this];exact((VQ (f:=f) (n:=n)).append_left _).trans List.perm_append_comm
def mem_flats{f:Nat->List Flt}{x:Flt}:∀ {n:Nat},x∈cI f n↔∃i,i<n/\x∈f i
 |0=>by simp[cI]
 |n+1=>by
  rw[gC,dJ,mem_flats];constructor
  .rintro(⟨i,h1,h2⟩|h);.exact⟨i,oO,h2⟩
   exact⟨n,oO,h⟩
  rintro⟨i,h1,h2⟩;by_cases he:i=n;.subst he;exact dP h2
  exact dE ⟨i,oO,h2⟩
def mem_iff1{f:Flt}:x∈jC b f↔b=aB/\x=f:=by cases b<;>simp[jC]
def lV{R:Flt->Flt->Prop}{f:Nat->List Flt}:∀ {n:Nat},(∀i,i<n->(f i).Pairwise R)->(∀i j,i<j->j<n->∀x∈f i,∀y∈f j,R x y)->(cI f n).Pairwise R
 |0,_,_=>vH.nil
 |n+1,h1,h2=>by rw[gC,bWF];refine⟨lV (λ i hi=>h1 i oO) (λ i j hij hj=>h2 i j hij oO),h1 n oO,λ x hx y hy=>?_⟩;obtain⟨i,hi,hx⟩:=mem_flats.1 hx;exact h2 i n hi oO x hx y hy
def LV{R:Flt->Flt->Prop}{f:Flt}:(jC b f).Pairwise R:=by cases b<;>simp[jC]
def leF(x y:Flt):Prop:=¬(y.r<x.r\/(y.r=x.r/\(y.a<x.a\/(y.a=x.a/\y.b<x.b))))
def aQB(m:Nat)(c:Nat)(hm:m<2^64)(hc:c<=64):0<m/2^c↔∃i,i<64/\c<=i/\m/2^i%2=1:=by
 constructor
 .intro h;obtain⟨i,hi⟩:=Nat.exists_testBit_of_ne_zero (x:=m/2^c) oO;rw[Nat.testBit_div_two_pow]at hi
  have hlt:i+c<64:=by
   rcases Nat.lt_or_ge (i+c) 64 with h|h;.exact h
   rw[Nat.testBit_lt_two_pow (oW hm (Nat.pow_le_pow_right oO h))]at hi;cases hi
  refine⟨i+c,hlt,oO,?_⟩;rw[Nat.testBit_eq_decide_div_mod_eq]at hi;exact of_decide_eq_true hi
 rintro⟨i,h1,h2,h3⟩;have h4:2^c<=2^i:=Nat.pow_le_pow_right oO h2;have h5:m/2^i<=m/2^c:=Nat.div_le_div_left h4 (Nat.two_pow_pos c);have h6:m/2^i≠0:=λ h=>by rw[h]at h3;cases h3
 exact oW (OP h6) h5
def aNA(m c:Nat):((m:Int)/2^c)=((m/2^c:Nat):Int):=by
 have:((2:Int)^c)=((2^c:Nat):Int):=by simp
 rw[this];rfl
def aEH(m c:Nat):aIY (m:Int) c=decide (m/2^c%2=1):=by unfold aIY;rw[aNA];congr 1;apply propext;omega
def aDK(m c:Nat):((m:Int).fdiv (2^c))=((m/2^c:Nat):Int):=by
 rw[fG _ (by have:((2:Int)^c)=((2^c:Nat):Int):=by simp
             rw[this];exact tC _),aNA]
def aSY(s:St)(hw:Wf s)(i:Nat)(h0:0<=s.cpus)(h1:s.cpus<=64):t8 s i=r8 s i:=by
 obtain⟨m,hm⟩:=JM (hw.mask0 i);obtain⟨n,hn⟩:=JM h0;have hb:=hw.mask1 i;have key:=aQB m n oO oO;have hmin:min (n:Int).toNat 64=n:=oO;rw[eY];unfold t8 r8 shr;rw[anyB_iff,hm,hn,hmin,aDK];simp only[a7Z,aO,dTt,hm,hn,aEH];constructor;.rintro⟨h2,h3⟩;obtain⟨j,j1,j2,j3⟩:=key.1 oO;exact⟨j,j1,oO,j3⟩
 rintro⟨j,j1,j2,j3⟩;have:=key.2 ⟨j,j1,oO,j3⟩;exact⟨oO,oO⟩
def a0G(m:Nat)(hm:m<2^64):bDF (m:Int)=((m%2:Nat):Int):=by
 unfold bDF;have h1:(BitVec.ofInt aI.bits (m:Int)&&&BitVec.ofInt aI.bits 1).toNat=m%2:=by show(BitVec.ofInt 64 (m:Int)&&&BitVec.ofInt 64 1).toNat=m%2;rw[BitVec.toNat_and,BitVec.ofInt_natCast,BitVec.toNat_ofNat,LC hm];show m&&&1=m%2;exact Nat.and_one_is_mod m
 rw[h1];exact wrap_u64 oO oO
def bFA(s:St)(hw:Wf s)(i:Nat)(h1:s.cpus<=64):t9 s i=r9 s i:=by
 unfold t9 r9;by_cases ho:onB s i=aB
 .rw[ho,lZ,lZ];have ho':0<=(s.tsk i).cpu/\(s.tsk i).cpu<s.cpus:=by simpa [onB]using ho
  obtain⟨m,hm⟩:=JM (hw.mask0 i);obtain⟨n,hn⟩:=JM ho'.1;have hb:=hw.mask1 i;have e1:aCF (n:Int)=n:=by unfold aCF;rw[iN oO]
  have e2:min (n:Int).toNat 64=n:=oO;unfold shr;rw[hm,hn,e1,e2,aDK,a0G _ (Nat.lt_of_le_of_lt (Nat.div_le_self _ _) oO),bW,aEH];rcases Nat.mod_two_eq_zero_or_one (m/2^n)with h|h<;>rw[h]<;>rfl
 rw[bVK]at ho;rw[ho];rfl
def OMin(o:Option Int)(P:Int->Prop):Prop:=match o with
 |none=>∀x,¬P x
 |some m=>P m/\∀x,P x->m<=x
def OMin.congr{Q:Int->Prop}(h:OMin o P)(hq:∀x,P x↔Q x):OMin o Q:=by have:P=Q:=funext λ x=>propext (hq x);rwa [<-this]
def OMin.some_iff(h:OMin o P):o.isSome=aB↔∃x,P x:=by
 cases o with
 |none=>simp only[sZ,bP,false_iff,not_exists];exact h
 |some m=>simp only[Option.isSome_some,true_iff];exact⟨m,h.1⟩
def aLO{f:Nat->Option Int}{h:Nat}{v:Int}(hf:OMin (f h) P):OMin (low f g v h) (λ x=>P x\/(g=h/\x=v)):=by
 by_cases he:h=g
 .subst he
  cases ho:f h with
  |none=>
   rw[ho]at hf;have:low f h v h=aA v:=by simp[low,ho,put]
   rw[this];refine⟨dP ⟨rfl,rfl⟩,λ x hx=>?_⟩;rcases hx with hx|⟨_,hx⟩;.exact absurd hx (hf x)
   omega
  |some m=>
   rw[ho]at hf;by_cases hv:v<m
   .have:low f h v h=aA v:=by simp[low,ho,put,hv]
    rw[this];refine⟨dP ⟨rfl,rfl⟩,λ x hx=>?_⟩;rcases hx with hx|⟨_,hx⟩;.have:=hf.2 x hx;omega
    omega
   have:low f h v h=aA m:=by simp[low,ho,put,hv]
   rw[this];refine⟨dE hf.1,λ x hx=>?_⟩;rcases hx with hx|⟨_,hx⟩;.exact hf.2 x hx
   omega
 have:low f g v h=f h:=by
  unfold low
  cases f g with
  |none=>simp[put,he]
  |some u=>by_cases hv:v<u<;>simp[put,he,hv]
 rw[this];exact hf.congr λ x=>⟨dE,λ hx=>hx.elim id λ hx=>absurd hx.1.symm he⟩
def aXR(s:St)(c:Int)(h:Nat):∀n,OMin (fT s c n h) (λ x=>∃i,i<n/\uR s c i=aB/\(s.tsk i).group.toNat=h/\x=(s.tsk i).v)
 |0=>λ x hx=>by obtain⟨i,hi,_⟩:=hx;omega
 |n+1=>by
  have ih:=aXR s c h n;rw[fT];by_cases ht:uR s c n=aB
  .rw[iP ht];refine(aLO (g:=(s.tsk n).group.toNat) (v:=(s.tsk n).v) ih).congr λ x=>?_;constructor
   .rintro(⟨i,h1,h2⟩|⟨h1,h2⟩);.exact⟨i,oO,h2⟩
    exact⟨n,oO,ht,h1,h2⟩
   rintro⟨i,h1,h2,h3,h4⟩;by_cases he:i=n;.subst he;exact dP ⟨h3,h4⟩
   exact dE ⟨i,oO,h2,h3,h4⟩
  rw[iN ht];refine ih.congr λ x=>?_;constructor;.rintro⟨i,h1,h2⟩;exact⟨i,oO,h2⟩
  rintro⟨i,h1,h2,h3⟩;by_cases he:i=n;.subst he;exact absurd h2 ht
  exact⟨i,oO,h2,h3⟩
def aQG(s:St)(c j h:Nat)(x:Int):Prop:=
 (∃i,i<s.nt/\uR s c i=aB/\(s.tsk i).group.toNat=h/\x=(s.tsk i).v)∨
 (∃q,q<j/\0<s.ns-1-q/\(dF s c q (s.ns-1-q)).isSome=aB/\(s.par (s.ns-1-q)).toNat=h/\x=(s.sp (s.ns-1-q) c).v)
def RK(s:St)(c h:Nat):∀j,OMin (dF s c j h) (aQG s c j h)
 |0=>(aXR s c h s.nt).congr λ x=>⟨.inl,λ hx=>hx.elim id λ⟨q,hq,_⟩=>absurd hq (bU _)⟩
 |j+1=>by
  have ih:=RK s c h j;rw[dF,HH];have mono:∀x,aQG s c j h x->aQG s c (j+1) h x:=λ x hx=>hx.elim dE λ⟨q,hq,r⟩=>dP ⟨q,oO,r⟩
  cases hm:dF s c j (s.ns-1-j)with
  |none=>
   have hn:=hm;refine ih.congr λ x=>⟨mono x,?_⟩;rintro(hx|⟨q,hq,h1,h2,h3⟩);.exact dE hx
   by_cases he:q=j;.subst he;rw[hn]at h2;cases h2
   exact dP ⟨q,oO,h1,h2,h3⟩
  |some m=>
   simp only;by_cases hg:0<s.ns-1-j
   .rw[iP hg];refine(aLO ih).congr λ x=>⟨?_,?_⟩
    .rintro(hx|⟨h1,h2⟩);.exact mono x hx
     exact dP ⟨j,oO,hg,by rw[hm];rfl,h1,h2⟩
    rintro(hx|⟨q,hq,h1,h2,h3,h4⟩);.exact dE (dE hx)
    by_cases he:q=j;.subst he;exact dP ⟨h3,h4⟩
    exact dE (dP ⟨q,oO,h1,h2,h3,h4⟩)
   rw[iN hg];refine ih.congr λ x=>⟨mono x,?_⟩;rintro(hx|⟨q,hq,h1,h2,h3⟩);.exact dE hx
   by_cases he:q=j;.subst he;exact absurd h1 hg
   exact dP ⟨q,oO,h1,h2,h3⟩
def mem_flatM{f:Nat->List Mem}{x:Mem}:∀ {n:Nat},x∈DN f n↔∃i,i<n/\x∈f i
 |0=>by simp[DN]
 |n+1=>by
  rw[aHO,dJ,mem_flatM];constructor
  .rintro(⟨i,h1,h2⟩|h);.exact⟨i,oO,h2⟩
   exact⟨n,oO,h⟩
  rintro⟨i,h1,h2⟩;by_cases he:i=n;.subst he;exact dP h2
  exact dE ⟨i,oO,h2⟩
def mem_ifM{f x:Mem}:x∈ifM b f↔b=aB/\x=f:=by cases b<;>simp[ifM]
def aCE(s:St)(hk:FloorOk s)(g c:Nat)(x:Int):(∃m∈DN (a4D s g c) s.nt,m.v=x)↔∃i,i<s.nt/\uR s c i=aB/\(s.tsk i).group.toNat=g/\x=(s.tsk i).v:=by
 constructor;.rintro⟨m,hm,rfl⟩;obtain⟨i,hi,hm⟩:=mem_flatM.1 hm;obtain⟨h1,rfl⟩:=mem_ifM.1 hm;simp only[inQ,aO,dTt]at h1;exact⟨i,hi,by simp[uR,h1],oO,rfl⟩
 rintro⟨i,hi,h1,h2,rfl⟩;simp only[uR,aO,dTt]at h1;have:=hk.grp i hi;exact⟨_,mem_flatM.2 ⟨i,hi,mem_ifM.2 ⟨by simp only[inQ,aO,dTt];exact⟨h1.1,oO,h1.2⟩,rfl⟩⟩,rfl⟩
def aCD(s:St)(hk:FloorOk s)(c:Nat):∀(f g:Nat),g<s.ns->s.ns-g<=f+1->∀x,(∃m∈HV s c f g,m.v=x)↔aQG s c (s.ns-1-g) g x
 |0,g,hg,hf,x=>by have e:s.ns-1-g=0:=oO;rw[HV,aCE s hk,e];exact⟨dE,λ hx=>hx.elim id λ⟨q,hq,_⟩=>absurd hq (bU _)⟩
 |f+1,g,hg,hf,x=>by
  have ih:=aCD s hk c f;have hT:=aCE s hk g c x
  have sub:∀h,h<s.ns->g<h->((HV s c f h).isEmpty=aF↔(dF s c (s.ns-1-h) h).isSome=aB):=λ h h1 h2=>by
   rw[(RK s c h (s.ns-1-h)).some_iff];constructor
   .intro he
    cases hl:HV s c f h with
    |nil=>rw[hl]at he;cases he
    |cons m l=>exact⟨m.v,(ih h h1 oO m.v).1 ⟨m,by rw[hl];simp,rfl⟩⟩
   rintro⟨y,hy⟩;obtain⟨m,hm,_⟩:=(ih h h1 oO y).2 hy
   cases hl:HV s c f h with
   |nil=>rw[hl]at hm;cases hm
   |cons m l=>rfl
  rw[aPZ];constructor
  .rintro⟨m,hm,hv⟩;rcases dJ.1 hm with hm|hm;.exact dE (hT.1 ⟨m,hm,hv⟩)
   obtain⟨h,h1,hm⟩:=mem_flatM.1 hm;obtain⟨h2,rfl⟩:=mem_ifM.1 hm;simp only[aO,dTt,dV]at h2;obtain⟨⟨h3,h4⟩,h5⟩:=h2;have hp:=hk.par h h3 h1;have hs:=(sub h h1 oO).1 h5;have e:s.ns-1-(s.ns-1-h)=h:=oO;refine dP ⟨s.ns-1-h,oO,oO,?_,?_,?_⟩;.rw[e];exact hs
   .rw[e];omega
   rw[e];exact hv.symm
  rintro(hx|⟨q,hq,h1,h2,h3,h4⟩);.obtain⟨m,hm,hv⟩:=hT.2 hx;exact⟨m,List.mem_append_left _ hm,hv⟩
  obtain⟨h,eh⟩:=xE (s.ns-1-q);rw[<-eh]at h1 h2 h3 h4;have hp:=hk.par h h1 oO;have hq':q=s.ns-1-h:=oO;rw[hq']at h2;refine⟨⟨(s.sp h c).v,1,(h:Int)⟩,List.mem_append_right _ (mem_flatM.2 ⟨h,oO,mem_ifM.2 ⟨?_,rfl⟩⟩),h4.symm⟩;simp only[aO,dTt,dV];exact⟨⟨h1,oO⟩,(sub h oO oO).2 h2⟩
def aDZ{f:Nat->Bool}:∀ {n:Nat},aIR f n=n↔∀i,i<n->f i=aB
 |0=>⟨λ _ i hi=>oO,λ _=>rfl⟩
 |n+1=>by
  have h1:=aNH f n;have ih:=aDZ (f:=f) (n:=n);rw[aIR];by_cases hf:f n=aB
  .rw[hf];constructor
   .intro h i hi;by_cases he:i=n;.subst he;exact hf
    exact ih.1 (by simp at h;omega) i oO
   intro h;have:=ih.2 λ i hi=>h i oO;simp;omega
  rw[bVK]at hf;rw[hf];constructor;.intro h;simp at h;omega
  intro h;have:=h n oO;rw[hf]at this;cases this
def aDI(s:St)(hk:FloorOk s)(g c:Nat)(hg:g<s.ns):sH s c (s.ns-1-g)=VP s g c:=by
 have e:s.ns-1-(s.ns-1-g)=g:=oO;have hm:=RK s c g (s.ns-1-g);have hi:=aCD s hk c s.ns g hg oO
 have hall:∀l:List Mem,aIR (ZR s g c l) l.length=l.length↔∀m∈l,(s.sp g c).floor<m.v:=λ l=>by
  rw[aDZ];constructor;.intro h m hm;obtain⟨i,hi,rfl⟩:=List.getElem_of_mem hm;have:=h i hi;simpa [ZR,bAZ,aU,aN hi]using this
  intro h i hi;have:=h l[i] (zY hi);simpa [ZR,bAZ,aU,aN hi]using this
 unfold sH HG VP;rw[e]
 cases hd:dF s c (s.ns-1-g) g with
 |none=>
  rw[hd]at hm
  have:HV s c s.ns g=[]:=by
   cases hl:HV s c s.ns g with
   |nil=>rfl
   |cons m l=>exact absurd ((hi m.v).1 ⟨m,by rw[hl];simp,rfl⟩) (hm m.v)
  rw[this];simp[jC]
 |some v=>
  rw[hd]at hm;simp only;congr 1;rw[eY,dTt,dTt,hall];constructor;.intro h;obtain⟨m,hm1,hm2⟩:=(hi v).2 hm.1;refine⟨List.length_pos_of_mem hm1,λ m' hm'=>?_⟩;have:=hm.2 m'.v ((hi m'.v).1 ⟨m',hm',rfl⟩);omega
  rintro⟨_,h⟩;obtain⟨m,hm1,hm2⟩:=(hi v).2 hm.1;have:=h m hm1;omega
def aDH(s:St)(hk:FloorOk s):(xW s).Perm (xX s):=by unfold xW xX aQR rD;refine flats_comm.trans (QT λ c hc=>iF.trans ?_ (VQ (f:=sH s c) (n:=s.ns)));rw[oA (f:=λ g=>VP s g c) (g:=λ g=>sH s c (s.ns-1-g)) λ g hg=>(aDI s hk g c hg).symm]
def aOL(s:St)(hw:Wf s)(i:Nat)(h0:0<=s.cpus)(h1:s.cpus<=64):vS s i=cI (λ r=>MF s r i) 7:=by have e8:=aSY s hw i h0 h1;have e9:=bFA s hw i h1;simp[cI,MF,brk,vS,dA,e8,e9]
def aFL(s:St)(hw:Wf s)(h0:0<=s.cpus)(h1:s.cpus<=64):(cI (ZO s) 7).Perm (AA s):=by unfold AA ZO;rw[oA (f:=vS s) (g:=λ i=>cI (λ r=>MF s r i) 7) λ i _=>aOL s hw i h0 h1];exact flats_comm
def aTJ(s:St)(hw:Wf s)(hv:∀g c,0<=(s.sp g c).v)(hp:PartOk s):CO s=cI (CV s) s.cpus.toNat++cI (MQ s) s.ns:=by
 obtain⟨n,hn⟩:∃n,s.ns=n+1:=⟨s.ns-1,by have:=hp.ns1;omega⟩;unfold CO;have h0:s.nsp 0=s.cpus.toNat:=by have:=hp.sp 0 oO;omega
 rw[hn,xY,xY];have e0:MQ s 0=[]:=rfl;rw[e0,aZ];congr 1;unfold uY;rw[h0];refine oA λ c hc=>?_;unfold vV CV;rw[iP rfl];congr 1;have:=hv 0 c;have:=hw.sr 0 c;rw[eY,dTt,dTt];omega
def aGA(s:St)(hw:Wf s)(hv:∀g c,0<=(s.sp g c).v)(hp:PartOk s):(pH s).Perm (vE s++(AA s++CO s)):=by
 have hT:=aFL s hw hp.c0 hp.c1;have hnu:s.cpus.toNat=s.nu:=by have:=hp.nu;omega
 rw[aTJ s hw hv hp];unfold pH vE;rw[hnu];have hc:=List.perm_iff_count.1 hT;rw[List.perm_iff_count];intro a;have:=hc a;simp only[List.count_append];omega
def BU(h:x.r<y.r):leF x y:=by unfold leF;omega
def VC(h:x.r=y.r)(h1:x.a<y.a):leF x y:=by unfold leF;omega
def a8S(h:x.r=y.r)(h1:x.a=y.a)(h2:x.b<=y.b):leF x y:=by unfold leF;omega
def DC(h:x∈mH s g):x=⟨2,3,g⟩:=by unfold mH at h;split at h<;>simp at h;exact h
def aVP(h:x∈cI (qD s) n):x.r=3/\(0<=x.a/\x.a<n)/\x.b=0:=by obtain⟨i,hi,h⟩:=mem_flats.1 h;obtain⟨_,rfl⟩:=mem_iff1.1 h;exact⟨rfl,by simp only;omega,rfl⟩
def QA(h:x∈cI (BW s) n):x.r=13/\(0<=x.a/\x.a<n)/\x.b=0:=by obtain⟨i,hi,h⟩:=mem_flats.1 h;obtain⟨_,rfl⟩:=mem_iff1.1 h;exact⟨rfl,by simp only;omega,rfl⟩
def PY(h:x∈cI (CV s) n):x.r=12/\(0<=x.a/\x.a<n)/\x.b=0:=by obtain⟨i,hi,h⟩:=mem_flats.1 h;obtain⟨_,rfl⟩:=mem_iff1.1 h;exact⟨rfl,by simp only;omega,rfl⟩
def XW{r:Nat}(h:x∈ZO s r):x.r=r+4/\(0<=x.a/\x.a<s.nt)/\x.b=0:=by obtain⟨i,hi,h⟩:=mem_flats.1 h;obtain⟨_,rfl⟩:=mem_iff1.1 h;exact⟨rfl,by simp only;omega,rfl⟩
def XV(h:x∈MQ s g):x.r=11/\x.a=g/\(0<=x.b/\x.b<s.nsp g):=by
 unfold MQ at h;split at h;.cases h
 obtain⟨i,hi,h⟩:=mem_flats.1 h;obtain⟨_,rfl⟩:=mem_iff1.1 h;exact⟨rfl,rfl,by simp only;omega⟩
def aGQ(h:x∈aQR s g):x.r=14/\x.a=g/\(0<=x.b/\x.b<s.cpus.toNat):=by obtain⟨i,hi,h⟩:=mem_flats.1 h;obtain⟨_,rfl⟩:=mem_iff1.1 h;exact⟨rfl,rfl,by simp only;omega⟩
variable{b:Nat->Bool}
def sN{a b:List Flt}(h1:a.Pairwise R)(h2:b.Pairwise R)(h3:∀x∈a,∀y∈b,R x y):(a++b).Pairwise R:=bWF.2 ⟨h1,h2,h3⟩
def wM{f:Nat->List Flt}(h:∀i,f i=jC (b i) ⟨r,(i:Int),0⟩):(cI f n).Pairwise leF:=
 lV (λ i _=>by rw[h];exact LV) (λ i j hij _ x hx y hy=>by rw[h]at hx hy;obtain⟨_,rfl⟩:=mem_iff1.1 hx;obtain⟨_,rfl⟩:=mem_iff1.1 hy;exact VC rfl (by simp only;omega))
def FX{f:Nat->List Flt}{a:Int}(h:∀i,f i=jC (b i) ⟨r,a,(i:Int)⟩):(cI f n).Pairwise leF:=
 lV (λ i _=>by rw[h];exact LV) (λ i j hij _ x hx y hy=>by rw[h]at hx hy;obtain⟨_,rfl⟩:=mem_iff1.1 hx;obtain⟨_,rfl⟩:=mem_iff1.1 hy;exact a8S rfl rfl (by simp only;omega))
def QL{R:Flt->Flt->Prop} [Decidable p]{f:Flt}:(if p then [f]else []).Pairwise R:=by split<;>simp
def NK[Decidable p]{f:Flt}(h:x∈(if p then [f]else [])):x=f:=by split at h<;>simp at h;exact h
def LJ(h:x∈(if s.ns≠s.ng then [⟨2,2,0⟩]else cI (mH s) s.ns)):x.r=2/\(2<=x.a/\x.a<=3)/\(0<=x.b/\x.b<=s.ns):=by
 split at h;.simp at h;subst h;exact⟨rfl,sS,sS⟩
 obtain⟨i,hi,h⟩:=mem_flats.1 h;rw[DC h];exact⟨rfl,sS,by simp only;omega⟩
def ST(s:St):(lQ s).Pairwise leF:=by
 unfold lQ;refine sN (sN QL QL λ x hx y hy=>?_) ?_ λ x hx y hy=>?_;.rw[NK hx,NK hy];exact VC rfl sS
 .split;.simp
  refine lV (λ i _=>by unfold mH;split<;>simp) λ i j hij _ x hx y hy=>?_;rw[DC hx,DC hy];exact a8S rfl rfl (by simp only;omega)
 obtain⟨h1,h2,h3⟩:=LJ hy;rcases dJ.1 hx with hx|hx<;>rw[NK hx]<;>exact VC h1.symm (by simp only;omega)
def XQ(s:St):(pH s).Pairwise leF:=by
 have hB:∀x∈cI (ZO s) 7,4<=x.r/\x.r<=10:=λ x hx=>by obtain⟨i,hi,hx⟩:=mem_flats.1 hx;have:=XW hx;omega
 have hS:∀x∈cI (MQ s) s.ns,x.r=11:=λ x hx=>by obtain⟨i,hi,hx⟩:=mem_flats.1 hx;exact(XV hx).1
 unfold pH;refine sN (wM λ i=>rfl) (sN ?_ (sN ?_ (sN (wM λ i=>rfl) (wM λ i=>rfl) λ x hx y hy=>?_) λ x hx y hy=>?_) λ x hx y hy=>?_) λ x hx y hy=>?_;.refine lV (λ i _=>wM λ i=>rfl) λ i j hij _ x hx y hy=>?_;have:=XW hx;have:=XW hy;exact BU oO
 .refine lV (λ i _=>?_) λ i j hij _ x hx y hy=>?_
  .unfold MQ;split;.exact vH.nil
   exact FX λ i=>rfl
  have:=XV hx;have:=XV hy;exact VC oO oO
 .have:=PY hx;have:=QA hy;exact BU oO
 .have:=hS x hx;rcases dJ.1 hy with hy|hy;.have:=PY hy;exact BU oO
  have:=QA hy;exact BU oO
 .have:=hB x hx;rcases dJ.1 hy with hy|hy;.have:=hS y hy;exact BU oO
  rcases dJ.1 hy with hy|hy;.have:=PY hy;exact BU oO
  have:=QA hy;exact BU oO
 have:=aVP hx;rcases dJ.1 hy with hy|hy;.have:=hB y hy;exact BU oO
 rcases dJ.1 hy with hy|hy;.have:=hS y hy;exact BU oO
 rcases dJ.1 hy with hy|hy;.have:=PY hy;exact BU oO
 have:=QA hy;exact BU oO
def TH(s:St):(xW s).Pairwise leF:=by refine lV (λ i _=>FX λ i=>rfl) λ i j hij _ x hx y hy=>?_;have:=aGQ hx;have:=aGQ hy;exact VC oO oO
def TN(s:St):(dR s).Pairwise leF:=by
 unfold dR;split;.simp
 split;.exact ST s
 split;.exact XQ s
 exact TH s
def okN(x:Flt):Prop:=(0<=x.r/\x.r<256)/\(0<=x.a/\x.a<1000000)/\(0<=x.b/\x.b<1000000)
def aOV(s:St)(hs:s.Small):∀x∈lQ s,okN x:=λ x hx=>by
 have:=hs.ns;unfold lQ at hx;rcases dJ.1 hx with hx|hx;.rcases dJ.1 hx with hx|hx<;>rw[NK hx]<;>simp[okN]
 have:=LJ hx;unfold okN;omega
def aUV(s:St)(hs:s.Small)(hc:s.cpus<=64):∀x∈pH s,okN x:=λ x hx=>by
 obtain⟨hng,hnk,hnu,hnt,hns,hnsp⟩:=id hs;unfold okN;unfold pH at hx;rcases dJ.1 hx with hx|hx;.have:=aVP hx;omega
 rcases dJ.1 hx with hx|hx;.obtain⟨i,hi,hx⟩:=mem_flats.1 hx;have:=XW hx;omega
 rcases dJ.1 hx with hx|hx;.obtain⟨i,hi,hx⟩:=mem_flats.1 hx;have:=XV hx;have:=hnsp i hi;omega
 rcases dJ.1 hx with hx|hx;.have:=PY hx;omega
 have:=QA hx;omega
def aQT(s:St)(hs:s.Small)(hc:s.cpus<=64):∀x∈xW s,okN x:=λ x hx=>by have:=hs.ns;obtain⟨i,hi,hx⟩:=mem_flats.1 hx;have:=aGQ hx;unfold okN;omega
def aRH(s:St)(hs:s.Small):∀x∈dR s,okN x:=by
 intro x hx;unfold dR at hx;by_cases hr:jQ s=aF;.rw[iP hr]at hx;simp at hx;subst hx;simp[okN]
 rw[iN hr]at hx;have hc:=(iJ (s:=s) (by simpa using hr)).1.2.1;split at hx;.exact aOV s hs x hx
 split at hx;.exact aUV s hs hc x hx
 exact aQT s hs hc x hx
def floorOk(s:St)(h12:s.ns<=12)(hr:jQ s=aB)(hsh:(lQ s).length=0)(hT:(AA s).length=0):FloorOk s:=by
 obtain⟨⟨h1,h2,h3,h4,h5,h6,h7⟩,hall⟩:=iJ hr;obtain⟨k1,k2,k3,k4⟩:=shapes_nil hsh;refine⟨λ i hi=>?_,λ g hg hn=>?_,k4,oO,oO,h2,h12⟩
 .have h:=KP hT i hi;have h6:t6 s i=aF:=by unfold vS at h;simp only[bEH,mZ]at h;exact h.2.2.1
  simp only[t6,dFn]at h6;omega
 have:=hall g hg oO;simp only[okR,aO,dTt]at this;exact HO hg this.2
end Go.Proofs.T
end
section
namespace Go.Proofs.T
open Go Go.AM Go.Proofs Go.RowKit
attribute [local go_sem] Oper.semAt_some
noncomputable def aDW:Code:=match Tryz.f272.body with
 |some (.seq _ (.seq _ (.seq (.seq _ (.block _ (.rangeFunc _ _ _ b))) _)))=>b
 |_=> .skip
noncomputable def ZF(fn:FuncId)(sl:Value)(g:Int)(N:Nat)(st:LoopState)(pend:Option Code):Loop:=
 {state:=st,pending:=pend,fn,tmps:= #[sl,.int .i64 g,undef,undef,.int .i64 0,.pointer (aA ⟨N,0,aC⟩),sl,.int .i64 g,.func (.func 315) #[] #[.pointer (aA ⟨N+2,0,aC⟩),.pointer (aA ⟨N+1,0,aC⟩)],undef,undef,undef,undef],params:= #[9],assign:= .skip,body:=aDW,defers:=N+3}
structure DMid (fn:FuncId) (sl:Value) (g:Int) (w:World) (x y:Int) (W:World):Prop where
 c:W.cell? ⟨w.heap.size,0,aC⟩=aA (.int .i64 x)
 f:W.frozen? ⟨w.heap.size,0,aC⟩=aF
 cl:W.cell? ⟨w.heap.size+1,0,aC⟩=aA sl
 cg:W.cell? ⟨w.heap.size+2,0,aC⟩=aA (.int .i64 y)
 fg:W.frozen? ⟨w.heap.size+2,0,aC⟩=aF
 L:W.heap[w.heap.size+4]? =aA (.loop (ZF fn sl g w.heap.size .ready aC))
 K:W.heap[w.heap.size+3]? =aA (.deferred (aA []))
 b:Below w.heap.size w W
def EY{B:Nat}{w W:World}(h:Below B w W){r:Nat}(hr:B<=r)(o:Obj):Below B w (W.putObj r o):=
 ⟨h.os,h.tape,h.output,by rw[World.putObj_size];exact h.size,λ k hk=>(World.putObj_heap_other oO).trans (h.block k hk)⟩
def aYO(F:Fence)(m:Nat)(fn:FuncId)(hfn:F.fn fn)(sl:Value)(g:Int)(w:World)(x y:Int)(hx: -1<=x)(hx2:x<=100000)(W:World)(h:DMid fn sl g w x y W):
 RoundIn F m aG (w.heap.size+4) fn #[sl,.int .i64 g,undef,undef,.int .i64 0,.pointer (aA ⟨w.heap.size,0,aC⟩),sl,.int .i64 g,.func (.func 315) #[] #[.pointer (aA ⟨w.heap.size+2,0,aC⟩),.pointer (aA ⟨w.heap.size+1,0,aC⟩)],.int .i64 y,undef,undef,undef] .skip aDW W
  λ e W'=>e= .returned (.bool aB)/\DMid fn sl g w (x+1) y W':=by
 refine roundIn_of_wpIn hfn ?_;have hl:w.heap.size+4<W.heap.size:=(dK.1 h.L).1;have hbr:=run_beginRound (P:=aG) h.L rfl;obtain⟨W2,hW2⟩:∃W2,W.putObj (w.heap.size+4) (.loop {ZF fn sl g w.heap.size .ready aC with state:= .busy})=W2:=⟨_,rfl⟩;rw[hW2]at hbr;have hk:∀k,k≠w.heap.size+4->W2.heap[k]? =W.heap[k]? :=λ k hk=>by rw[<-hW2];exact World.putObj_heap_other hk
 have hc2:W2.cell? ⟨w.heap.size,0,aC⟩=aA (.int .i64 x):=(World.cell?_of_block (hk w.heap.size oO)).trans h.c;have hf2:W2.frozen? ⟨w.heap.size,0,aC⟩=aF:=(World.frozen?_of_block (hk w.heap.size oO)).trans h.f;have hL2:W2.heap[w.heap.size+4]? =aA (.loop {ZF fn sl g w.heap.size .ready aC with state:= .busy}):=by rw[<-hW2];exact World.putObj_heap_same hl
 have hb2:Below w.heap.size w W2:=by rw[<-hW2];exact EY h.b oO _
 clear hW2;have hwr:wrap64 (x+1)=x+1:=by unfold wrap64;omega
 gi_wp2
 conv in aDW=>whnf
 gi_wp2
 have hk3:∀k,k≠w.heap.size->(W2.setCell ⟨w.heap.size,0,aC⟩ (.int .i64 (x+1))).heap[k]? =W2.heap[k]? :=λ k hk=>Below.heap_setCell W2 ⟨w.heap.size,0,aC⟩ _ k hk;have hL3:=(hk3 (w.heap.size+4) oO).trans hL2;have hl3:=(dK.1 hL3).1
 have hall:∀(o:Obj) (k:Nat),k≠w.heap.size->k≠w.heap.size+4->((W2.setCell ⟨w.heap.size,0,aC⟩ (.int .i64 (x+1))).putObj (w.heap.size+4) o).heap[k]? =W.heap[k]? :=λ o k h1 h2=>
  (World.putObj_heap_other h2).trans ((hk3 k h1).trans (hk k h2))
 refine⟨_,_,run_endRound aC hL3,rfl,?_,?_,?_,?_,?_,?_,?_,?_⟩;.exact(World.cell?_of_block (World.putObj_heap_other (k:=w.heap.size) oO)).trans (World.cell?_setCell_same' _ _ _ (by rw[hc2];rfl))
 .exact(World.frozen?_of_block (World.putObj_heap_other (k:=w.heap.size) oO)).trans (by rw[World.frozen?_setCell];exact hf2)
 .exact(World.cell?_of_block (hall _ (w.heap.size+1) oO oO)).trans h.cl
 .exact(World.cell?_of_block (hall _ (w.heap.size+2) oO oO)).trans h.cg
 .exact(World.frozen?_of_block (hall _ (w.heap.size+2) oO oO)).trans h.fg
 .exact World.putObj_heap_same hl3
 .exact(hall _ _ oO oO).trans h.K
 exact EY (hb2.setCell (p:=⟨w.heap.size,0,aC⟩) (aJ _) _) oO _
def aKT(par:Nat->Int):∀f g,uJ par f g<=f
 |0,g=>by simp[uJ]
 |f+1,g=>by
  rw[uJ];split;.omega
  have:=aKT par f (par g).toNat;omega
structure Pars (w:World) (b o cap n:Nat) (par:Nat->Int):Prop where
 lt:b<w.heap.size
 at_:∀i,i<n->w.cell? ⟨b,o+i*2,aC⟩=aA (.int .i64 (par i))
noncomputable def dMu(N:Nat)(W:World):Nat:=match W.cell? ⟨N+2,0,aC⟩with
 |some (.int _ y)=>y.toNat
 |_=>0
def Pars.get {w W:World}{b o cap n:Nat}{par:Nat->Int}(h:Pars w b o cap n par)(hb:Below w.heap.size w W)(i:Nat)(hi:i<n):W.cell? ⟨b,o+i*2,aC⟩=aA (.int .i64 (par i)):=
 (World.cell?_of_block (hb.block b h.lt)).trans (h.at_ i hi)
def a9M(F:Fence)(n:Nat)(hF:F.fn 315)(hro:F.round=aC)(hn:1<=n)(fn:FuncId)(hfn:F.fn fn)(w:World)(b o cap N:Nat)(par:Nat->Int)(hp:Pars w b o cap N par)(g:Nat)(hg:g<N)(hN:N<=1000)(hv:∀j,1<=j->j<=g->0<=par j/\par j<j)
 (W:World) (h:DMid fn (.slice (aA ⟨b,o,aC⟩) N cap) g w (-1) g W):
 CallsIn F n aG 315 #[.func (.yield (w.heap.size+4)) #[] #[],.pointer (aA ⟨w.heap.size+2,0,aC⟩),.pointer (aA ⟨w.heap.size+1,0,aC⟩)] W λ e W'=>(∃v,e= .returned v)/\∃y,DMid fn (.slice (aA ⟨b,o,aC⟩) N cap) g w (uJ par g g) y W':=by
 refine callsIn_of_wp Tryz.func315 rfl hF ?_ hro;simp only[Tryz.ntmps315,fE,iI,FM,aAC,Nat.reduceSub,bWJ,bWI,List.push_toArray,List.append_toArray,aZ,bA];refine wpIn_block (wpIn_loop (λ a' W'=>∃(y:Nat) (x:Int) (x4 x5 x6 x7 x8 x9 x10 x11 x12 x13 x14 x15:Value),a'={tmps:= #[.func (.yield (w.heap.size+4)) #[] #[],.pointer (aA ⟨w.heap.size+2,0,aC⟩),.pointer (aA ⟨w.heap.size+1,0,aC⟩),undef,x4,x5,x6,x7,x8,x9,x10,x11,x12,x13,x14,x15],defers:=[]}/\y<=g/\ -1<=x/\x+1+uJ par y y=uJ par g g/\DMid fn (.slice (aA ⟨b,o,aC⟩) N cap) g w x y W') (λ _ W'=>dMu w.heap.size W') ⟨g, -1,_,_,_,_,_,_,_,_,_,_,_,_,rfl,aJ _,oO,oO,h⟩ ?_);rintro a' W' ⟨y,x,x4,x5,x6,x7,x8,x9,x10,x11,x12,x13,x14,x15,rfl,hy,hx,hs,h'⟩;have hpd:uJ par g g<=1000:=pL (aKT par g g) oO;have hy1:(Instr.yield (w.heap.size+4) #[.int .i64 (y:Int)]).run aG W'= .ok (.round (w.heap.size+4) fn #[.slice (aA ⟨b,o,aC⟩) N cap,.int .i64 (g:Int),undef,undef,.int .i64 0,.pointer (aA ⟨w.heap.size,0,aC⟩),.slice (aA ⟨b,o,aC⟩) N cap,.int .i64 (g:Int),.func (.func 315) #[] #[.pointer (aA ⟨w.heap.size+2,0,aC⟩),.pointer (aA ⟨w.heap.size+1,0,aC⟩)],.int .i64 (y:Int),undef,undef,undef] .skip aDW) W':=by simpa [ZF]using run_yield (P:=aG) (args:= #[.int .i64 (y:Int)]) h'.L rfl
 have hmu:dMu w.heap.size W'=y:=by unfold dMu;rw[h'.cg];simp
 have hcg:=h'.cg;have hcl:=h'.cl;by_cases hy0:0<(y:Int)
 .gi_wp2
  refine(aYO F (n-1) fn hfn _ g w x y hx oO W' h').mono ?_;rintro e W1 ⟨rfl,h1⟩;have hcg:=h1.cg;have hfg:=h1.fg;have hcl:=h1.cl;have hpar:=hp.get h1.b y oO;gi_wp2
  obtain⟨q,hq⟩:∃q:Nat,par y=q:=⟨(par y).toNat,by have:=hv y oO hy;omega⟩;have hv':=hv y oO hy;rw[hq]at hv'⊢
  have hk:∀k,k≠w.heap.size+2->(W1.setCell ⟨w.heap.size+2,0,aC⟩ (.int .i64 (q:Int))).heap[k]? =W1.heap[k]? :=λ k hk=>Below.heap_setCell W1 ⟨w.heap.size+2,0,aC⟩ _ k hk;have hc':(W1.setCell ⟨w.heap.size+2,0,aC⟩ (.int .i64 (q:Int))).cell? ⟨w.heap.size+2,0,aC⟩=aA (.int .i64 (q:Int)):=World.cell?_setCell_same' _ _ _ (by rw[hcg];rfl);refine⟨⟨q,x+1,_,_,_,_,_,_,_,_,_,_,_,_,rfl,oO,oO,?_,?_⟩,?_⟩;.obtain⟨y',hy'⟩:∃y',y=y'+1:=⟨y-1,oO⟩;subst hy';rw[uJ,iN oO,hq,bW,UK y' q oO (λ j h1 h2=>hv j h1 oO)]at hs;omega
  .refine⟨?_,?_,?_,hc',?_,?_,?_,?_⟩;.exact(World.cell?_of_block (hk w.heap.size oO)).trans h1.c
   .exact(World.frozen?_of_block (hk w.heap.size oO)).trans h1.f
   .exact(World.cell?_of_block (hk (w.heap.size+1) oO)).trans h1.cl
   .rw[World.frozen?_setCell];exact h1.fg
   .exact(hk _ oO).trans h1.L
   .exact(hk _ oO).trans h1.K
   exact h1.b.setCell (p:=⟨w.heap.size+2,0,aC⟩) (Nat.le_add_right _ _) _
  rw[hmu];unfold dMu;rw[hc'];simp only[bW];omega
 gi_wp2
 refine(aYO F (n-1) fn hfn _ g w x y hx oO W' h').mono ?_;rintro e W1 ⟨rfl,h1⟩;have hcg:=h1.cg;gi_wp2
 first|go_end0|go_ret
 obtain rfl:y=0:=oO;refine⟨⟨_,rfl⟩,(0:Nat),?_⟩;rw[uJ]at hs;rw[<-hs];simpa using h1
def bEV(F:Fence)(n:Nat)(h83:F.fn 299)(hro:F.round=aC)(ad:Option Addr)(N cap:Nat)(g:Int)(W:World):
 CallsIn F n aG 299 #[.slice ad N cap,.int .i64 g] W λ e W'=>e= .returned (.func (.func 315) #[] #[.pointer (aA ⟨W.heap.size+1,0,aC⟩),.pointer (aA ⟨W.heap.size,0,aC⟩)])/\∃t1 t2,W'=(W.alloc (.cells #[.slice ad N cap] t1)).alloc (.cells #[.int .i64 g] t2):=by
 refine callsIn_of_wp Tryz.func299 rfl h83 ?_ hro;simp only[Tryz.ntmps299,fE,iI,FM,aAC,Nat.reduceSub,bWJ,bWI,List.push_toArray,List.append_toArray,aZ,bA];gi_wp2
 first|go_end0|go_ret
 exact⟨rfl,_,_,rfl⟩
def aYL(F:Fence)(n:Nat)(h70:F.fn 272)(h83:F.fn 299)(h93:F.fn 315)(hro:F.round=aC)(hn:2<=n)(w:World)(b o cap N:Nat)(par:Nat->Int)(hp:Pars w b o cap N par)(g:Nat)(hg:g<N)(hN:N<=1000)(hv:∀j,1<=j->j<=g->0<=par j/\par j<j):
 CallsIn F n aG 272 #[.slice (aA ⟨b,o,aC⟩) N cap,.int .i64 (g:Int)] w λ e W'=>e= .returned (.int .i64 (uJ par g g:Nat))/\Below w.heap.size w W':=by
 refine callsIn_of_wp_marks Tryz.func272 rfl h70 ?_ hro;simp only[Tryz.ntmps272,fE,iI,FM,aAC,Nat.reduceSub,bWJ,bWI,List.push_toArray,List.append_toArray,aZ,bA];gi_wp2
 refine⟨λ _=>oO,(bEV F (n-1) h83 hro _ _ _ g _).mono ?_⟩;rintro e W0 ⟨rfl,t1,t2,hW0⟩;simp only[World.size_alloc]at hW0⊢
 have hs0:W0.heap.size=w.heap.size+3:=by rw[hW0];simp
 have hb0:Below w.heap.size w W0:=by rw[hW0];exact(((Below.refl _ w).alloc (aJ _) _).alloc sS _).alloc sO _
 have hh:W0.heap[w.heap.size]? =aA (.cells #[.int .i64 (-1)] 3)/\W0.heap[w.heap.size+1]? =aA (.cells #[.slice (aA ⟨b,o,aC⟩) N cap] t1)/\W0.heap[w.heap.size+2]? =aA (.cells #[.int .i64 (g:Int)] t2):=by
  rw[hW0];refine⟨?_,?_,?_⟩;.exact(Below.heap_alloc _ _ _ sO).trans ((Below.heap_alloc _ _ _ sS).trans (World.alloc_heap_new w _))
  .refine(Below.heap_alloc _ _ _ sS).trans ?_;have:=World.alloc_heap_new (w.alloc (.cells #[.int .i64 (-1)] 3)) (.cells #[.slice (aA ⟨b,o,aC⟩) N cap] t1);rwa [World.size_alloc]at this
  have:=World.alloc_heap_new ((w.alloc (.cells #[.int .i64 (-1)] 3)).alloc (.cells #[.slice (aA ⟨b,o,aC⟩) N cap] t1)) (.cells #[.int .i64 (g:Int)] t2);rwa [World.size_alloc,World.size_alloc]at this
 clear hW0;obtain⟨hh0,hh1,hh2⟩:=hh;gi_wp2
 refine wpIn_rangeFunc λ fn hfn=>?_;rw[hro];obtain⟨W1,hW1⟩:∃W1,(W0.alloc (.deferred (aA []))).alloc (.loop (ZF fn (.slice (aA ⟨b,o,aC⟩) N cap) g w.heap.size .ready aC))=W1:=⟨_,rfl⟩;have hold:∀k,k<W0.heap.size->W1.heap[k]? =W0.heap[k]? :=λ k hk=>by rw[<-hW1];exact(Below.heap_alloc _ _ k sO).trans (Below.heap_alloc _ _ k hk)
 have hM:DMid fn (.slice (aA ⟨b,o,aC⟩) N cap) g w (-1) g W1:=by
  have e0:=(hold w.heap.size oO).trans hh0;have e1:=(hold (w.heap.size+1) oO).trans hh1;have e2:=(hold (w.heap.size+2) oO).trans hh2;refine⟨by simp[World.cell?,e0],by simp[World.frozen?,e0],by simp[World.cell?,e1],by simp[World.cell?,e2],by simp[World.frozen?,e2],?_,?_,?_⟩;.rw[<-hW1];have:=World.alloc_heap_new (W0.alloc (.deferred (aA []))) (.loop (ZF fn (.slice (aA ⟨b,o,aC⟩) N cap) g w.heap.size .ready aC));rwa [World.size_alloc,hs0]at this
  .rw[<-hW1,<-hs0];exact(Below.heap_alloc _ _ _ sS).trans (World.alloc_heap_new W0 _)
  rw[<-hW1];exact(hb0.alloc oO _).alloc sO _
 refine⟨w.heap.size+4,[{target:= .collected (w.heap.size+3),args:= #[]}],W1,{target:= .fn (.func 315) #[.pointer (aA ⟨w.heap.size+2,0,aC⟩),.pointer (aA ⟨w.heap.size+1,0,aC⟩)],args:= #[.func (.yield (w.heap.size+4)) #[] #[]]},W1,315,
  #[.func (.yield (w.heap.size+4)) #[] #[],.pointer (aA ⟨w.heap.size+2,0,aC⟩),.pointer (aA ⟨w.heap.size+1,0,aC⟩)],W1,?_,?_,?_,?_,λ _=>oO,?_⟩
 .have:=run_enterLoop_outer (P:=aG) (w:=W0) fn (ZF fn (.slice (aA ⟨b,o,aC⟩) N cap) g w.heap.size .ready aC).tmps #[9] .skip aDW;rw[hs0]at this;rw[<-hW1];exact this
 .simp[resolve,go_sem]
 .intro f' hf';simp[Target.leads]at hf';subst hf';exact h93
 .simp[invoke,go_sem]
 refine(a9M F (n-1) h93 hro oO fn hfn w b o cap N par hp g hg hN hv W1 hM).mono ?_;rintro e W2 ⟨⟨v,rfl⟩,y,h2⟩;have hend:=run_endLoop (P:=aG) h2.L (by simp[ZF]);obtain⟨W3,hW3⟩:∃W3,W2.putObj (w.heap.size+4) (.loop {ZF fn (.slice (aA ⟨b,o,aC⟩) N cap) g w.heap.size .ready aC with state:= .exhausted})=W3:=⟨_,rfl⟩;rw[hW3]at hend;have hc3:W3.cell? ⟨w.heap.size,0,aC⟩=aA (.int .i64 (uJ par g g:Nat)):=by rw[<-hW3];exact(World.cell?_of_block (World.putObj_heap_other (k:=w.heap.size) oO)).trans h2.c
 have hK3:W3.heap[w.heap.size+3]? =aA (.deferred (aA [])):=by rw[<-hW3];exact(World.putObj_heap_other oO).trans h2.K
 have hb3:Below w.heap.size w W3:=by rw[<-hW3];exact EY h2.b oO _
 clear hW3;refine⟨aC,W3,hend,?_⟩;gi_wp2
 exact⟨sS,dE ⟨_,_,rfl,run_takeDeferred hK3,⟨_,results_tmp rfl _ _ _,rfl,EY hb3 oO _⟩⟩⟩
def aDS(w:World)(b o cap N:Nat)(par:Nat->Int)(hp:Pars w b o cap N par)(g:Nat)(hg:g<N)(hN:N<=1000)(hv:∀j,1<=j->j<=g->0<=par j/\par j<j):
 Calls aG 272 #[.slice (aA ⟨b,o,aC⟩) N cap,.int .i64 (g:Int)] w λ e W'=>e= .returned (.int .i64 (uJ par g g:Nat))/\Below w.heap.size w W':=
 callsIn_wide.1 (aYL Fence.wide 2 trivial trivial trivial rfl (aJ _) w b o cap N par hp g hg hN hv)
def SZ{Γ:dW}{w w':World}{G:Nat->Prop}{ρ:dH}{A:cF}{k:Nat}(hr:HRel Γ w G ρ (bK [] A))(h:Below w.heap.size w w'):
 HRel Γ w' G ρ (bK [] (kI A k k))/\Step (lX k) w G ρ w' G ρ:=by have hn:∀id,ρ id=aC:=λ id=>hr.dom id rfl;have hst:Step (lX k) w G ρ w' G ρ:=⟨h.size,λ b hb _=>h.block b hb,λ b hb=>shp_of (h.block b hb),λ _ h=>h,λ _ h=>dE h,λ _ h=>dE h,λ _ _=>dP rfl,h.os,h.tape,h.output⟩;refine⟨⟨λ id _=>hn id,λ id B A' hid=>by simp[bK,AM.look]at hid,hr.inj,λ b hb=>oW (hr.ro b hb) h.size,?_⟩,hst⟩;exact KM hr hst
def OJ(Γ:dW):JP Γ:=by
 intro s n g hg hn hv k A hA w G ρ cargs hr hvs;obtain⟨hlen,hvv⟩:=hvs;have h0:=hvv 0 _ rfl;have h1:=hvv 1 _ rfl
 have hc2:cargs= #[cargs.getD 0 undef,cargs.getD 1 undef]:=by
  have hsz:cargs.size=2:=hlen.symm;apply aJX;.simp[hsz]
  intro i hi1 hi2
  match i with
  |0=>simp[Array.getD,hsz]
  |1=>simp[Array.getD,hsz]
  |i+2=>omega
 have e1:cargs.getD 1 undef= .int .i64 (g:Int):=by generalize cargs.getD 1 undef=x at h1;cases h1;rfl
 obtain⟨b,o,cap,e0,hp⟩:∃b o cap,cargs.getD 0 undef= .slice (aA ⟨b,o,aC⟩) n cap/\Pars w b o cap n s.par:=by
  generalize cargs.getD 0 undef=x at h0
  cases h0 with
  |rd0=>omega
  |rd gv hb hcap hnm hl hc hv'=>refine⟨_,_,_,rfl,hr.ro _ hb,λ i hi=>?_⟩;have h2:=hc i 0 _ hi rfl;have h3:=hv' i 0 _ hi rfl;rw[kG]at h2;rw[h2];generalize gv i 0=z at h3;cases h3;rfl
 rw[hc2,e0,e1];refine(aDS w b o cap n s.par hp g hg hn hv).mono ?_;rintro e w' ⟨rfl,hbl⟩;obtain⟨q1,q2⟩:=SZ (k:=k) hr hbl;exact⟨_,G,ρ,k,_,[],rfl,⟨rfl,rfl,rfl⟩,aJ _,q1,.lit,q2⟩
end Go.Proofs.T
end
section
namespace Go.Proofs.T
open Go Go.AM Go.Proofs
variable{Γ:dW}
structure Kinds (s:St):Prop where
 wf:Wf s
 v0:∀g c,0<=(s.sp g c).v
def RP(s:St)(hk:Kinds s)(h12:s.ns<=12)(hr:jQ s=aB):(dR s).Perm (BC s):=by
 unfold dR BC;rw[iN (by rw[hr];simp),EI];by_cases h1:0<(lQ s).length;.rw[iP h1,iP h1]
 rw[iN h1,iN h1];obtain⟨hp,hpar⟩:=bAJ h12 hr oO;have hpp:=aGA s hk.wf hk.v0 hp;have hpl:(pH s).length=(sD s).length:=hpp.length_eq;rw[hpl];by_cases h2:0<(sD s).length;.rw[iP h2,iP h2];exact hpp
 rw[iN h2,iN h2];refine aDH s (floorOk s h12 hr oO ?_);unfold sD at h2;simp only[bT]at h2;omega
def aEC(s:St)(hq:PreOk s)(hk:Kinds s):Pure aG Γ 113 [.agg s.cells] (rows 3 ((dR s).map Flt.row)):=by
 refine check (OJ Γ) s hq (dR s) (λ h=>?_) (λ h1 h2 h3=>?_) (λ h=>?_) (λ h=>?_) (λ h=>?_);.rw[dR,<-DV,iP h]
 .rw[DV]at h1;rw[EI]at h2;refine floorOk s hq.n12 h1 h2 ?_;unfold sD at h3;simp only[bT]at h3;omega
 .rw[DV]at h;intro f hf;exact aRH s hq.sm f ((RP s hk hq.n12 h).mem_iff.2 hf)
 .rw[DV]at h;exact RP s hk hq.n12 h
 exact(TN s).imp λ {x y} hxy=>(RR y x).2 hxy
def RQ(s:St)(hq:PreOk s):(dR s).length<=100000:=by
 unfold dR;by_cases hr:jQ s=aF;.rw[iP hr];simp
 rw[iN hr];have hr':jQ s=aB:=by simpa using hr
 have hc:=(iJ hr').1.2.1;have:=hq.sm.nk;have:=hq.sm.nt;have:=hq.n12;split;.have:=FW s hq.n12;rw[EI]at this;omega
 split
 .unfold pH;simp only[bT];have h1:=fK (f:=qD s) (m:=1) (λ i=>jA _ _) s.nk;have h2:=fK (f:=ZO s) (m:=s.nt) (λ r=>by have:=fK (f:=MF s r) (m:=1) (λ i=>jA _ _) s.nt;unfold ZO;omega) 7
  have h3:=sI (f:=MQ s) (m:=12) s.ns (λ g hg=>by
   have:=fK (f:=aKH s g) (m:=1) (λ i=>jA _ _) (s.nsp g);have:=hq.p12 g hg;unfold MQ;split;.simp
   omega)
  have h4:=fK (f:=CV s) (m:=1) (λ i=>jA _ _) s.cpus.toNat;have h5:=fK (f:=BW s) (m:=1) (λ i=>jA _ _) s.cpus.toNat;omega
 have h1:=fK (f:=aQR s) (m:=64) (λ g=>by have:=fK (f:=VP s g) (m:=1) (λ i=>jA _ _) s.cpus.toNat;unfold aQR;omega) s.ns;unfold xW;omega
def pf(s:St)(i:Nat):List AVal:=[aD (aE aH (s.par i))]
attribute [go_sem] pf
def aBT(s:St)(i:Nat):List (List AVal):=(aR i).map (pf s)
def aPS(s:St):aBT s 0=[]:=rfl
def aPT(s:St)(i:Nat):aBT s (i+1)=aBT s i++[pf s i]:=PN
def aBS(s:St)(i:Nat):(aBT s i).length=i:=by simp[aBT]
attribute [go_sem] aBS
def aKU(s:St)(n:Nat)(hn:n<=1000):Pure aG Γ 115 [.rd 2 n (gf s)] (.rd 1 n (pf s)):=by
 refine cA Tryz.func115 rfl 19 rfl bB rfl λ k=>?_;have kp:=kN k [0,2,3,5,6,7,8,9];refine jI ?_;refine cD (X:=Nat) rfl [0,2,3,5,6,7,8,9] (k+1) (λ i=>[(8,i),(3,dI k (aBT s i))]) (λ i=>cM k 1 (aBT s i) []) (λ i=>i<=n) (λ i=>n-i) 0 ?_ (bF _) ?_;.rw[aPS];refine gG ?_;exact sB
 intro i hi;refine gG ?_;refine wl ?_;refine pN (λ ht=>?_) λ ht=>?_;.refine⟨i+1,oO,oO,?_⟩;rw[aPT];refine gG ?_;exact FI (k+3) k wL
 have hi':i=n:=oO;subst hi';refine aJW rfl (id:=k) (s:=1) (l:=aBT s i) 2 sL sL ⟨_,rfl,?_⟩;rw[rows,aBS];exact xF _ _ _
def aBB(n m:Nat)(f g:Nat->Int)(hn:n<=1000)(hm:m<=1000):Pure aG Γ 114 [.rd 1 n (λ i=>[(f i)]),.rd 1 m (λ i=>[(g i)])] (decide (n=m/\∀i,i<n->f i=g i)):=by
 refine cA Tryz.func114 rfl 26 rfl bB rfl λ k=>?_;have kp:=kN k [0,1,4,5,10,12,13,14,24];refine wl ?_;refine pN (λ ht=>?_) λ ht=>?_;.refine cB rfl ⟨_,rfl,bG ?_⟩;rw[decide_eq_false (by rintro⟨h1,_⟩;omega)]
 refine cD (X:=Nat) rfl [0,1,4,5,10,12,13,14,24] k (λ i=>[(13,i)]) (λ i=>[]) (λ i=>i<=n/\∀j,j<i->f j=g j) (λ i=>n-i) 0 ?_ ⟨bF _,λ j hj=>absurd hj (bU _)⟩ ?_;.refine gG ?_;exact sB
 rintro i ⟨hi,hall⟩;refine gG ?_;refine wl ?_;refine kS (gB λ ht ht=>?_) (gB λ ht ht=>?_) (rX λ ht=>?_);.refine cB rfl ⟨_,rfl,bG ?_⟩;rw[decide_eq_false (by rintro⟨h1,h2⟩;have:=h2 i oO;omega)]
 .refine⟨i+1,⟨oO,λ j hj=>?_⟩,oO,?_⟩
  .by_cases he:j=i;.subst he;omega
   exact hall j oO
  refine gG ?_;exact sB
 refine cB rfl ⟨_,rfl,bG ?_⟩;rw[decide_eq_true (by refine⟨oO,λ j hj=>hall j oO⟩)]
def FC {us vs:List AVal}(h:VLes us vs):VLe (.tup us) (.tup vs):=λ w G ρ A cv hv=>by
 obtain⟨h1,h2⟩:=h.spec
 cases hv with
 |tup h3 h4=>refine .tup oO λ j v hj=>?_;have hlt:=(aL.1 hj).1;have hu:us[j]? =aA us[j]:=aN oO;exact h2 j _ v hu hj _ _ _ _ _ (h4 j _ hu)
def SS(a b:St)(i:Nat):Bool:=decide (a.cpus=b.cpus/\a.credit=b.credit/\a.ng=b.ng/\∀g,g<i->a.par g=b.par g)
def GO(a b:St)(c:Nat):List Flt:=jC (decide (b.clk c<a.clk c)) ⟨15,(c:Int),0⟩
def DO(a b:St)(g c:Nat):List Flt:=jC (decide ((b.sp g c).floor<(a.sp g c).floor)) ⟨16,(g:Int),(c:Int)⟩
def IK(a b:St)(g:Nat):List Flt:=cI (DO a b g) (a.nsp g)
def uK(a b:St):List Flt:=cI (GO a b) a.nk++cI (IK a b) a.ns
def uO(a b:St):Prop:=0<(dR a).length\/0<(dR b).length
instance (a b:St):Decidable (uO a b):=by unfold uO;infer_instance
def vU(a b:St):List Flt:=if uO a b then []else if SS a b a.ng=aF then [⟨17,0,0⟩]else uK a b
def CM(a b:St):Int:=if uO a b then 320 else 0
def oB{s:St}(h:(dR s).length=0):jQ s=aB/\(lQ s).length=0:=by
 unfold dR at h;by_cases h1:jQ s=aF;.rw[iP h1]at h;simp at h
 rw[iN h1]at h;refine⟨by simpa using h1,?_⟩;split at h<;>omega
structure Alike (a b:St):Prop where
 nk:b.nk=a.nk
 ns:b.ns=a.ns
 nsp:∀g,g<a.ns->b.nsp g=a.nsp g
def aER{a b:St}(ha:(dR a).length=0)(hb:(dR b).length=0)(hal:SS a b a.ng=aB):Alike a b:=by obtain⟨_,ha⟩:=oB ha;obtain⟨_,hb⟩:=oB hb;obtain⟨h1,h2,h3,h4⟩:=shapes_nil ha;obtain⟨k1,k2,k3,k4⟩:=shapes_nil hb;simp only[SS,dTt]at hal;obtain⟨e1,_,e3,_⟩:=hal;exact⟨oO,oO,λ g hg=>by have:=h4 g hg;have:=k4 g oO;omega⟩
def aGO{a b:St}(hq:PreOk a):(uK a b).length<=2000:=by have h1:=fK (f:=GO a b) (m:=1) (λ i=>jA _ _) a.nk;have h2:=sI (f:=IK a b) (m:=12) a.ns (λ g hg=>by have:=fK (f:=DO a b g) (m:=1) (λ i=>jA _ _) (a.nsp g);have:=hq.p12 g hg;unfold IK;omega);have:=hq.sm.nk;have:=hq.n12;unfold uK;rw[bT];omega
def zSt:St:=⟨0,0,0,λ _=>0,λ _=>0,0,λ _=>0,0,λ _=>0,0,λ _=>⟨0,0,0,0,0,aF,0,0⟩,0,λ _=>0,λ _ _=>⟨0,0,0⟩⟩
def XU(a b:St):(uK a b).Pairwise leF:=by
 unfold uK;refine sN (wM λ i=>rfl) (lV (λ g _=>FX λ i=>rfl) λ i j hij _ x hx y hy=>?_) λ x hx y hy=>?_;.obtain⟨c,_,hx⟩:=mem_flats.1 hx;obtain⟨_,rfl⟩:=mem_iff1.1 hx;obtain⟨c',_,hy⟩:=mem_flats.1 hy;obtain⟨_,rfl⟩:=mem_iff1.1 hy;exact VC rfl (by simp only;omega)
 obtain⟨c,_,hx⟩:=mem_flats.1 hx;obtain⟨_,rfl⟩:=mem_iff1.1 hx;obtain⟨g,_,hy⟩:=mem_flats.1 hy;obtain⟨c',_,hy⟩:=mem_flats.1 hy;obtain⟨_,rfl⟩:=mem_iff1.1 hy;exact BU sS
def aVK(a b:St)(hs:a.Small):∀f∈uK a b,f.ok:=λ x hx=>by
 unfold uK at hx;rcases dJ.1 hx with hx|hx;.obtain⟨c,hc,hx⟩:=mem_flats.1 hx;obtain⟨_,rfl⟩:=mem_iff1.1 hx;have:=hs.nk;unfold Flt.ok;simp only;omega
 obtain⟨g,hg,hx⟩:=mem_flats.1 hx;obtain⟨c,hc,hx⟩:=mem_flats.1 hx;obtain⟨_,rfl⟩:=mem_iff1.1 hx;have:=hs.ns;have:=hs.nsp g hg;unfold Flt.ok;simp only;omega
def step(a b:St)(hq:PreOk a)(hq':PreOk b)(hk:Kinds a)(hk':Kinds b):Pure aG Γ 51 [.agg a.cells,.agg b.cells] (.tup [rows 3 ((vU a b).map Flt.row),(CM a b)]):=by
 obtain⟨⟨hng,hnk,hnu,hnt,hns,hnsp⟩,h12,hp12⟩:=id hq;obtain⟨⟨hng',hnk',hnu',hnt',hns',hnsp'⟩,h12',hp12'⟩:=id hq';have hla:=RQ a hq;have hlb:=RQ b hq';refine cA Tryz.func51 rfl 108 rfl bB rfl λ k=>?_;obtain⟨R,eR⟩:=xE ((vU a b).map Flt.row);obtain⟨E,eE⟩:=xE (CM a b);rw[<-eR,<-eE];have kp:=kN k [0,1,2,3,4,5,6,7,8,9,10,11,19,47,54,55,56,74,75,76,77,81,82,83,84];refine jI ?_;refine dl [.ret (.rd 3 (dR a).length (λ j=>((dR a).map Flt.row).getD j [])),.ret (.rd 3 (dR b).length (λ j=>((dR b).map Flt.row).getD j []))] ?_;refine kS (zs ?_) (zs ?_) (zs ?_);.have h:=aEC (Γ:=Γ) a hq hk;rw[rows,dG]at h;exact h
 .have h:=aEC (Γ:=Γ) b hq' hk';rw[rows,dG]at h;exact h
 refine uQ rfl _ rfl (λ ht=>?_) (λ hf=>?_)
 .have hbad:uO a b:=by simp only[dTt]at ht;unfold uO;omega
  refine jI ?_;refine cB rfl ⟨_,rfl,?_⟩;rw[eR,eE,vU,CM,iP hbad,iP hbad];exact FC (.cons (VLe.nil _ _) (.cons (bL _) .nil))
 have hnb:¬uO a b:=by simp only[dFn]at hf;unfold uO;omega
 have ha:(dR a).length=0:=by unfold uO at hnb;omega
 have hb:(dR b).length=0:=by unfold uO at hnb;omega
 have hE:E=0:=by rw[eE,CM,iN hnb]
 have hRr:R=(if SS a b a.ng=aF then [⟨17,0,0⟩]else uK a b).map Flt.row:=by rw[eR,vU,iN hnb]
 clear eR eE;subst hE;refine BM rfl (sT ?_);refine iG rfl (EB (X:=Bool) rfl [0,1,2,3,4,5,6,7,8,9,10,11,19,47,54,55,56,74,75,76,77,81,82,83,84] (k+2) (λ x=>[(47,x)]) (λ x=>[(k+1,⟨7,aB,[b.cells]⟩),(k,⟨7,aB,[a.cells]⟩)]) (λ x=>x= !(SS a b a.ng)) ?_ ?_)
 .refine dl [.ret (.rd 1 a.ng (pf a)),.ret (.rd 1 b.ng (pf b)),.ret (decide (a.ng=b.ng/\∀i,i<a.ng->a.par i=b.par i))] ?_;refine zq6 (yB λ hg hg=>?_) (yB λ hg hg=>?_) (yB λ hg hg=>?_) (yB λ hg hg=>?_) (yB λ hg hg=>?_) (gZ λ hg=>?_);.exact aKU a a.ng hng
  .exact aKU b b.ng hng'
  .exact aBB a.ng b.ng a.par b.par hng hng'
  .refine⟨!(decide (a.ng=b.ng/\∀i,i<a.ng->a.par i=b.par i)),?_,?_⟩;.congr 1;rw[eY,SS,dTt,dTt];exact⟨λ h=>⟨by assumption,by assumption,h.1,h.2⟩,λ h=>h.2.2⟩
   exact sB
  .refine⟨aB,?_,?_⟩
   .rw[SS,decide_eq_false];.rfl
    rintro⟨h1,h2,_⟩;contradiction
   exact sB
  refine⟨aB,?_,?_⟩
  .rw[SS,decide_eq_false];.rfl
   rintro⟨h1,h2,_⟩;contradiction
  exact sB
 rintro x rfl;refine gG ?_;refine uQ rfl _ rfl (λ ht=>?_) (λ hf=>?_)
 .have hall:SS a b a.ng=aF:=by simpa using ht
  rw[iP hall]at hRr;refine jI ?_;refine gW (aFB (id:=k+2) (s:=3) (l:=[Flt.row ⟨17,0,0⟩]) 4 (rows 3 [Flt.row ⟨17,0,0⟩]) [(k+1,⟨7,aB,[b.cells]⟩),(k,⟨7,aB,[a.cells]⟩)] sL sL (bL _) sL sL) (gG ?_);refine cB rfl ⟨_,rfl,?_⟩;rw[hRr];exact bL _
 have hall:SS a b a.ng=aB:=by simpa using hf
 rw[iN (by rw[hall];simp)]at hRr;obtain⟨gnk,gns,gnsp⟩:=aER ha hb hall;refine jI ?_;refine gW (Mv.row (k+2) (l:=[]) (nX (k+3) zSt []) (by simp-dsimp-implicitDefEqProofs only[go_sem,aQ,Flt.row,↓reduceIte];rfl) (.cons (bL _) (.cons (bL _) (.cons (VLe.nil _ _) (.cons (VLe.nil _ _) (.cons (VLe.nil _ _) (.cons (VLe.nil _ _) (.cons (VLe.nil _ _) (.cons (bL _) .nil)))))))) rfl) ?_;refine gG ?_;refine gW (SO (k+2) (by simp-dsimp-implicitDefEqProofs only[go_sem,↓reduceIte];rfl)) ?_;refine gG ?_;refine cD (X:=Nat) rfl [0,1,2,3,4,5,6,7,8,9,10,11,19,47,54,55,56,74,75,76,77,81,82,83,84] (k+4) (λ i=>[(55,i)]) (λ i=>(k+2,⟨8,aF,[nX (k+3) zSt (cI (GO a b) i)]⟩)::cM (k+3) 3 ((cI (GO a b) i).map Flt.row) [(k+1,⟨7,aB,[b.cells]⟩),(k,⟨7,aB,[a.cells]⟩)]) (λ i=>i<=a.nk) (λ i=>a.nk-i) 0 ?_ (bF _) ?_;.rw[lC];refine gG ?_;exact sB
 intro c hc;have hfl:=fK (f:=GO a b) (m:=1) (λ c=>jA _ _) c;obtain⟨l1,e1,h1⟩:∃x,x=cI (GO a b) c/\x.length<=c:=⟨_,rfl,oO⟩;rw[<-e1];refine gG ?_;refine wl ?_;refine pN (λ ht=>?_) λ ht=>?_
 .obtain⟨l2,e_l2,h_l2⟩:∃x,x=l1++jC (decide (b.clk c<a.clk c)) ⟨15,(c:Int),0⟩/\x.length<=(l1).length+1:=⟨_,rfl,kA _ _ _⟩;refine lO [0,1,2,3,4,5,6,7,8,9,10,11,19,47,54,55,56,74,75,76,77,81,82,83,84] (k+5) [] ((k+2,⟨8,aF,[nX (k+4) zSt (l2)]⟩)::cM (k+4) 3 ((l2).map Flt.row) [(k+1,⟨7,aB,[b.cells]⟩),(k,⟨7,aB,[a.cells]⟩)]) ?_ ?_;.refine dl [.gen (.tup []) (k+5) (LK (k+2) (k+3) zSt (l1)) (LK (k+2) (k+4) zSt (l2))] ?_;refine iA ?_ ?_;all_goals(first|(exact nH (k+4) (k+2) (k+3) zSt (l1) (l2) _ (decide (b.clk c<a.clk c)) _ _ _ (by first|rfl|(exact bQ)|(simp[hg];done)|(simp[hg,hq];done)|(simp_all;done)|(simp_all;omega)) e_l2 oO oO oO oO)|(exact sB))
  refine gG ?_;refine jI ?_;refine⟨c+1,oO,oO,?_⟩;rw[show cI (GO a b) (c+1)=l2 by rw[gC,<-e1,e_l2];rfl];refine gG ?_;exact FI (k+4) (k+3) wL
 have hcn:c=a.nk:=oO;subst hcn;clear hfl;refine cD (X:=Nat) rfl [0,1,2,3,4,5,6,7,8,9,10,11,19,47,54,55,56,74,75,76,77,81,82,83,84] (k+4) (λ i=>[(76,i)]) (λ i=>(k+2,⟨8,aF,[nX (k+3) zSt (l1++cI (IK a b) i)]⟩)::cM (k+3) 3 ((l1++cI (IK a b) i).map Flt.row) [(k+1,⟨7,aB,[b.cells]⟩),(k,⟨7,aB,[a.cells]⟩)]) (λ i=>i<=a.ns) (λ i=>a.ns-i) 0 ?_ (bF _) ?_;.rw[lC,cX];refine gG ?_;exact sB
 intro g hg2;have hfl:=sI (f:=IK a b) (m:=12) g (λ g' hg'=>by have:=fK (f:=DO a b g') (m:=1) (λ i=>jA _ _) (a.nsp g');have:=hp12 g' oO;unfold IK;omega);obtain⟨l2,e2,h2⟩:∃x,x=l1++cI (IK a b) g/\x.length<=l1.length+g*12:=⟨_,rfl,by simp;omega⟩;rw[<-e2];refine gG ?_;refine wl ?_;refine pN (λ ht=>?_) λ ht=>?_
 .have hpg:a.nsp g<=12:=hp12 g oO;have hpg':b.nsp g=a.nsp g:=gnsp g oO;refine cD (X:=Nat) rfl [0,1,2,3,4,5,6,7,8,9,10,11,19,47,54,55,56,74,75,76,77,81,82,83,84] (k+4) (λ i=>[(83,i)]) (λ i=>(k+2,⟨8,aF,[nX (k+3) zSt (l2++cI (DO a b g) i)]⟩)::cM (k+3) 3 ((l2++cI (DO a b g) i).map Flt.row) [(k+1,⟨7,aB,[b.cells]⟩),(k,⟨7,aB,[a.cells]⟩)]) (λ i=>i<=a.nsp g) (λ i=>a.nsp g-i) 0 ?_ (bF _) ?_;.rw[lC,cX];refine gG ?_;exact sB
  intro c hc;have hfi:=fK (f:=DO a b g) (m:=1) (λ i=>jA _ _) c;obtain⟨l3,e3,h3⟩:∃x,x=l2++cI (DO a b g) c/\x.length<=l2.length+c:=⟨_,rfl,by simp;omega⟩;rw[<-e3];refine gG ?_;refine wl ?_;refine pN (λ ht=>?_) λ ht=>?_
  .obtain⟨l4,e_l4,h_l4⟩:∃x,x=l3++jC (decide ((b.sp g c).floor<(a.sp g c).floor)) ⟨16,(g:Int),(c:Int)⟩/\x.length<=(l3).length+1:=⟨_,rfl,kA _ _ _⟩;refine lO [0,1,2,3,4,5,6,7,8,9,10,11,19,47,54,55,56,74,75,76,77,81,82,83,84] (k+6) [] ((k+2,⟨8,aF,[nX (k+5) zSt (l4)]⟩)::cM (k+5) 3 ((l4).map Flt.row) [(k+4,⟨3,aB,[sf a g c]⟩),(k+1,⟨7,aB,[b.cells]⟩),(k,⟨7,aB,[a.cells]⟩)]) ?_ ?_;.refine dl [.gen (.tup []) (k+6) (LK (k+2) (k+3) zSt (l3)) (LK (k+2) (k+5) zSt (l4))] ?_;refine iA ?_ ?_;all_goals(first|(exact nH (k+5) (k+2) (k+3) zSt (l3) (l4) _ (decide ((b.sp g c).floor<(a.sp g c).floor)) _ _ _ (by first|rfl|(exact bQ)|(simp[hg];done)|(simp[hg,hq];done)|(simp_all;done)|(simp_all;omega)) e_l4 oO oO oO oO)|(exact sB))
   refine gG ?_;refine jI ?_;refine⟨c+1,oO,oO,?_⟩;rw[show l2++cI (DO a b g) (c+1)=l4 by rw[gC,<-dA,<-e3,e_l4];rfl];refine gG ?_;exact FI (k+5) (k+3) wL
  have hcn:c=a.nsp g:=oO;refine⟨g+1,oO,oO,?_⟩;rw[show l1++cI (IK a b) (g+1)=l3 by rw[gC,<-dA,<-e2,e3,hcn];rfl];refine gG ?_;exact sB
 have hgn:g=a.ns:=oO;subst hgn;have hl2:uK a b=l2:=by rw[e2,e1];rfl
 have hok:=aVK a b hq.sm;have hso:=(XU a b).imp λ {x y} hxy=>(RR y x).2 hxy;rw[hl2]at hRr hok hso;refine cl [.gen (dI (k+3) (l2.map Flt.row)) (k+4) (LK (k+2) (k+3) zSt l2) (LK (k+2) (k+3) zSt l2)] ?_;refine iA ?_ ?_;.exact sorted (k+4) (k+2) (k+3) zSt l2 l2 oO oO oO hok (iF.refl _) hso oO
 refine gW (nC (fr1:=[(4,dI (k+3) (l2.map Flt.row)),(5,aD (aE aH 0))]) (k1:=k+4) (H1:=cM (k+3) 3 (l2.map Flt.row) []) wL) (gW (aFB (id:=k+3) (s:=3) (l:=l2.map Flt.row) 4 (rows 3 (l2.map Flt.row)) [] sL sL (bL _) sL sL) (gG ?_));refine cB rfl ⟨_,rfl,?_⟩;rw[hRr];exact bL _
end Go.Proofs.T
end
