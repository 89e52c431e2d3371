import Derived.Test.YteimiejbhhgljaaGreatDoorZAJ
import Derived.Shelf.SlSortCmp.WholeK
import Derived.WalkKit
import Derived.KernelRfl
import Derived.Shelf.SlSortCmp.NoneTotal
import Derived.RangeFuncRecord
import Derived.TacticsIn
import Derived.BigFrameIn
set_option linter.unusedVariables false
set_option linter.unusedSimpArgs false
set_option maxHeartbeats 0
set_option maxRecDepth 100000
open Array renaming eq_empty_of_size_eq_zero->jN,ext->aIG,ext'->bGD,getElem?_eq_getElem->aQ,getElem?_eq_none->iD,getElem?_eq_some_iff->dA,getElem?_modify->SE,replicate_succ->bOY,replicate_zero->bOX
open Bool renaming and_eq_true->aH,eq_iff_iff->bH,false->aE,false_eq_true->aS,not_eq_true->bNZ,not_eq_true'->bD,or_eq_true->bL,true->aB,true_and->lG,true_eq_false->bX
open Int renaming eq_ofNat_of_zero_le->HY,fdiv_eq_ediv_of_nonneg->dU,natCast_nonneg->rT,toNat_natCast->bP
open Go.IntKind renaming i64->aL,u64->aY
open List renaming Pairwise->tY,Perm->gQ,append_assoc->cM,append_eq_nil_iff->bBK,append_nil->cZ,cons_append->aV,eq_nil_of_length_eq_zero->jU,getD->oH,getD_eq_getElem?_getD->aR,getElem?_eq_getElem->aJ,getElem?_eq_none->aX,getElem?_eq_some_iff->aK,getElem?_map->aP,getElem_mem->JR,length_append->bM,length_cons->gS,length_map->cX,length_nil->RY,map->rS,map_append->aM,map_cons->bI,map_map->jM,map_nil->bQ,mem_append->dC,nil_append->aU,pairwise_append->bOT,pairwise_iff_getElem->AV,range->aN,size_toArray->fZ
open Nat renaming add_assoc->gD,add_sub_cancel->a4V,add_sub_cancel_left->lE,add_zero->jL,le_refl->aF,le_trans->qX,lt_of_lt_of_le->oD,mod_eq_of_lt->JP,mul_one->HW,not_lt_zero->bO,pos_of_ne_zero->a4T,reduceAdd->YG,sub_self->RX,sub_zero->iV,zero_add->fH,zero_le->aZ,zero_mul->qW
open Option renaming isSome_none->rQ,map_eq_none_iff->dO,map_some->bU,none->aC,some->aA
open Go.Proofs.Tryz renaming prog->aD
section
namespace Go.AM
open Go.Sort Go.Proofs
section
variable{Γ:dL}{w w':World}{G G':Nat->Prop}{ρ ρ':cY}{H:lU}
theorem IK(S:bZ)(os:Array Obj):Step S w G ρ (grow w os) G ρ:=
 ⟨by rw[size_grow];omega,λ b hb _=>heap_grow_old w os hb,λ b hb=>shp_of (heap_grow_old w os hb),λ _ h=>h,λ _ h=> .inl h,λ _ h=> .inl h,λ _ _=> .inr rfl,rfl,rfl,rfl⟩
theorem HRel.grow (h:HRel Γ w G ρ H)(os:Array Obj):HRel Γ (grow w os) G ρ H:=
 h.after (IK (λ _=>True) os) H h.dom (λ id B A hH=>by obtain⟨hA,b,hb,hg,_⟩:=h.blk id B A hH;exact⟨hA,.inl ⟨A,b,hH,λ _ h=>h,λ _ _=>trivial,rfl,hb,heap_grow_old w os (h.owned_lt ⟨id,_,hb⟩),hg⟩⟩) h.inj (λ b hb=>by rw[size_grow];have:=h.ro b hb;omega)
theorem HRel.rows {S:bZ}(h:HRel Γ w G ρ H){id b:Nat}{B B':Blk}{A:bZ}(hid:H id=aA (B,A))(hb:ρ id=aA (b,B.sz))(hsz:B'.sz=B.sz){C C':Array Value}{ty:TypeId}{H':lU}
 (hH':∀i,H' i=if i=id then aA (B',A)else H i)
 (hC0:w.heap[b]? =aA (.cells C ty (0,0))) (hC:w'.heap[b]? =aA (.cells C' ty (0,0))) (hcs:C'.size=C.size) (hother:∀j,j≠b->w'.heap[j]? =w.heap[j]?) (hsize:w'.heap.size=w.heap.size)
 (h1:w'.os=w.os) (h2:w'.tape=w.tape) (h3:w'.output=w.output)
 (hS:∀i B A,H i=aA (B,A)->∀j,A j->S j)
 (hl:∀(r:Nat) row,B'.rows[r]? =aA row->row.length=B'.sz)
 (hr:∀r row c v,B'.rows[r]? =aA row->row[c]? =aA v->∃cv,C'[r*B'.sz+c]? =aA cv/\V w G bS cI v cv) (hp:B'.pure=aB):
 HRel Γ w' G ρ H'/\Step S w G ρ w' G ρ:=by
 have hbo:mZ ρ b:=⟨id,_,hb⟩;have hbg:=h.owned_not_ro hbo
 have hs:Step S w G ρ w' G ρ:=by
  refine⟨oO,λ j hj ho=>hother j (λ he=>ho (he▸hbo)),λ j hj=>?_,λ _ h=>h,λ _ h=> .inl h,λ _ h=> .inl h,λ _ _=> .inr rfl,h1,h2,h3⟩;by_cases he:j=b;.subst he;unfold shp;rw[hC,hC0];simp only[bU,hcs]
  exact shp_of (hother j he)
 refine⟨h.after hs _ ?_ ?_ h.inj (λ c hc=>by rw[hsize];exact h.ro c hc),hs⟩
 .intro i hi;rw[hH']at hi;split at hi;.cases hi
  exact h.dom i hi
 intro i B1 A1 hi;rw[hH']at hi;split at hi;.rename_i he;subst he;cases hi;obtain⟨hA,_⟩:=h.blk i B A hid;refine⟨hA,.inr ⟨b,by rw[hsz];exact hb,hbg,⟨⟨C',_,⟨hC,.cells⟩,λ r row c v hrow hc=>?_⟩,hl⟩⟩⟩;obtain⟨cv,hcv,hv⟩:=hr r row c v hrow hc;refine⟨cv,hcv,?_⟩;simp only[hp,if_true];exact hv.mono hs.g (λ b hb=>hs.keep b (h.ro b hb) (λ ho=>h.owned_not_ro ho hb)) hs.shape (λ _ h=>h) (λ _ h=>h.elim)
 rename_i hne;obtain⟨hAid,b1,hb1,hg1,hBR⟩:=h.blk i B1 A1 hi;exact⟨hAid,.inl ⟨A1,b1,hi,λ _ h=>h,hS i B1 A1 hi,rfl,hb1,hother b1 (by rintro rfl;exact hne (h.inj i id _ _ _ hb1 hb)),hg1⟩⟩
end
end Go.AM
namespace Go.Proofs.T
open Go Go.Proofs Go.Shelf Go.RowKit Go.Lib Go.Sort
def cfI(r a b r' a' b':Int):Int:=if r=r' then(if a=a' then b-b' else a-a')else r-r'
theorem dP{n:Int}(h1: -9223372036854775808<=n)(h2:n<=9223372036854775807):aL.wrap n=n:=by simp[IntKind.wrap,IntKind.bits,IntKind.signed];omega
theorem a3O(r a b r' a' b':Int)(hr:0<=r/\r<256)(ha:0<=a/\a<1000000)(hb:0<=b/\b<1000000)(hr':0<=r'/\r'<256)(ha':0<=a'/\a'<1000000)(hb':0<=b'/\b'<1000000)(W:World):
 Calls aD 196 #[.agg #[.int .u8 r,.int .i64 a,.int .i64 b],.agg #[.int .u8 r',.int .i64 a',.int .i64 b']] W λ e w'=>e= .returned (.int .i64 (cfI r a b r' a' b'))/\∃q os',w'=grow (W.drewN q) os':=by
 by_cases h1:r=r'
 .by_cases h2:a=a'
  .have e:cfI r a b r' a' b'=b-b':=by simp[cfI,h1,h2]
   rw[e];subst h1 h2;clear e;go_enter Tryz.func196,Tryz.ntmps196
   go_wp2
   go_ret
   exact⟨rfl,0,_,by rw[alloc_eq_grow,alloc_eq_grow,grow_grow];rfl⟩
  have e:cfI r a b r' a' b'=a-a':=by simp[cfI,h1,h2]
  rw[e];subst h1;clear e;go_enter Tryz.func196,Tryz.ntmps196
  go_wp2
  go_ret
  exact⟨rfl,0,_,by rw[alloc_eq_grow,alloc_eq_grow,grow_grow];rfl⟩
 have e:cfI r a b r' a' b'=r-r':=by simp[cfI,h1]
 rw[e];clear e;go_enter Tryz.func196,Tryz.ntmps196
 go_wp2
 go_ret
 exact⟨rfl,0,_,by rw[alloc_eq_grow,alloc_eq_grow,grow_grow];rfl⟩
end Go.Proofs.T
namespace Go.Proofs.T
open Go Go.AM Go.Proofs Go.Shelf Go.RowKit Go.Lib Go.Sort
def Flt.ok (f:Flt):Prop:=(0<=f.r/\f.r<256)/\(0<=f.a/\f.a<1000000)/\(0<=f.b/\f.b<1000000)
structure BF where
 f:Flt
 h:f.ok
instance:Inhabited BF:=⟨⟨⟨0,0,0⟩,by unfold Flt.ok;simp⟩⟩
def EZ(x:BF):List Value:=[.int .u8 x.f.r,.int .i64 x.f.a,.int .i64 x.f.b]
def cfF(x y:Flt):Int:=cfI x.r x.a x.b y.r y.a y.b
def cfB(x y:BF):Int:=cfF x.f y.f
theorem ltB_iff(x y:BF):ltOf cfB x y=aB↔cfF x.f y.f<0:=⟨λ h=>of_decide_eq_true h,λ h=>decide_eq_true h⟩
theorem DC(x y:BF):ltOf cfB x y=aE↔0<=cfF x.f y.f:=⟨λ h=>Int.not_lt.1 (of_decide_eq_false h),λ h=>decide_eq_false (Int.not_lt.2 h)⟩
theorem aWY(x y:Flt):cfF x y<0↔(x.r<y.r\/(x.r=y.r/\(x.a<y.a\/(x.a=y.a/\x.b<y.b)))):=by
 unfold cfF cfI;split;.split<;>omega
 omega
theorem PY(x y:Flt):0<=cfF x y↔¬(x.r<y.r\/(x.r=y.r/\(x.a<y.a\/(x.a=y.a/\x.b<y.b)))):=by rw[<-aWY];omega
theorem a7C:SWO (ltOf cfB) where
 irrefl x:=by rw[DC,PY];omega
 trans x y z h1 h2:=by rw[ltB_iff,aWY]at*;omega
 ntrans x y z h1 h2:=by rw[DC,PY]at*;omega
theorem bGT(x y:Flt)(h1:0<=cfF x y)(h2:0<=cfF y x):x=y:=by
 rw[PY]at h1 h2;cases x;cases y;simp only[Flt.mk.injEq]at*
 omega
theorem bJK(blk off size:Nat)(w:World):CmpLays aD 196 #[] EZ 3 cfB blk off size w:=λ _ _ _ _ x y=>
 a3O x.f.r x.f.a x.f.b y.f.r y.f.a y.f.b x.h.1 x.h.2.1 x.h.2.2 y.h.1 y.h.2.1 y.h.2.2 _
def II(l:List Flt)(hb:∀f∈l,f.ok):Array BF:=(l.pmap (λ f h=>(⟨f,h⟩:BF)) hb).toArray
theorem mW(l:List Flt)(hb:∀f∈l,f.ok):(II l hb).size=l.length:=by simp[II]
theorem LP(l:List Flt)(hb:∀f∈l,f.ok)(i:Nat)(hi:i<l.length):((II l hb)[i]!).f=l[i]:=by rw[getElem!_pos (II l hb) i (by rw[mW];exact hi)];simp[II]
theorem aBG(x:BF)(c:Nat)(v:AVal)(h:(Flt.row x.f)[c]? =aA v):v= .lit ((EZ x)[c]!):=by
 match c with
 |0=>simp[Flt.row]at h;simp[EZ,h]
 |1=>simp[Flt.row]at h;simp[EZ,h]
 |2=>simp[Flt.row]at h;simp[EZ,h]
 |c+3=>simp[Flt.row]at h
theorem aSC(x:BF)(c:Nat)(hc:c<3):(Flt.row x.f)[c]? =aA (.lit ((EZ x)[c]!)):=by
 match c with
 |0=>rfl
 |1=>rfl
 |2=>rfl
theorem holdsF{w:World}{G:Nat->Prop}{b:Nat}{C:Array Value}{ty:TypeId}(l:List Flt)(hb:∀f∈l,f.ok)(hC:w.heap[b]? =aA (.cells C ty (0,0)))
 (hr:∀r row c v,(l.map Flt.row)[r]? =aA row->row[c]? =aA v->∃cv,C[r*3+c]? =aA cv/\V w G bS cI v cv):HoldsK EZ 3 w b 0 (II l hb):=by
 intro j hj;rw[size_flatK,mW]at hj;have hq:j/3<l.length:=oO;refine⟨?_,?_⟩
 .rw[get_flatK EZ 3 _ j (by rw[mW];exact hj)];have h1:(l.map Flt.row)[j/3]? =aA (Flt.row ((II l hb)[j/3]!).f):=by rw[aP,aJ hq,LP l hb _ hq];rfl
  obtain⟨cv,h3,h4⟩:=hr (j/3) _ (j%3) _ h1 (aSC _ (j%3) (Nat.mod_lt _ oO));cases h4;unfold World.cell?;simp only[hC];rw[(oO:j/3*3+j%3=j)]at h3;simp[h3]
 unfold World.frozen?;simp[hC]
theorem aDT(l R:List Flt)(hb:∀f∈l,f.ok)(hR:∀f∈R,f.ok)(hp:R.Perm l)(hs:R.Pairwise (λ x y=>0<=cfF y x))(d:Array BF)(h1:PermIn 0 (II l hb).size (II l hb) d)(h2:SortedIn (ltOf cfB) 0 (II l hb).size d):d=II R hR:=by
 have hT:∀x y:BF,ltOf cfB x y=aE->ltOf cfB y x=aE->x=y:=λ x y h3 h4=>by rw[DC]at h3 h4;have:=bGT _ _ h3 h4;cases x;cases y;cases this;rfl
 have e1:=sorted_unique_holds a7C hT _ _ h1 h2;have hsz:(II R hR).size=(II l hb).size:=by rw[mW,mW,hp.length_eq]
 have hpm:(II R hR).toList.Perm (II l hb).toList:=by simp only[II];have:∀(a b:List Flt) (ha:∀f∈a,f.ok) (hb:∀f∈b,f.ok),a.Perm b->(a.pmap (λ f h=>(⟨f,h⟩:BF)) ha).Perm (b.pmap (λ f h=>(⟨f,h⟩:BF)) hb):=λ a b ha hb h=>h.pmap _;exact this _ _ _ _ hp
 have h3:PermIn 0 (II l hb).size (II l hb) (II R hR):=by
  refine⟨hsz,λ i hi=>?_,?_⟩
  .rcases hi with hi|hi;.omega
   rw[getElem!_neg _ i oO,getElem!_neg _ i oO]
  rw[Array.extract_size,<-hsz,Array.extract_size];exact hpm
 have h4:SortedIn (ltOf cfB) 0 (II l hb).size (II R hR):=by intro i j _ hij hj;rw[mW,<-hp.length_eq]at hj;rw[DC,LP R hR j hj,LP R hR i oO];exact AV.1 hs i j oO hj hij
 exact bGD (e1.trans (sorted_unique_holds a7C hT _ _ h3 h4).symm)
end Go.Proofs.T
namespace Go.Proofs.T
open Go Go.AM Go.Proofs Go.Shelf Go.RowKit Go.Lib Go.Sort
variable{Γ:dL}
theorem ZP{w:World}{b:Nat}{C:Array Value}{ty:TypeId}(n:Nat)(F:Array Value)(hC:w.heap[b]? =aA (.cells C ty (0,0))):
 (putRow id (Sort.ahead w n) b 0 F).heap[b]? =aA (.cells (putCells id 0 F C) ty (0,0))/\(∀j,j≠b->(putRow id (Sort.ahead w n) b 0 F).heap[j]? =w.heap[j]?)/\(putRow id (Sort.ahead w n) b 0 F).heap.size=w.heap.size:=by
 refine⟨?_,λ j hj=>?_,?_⟩;.simp only[putRow,mapBlock,Sort.ahead,SE,if_true];rw[hC];rfl
 .simp only[putRow,mapBlock,Sort.ahead,SE];rw[iN (λ h=>hj h.symm)]
 simp[putRow,mapBlock,Sort.ahead]
theorem VX(F C:Array Value)(j:Nat)(hj:j<F.size)(hC:j<C.size):(putCells id 0 F C)[j]? =aA F[j]! :=by simp only[putCells,Array.getElem?_mapIdx,aQ hC,bU,aZ,fH,hj,and_self,if_true,iV,id]
theorem aRH(k F:Nat)(l R:List Flt)(hb:∀f∈l,f.ok)(hp:R.Perm l)(hs:R.Pairwise (λ x y=>0<=cfF y x))(hl:l.length<=100000)
 (hnone:∀w,Calls aD 195 #[.slice aC 0 0,.func (.func 196) #[] #[]] w λ e w'=>e= .returned (.tuple #[])/\w'=w):
 Tr aD Γ 195 k [dG F (l.map Flt.row),.fn 196 []] (cL F 3 (l.map Flt.row) []) (λ k1 r1 H1=>k1=k/\r1= .tup []/\H1=cL F 3 (R.map Flt.row) []):=by
 intro A hA w G ρ cargs hr hvs;obtain⟨hlen,hv⟩:=hvs;have h0:=hv 0 _ rfl;have h1:=hv 1 _ rfl
 have hc2:cargs= #[cargs.getD 0 undef,cargs.getD 1 undef]:=by
  have hsz:cargs.size=2:=hlen.symm;apply aIG;.simp[hsz]
  intro i hi1 hi2
  match i with
  |0=>simp[Array.getD,hsz]
  |1=>simp[Array.getD,hsz]
  |i+2=>omega
 obtain⟨cs,hfn,hcs⟩:∃cs:Array Value,cargs.getD 1 undef= .func (.func 196) #[] cs/\cs.size=0:=by
  generalize cargs.getD 1 undef=x at h1
  cases h1 with
  |fn hl _=>exact⟨_,rfl,hl.symm⟩
 have hcs':cs= #[]:=jN hcs;subst hcs'
 cases l with
 |nil=>
  have hR:R=[]:=hp.eq_nil;subst hR;have e0:cargs.getD 0 undef= .slice aC 0 0:=by generalize cargs.getD 0 undef=x at h0;cases h0;rfl
  rw[hc2,e0,hfn];refine(hnone w).mono ?_;rintro e w' ⟨rfl,rfl⟩;refine⟨.tuple #[],G,ρ,k,.tup [],[],rfl,⟨rfl,rfl,rfl⟩,aF _,?_,.tup rfl (λ j v hj=>by simp at hj),kQ _ _ _ _⟩;exact⟨λ id _=>hr.dom id rfl,λ id B A' hid=>by simp[bK,AM.look]at hid,hr.inj,hr.ro,hr.glob⟩
 |cons x t=>
  obtain⟨l,el⟩:∃l,l=x::t:=⟨_,rfl⟩;have hne:l.length≠0:=by rw[el];simp
  have eV:dG F ((x::t).map Flt.row)= .sl F 0 l.length:=by rw[el];simp[dG]
  have eH:∀q:List Flt,q.length≠0->cL F 3 (q.map Flt.row) []=[(F,⟨3,aB,q.map Flt.row⟩)]:=λ q hq=>by
   cases q with
   |nil=>simp at hq
   |cons a b=>rfl
  rw[eV]at h0;rw[<-el,eH l hne]at hr;rw[<-el]at hb hp hl;clear eV;have hRne:R.length≠0:=by rw[hp.length_eq];exact hne
  rw[eH R hRne];have hid:bK [(F,⟨3,aB,l.map Flt.row⟩)] A F=aA (⟨3,aB,l.map Flt.row⟩,A):=by simp[bK,AM.look]
  obtain⟨hAF,b,hρ,hgb,hBRF⟩:=hr.blk F _ _ hid;simp only at hρ
  obtain⟨cap,e0,sh,hsh⟩:∃cap,cargs.getD 0 undef= .slice (aA ⟨b,0,aC⟩) l.length cap/\∃sh,w.shape? b=aA sh:=by
   generalize cargs.getD 0 undef=x at h0;generalize hll:l.length=ll at h0⊢
   cases h0 with
   |dangs _ hn=>rw[hρ]at hn;cases hn
   |sl0=>exact absurd hll hne
   |sl _ hs hsh _ hnc _ ho=>
    rw[hρ]at hs;cases hs;rcases ho with ho|ho;.omega
    rw[ho,qW];exact⟨_,rfl,_,hsh⟩
  obtain⟨⟨C,ty,hC,hrow⟩,hrl⟩:=hBRF.old hsh;simp only[if_true]at hrow;have hRok:∀f∈R,f.ok:=λ f hf=>hb f (hp.mem_iff.1 hf);have hblt:b<w.heap.size:=hr.owned_lt ⟨F,3,hρ⟩;have eg:∀args w,(callFunc 196 args).run aD w= .ok (.enter 196 args) w:=enters_of Tryz.func196 iF rfl;have hcon:=AnyQ.slices_SortFunc Tryz.sortF 3 Tryz.isAgg125 Tryz.sizeOf125 EZ (λ _=>rfl) (λ x v hv=>by simp[EZ]at hv;rcases hv with rfl|rfl|rfl<;>rfl) cfB a7C 196 #[] b 0 cap (II l hb) w eg (bJK _ _ _ _) (holdsF l hb hC hrow) hblt (by rw[mW];omega);change Calls aD 195 _ _ _ at hcon;rw[hc2,e0,hfn];rw[mW]at hcon;refine hcon.mono ?_;rintro e w' ⟨rfl,d',n,os,hpm,hso,rfl⟩;rw[<-mW l hb]at hpm hso;have hd:=aDT l R hb hRok hp hs d' hpm hso;subst hd;have hF:(flatK EZ 3 (II R hRok)).size=l.length*3:=by rw[size_flatK,mW,hp.length_eq]
  obtain⟨p1,p2,p3⟩:=ZP n (flatK EZ 3 (II R hRok)) hC
  have hrows:∀r row c v,(R.map Flt.row)[r]? =aA row->row[c]? =aA v->∃cv,(putCells id 0 (flatK EZ 3 (II R hRok)) C)[r*3+c]? =aA cv/\V w G bS cI v cv:=by
   intro r row c v hrw hcv
   have hrlt:r<R.length:=by
    by_cases h:r<R.length;.exact h
    rw[aX (by simp;omega)]at hrw;cases hrw
   have hrow':row=Flt.row ((II R hRok)[r]!).f:=by rw[aP,aJ hrlt,bU,aA.injEq]at hrw;rw[LP R hRok r hrlt];exact hrw.symm
   subst hrow'
   have hc3:c<3:=by
    by_cases h:c<3;.exact h
    rw[aX (by simp[Flt.row];omega)]at hcv;cases hcv
   have hv':=aBG _ c v hcv;have hll:r<l.length:=by rw[<-hp.length_eq];exact hrlt
   have hCs:r*3+c<C.size:=by
    obtain⟨cv,hcv1,_⟩:=hrow r _ c _ (by rw[aP,aJ hll];rfl) (by rw[aJ (by simp[Flt.row];omega)]);by_cases h:r*3+c<C.size;.exact h
    rw[iD oO]at hcv1;cases hcv1
   refine⟨(EZ ((II R hRok)[r]!))[c]!,?_,by rw[hv'];exact .lit⟩;rw[VX _ _ _ oO hCs,get_flatK EZ 3 _ _ (by rw[mW];omega)];rw[(oO:(r*3+c)/3=r),(oO:(r*3+c)%3=c)]
  have hHF:∀i,bK [(F,(⟨3,aB,R.map Flt.row⟩:Blk))] A i=if i=F then aA ((⟨3,aB,R.map Flt.row⟩:Blk),A)else bK [(F,(⟨3,aB,l.map Flt.row⟩:Blk))] A i:=λ i=>by
   by_cases h:i=F;.subst h;simp[bK,AM.look]
   have h':¬F=i:=λ e=>h e.symm;rw[iN h];simp[bK,AM.look,h']
  obtain⟨q1,q2⟩:=HRel.rows (S:=lC k) (H':=bK [(F,⟨3,aB,R.map Flt.row⟩)] A) (B':=⟨3,aB,R.map Flt.row⟩) hr hid hρ rfl hHF hC p1 (by simp[putCells]) p2 p3 rfl rfl rfl
   (λ i B A' hi j hj=>by
     have:A'=A:=by simp only[bK,AM.look]at hi;split at hi<;>simp at hi;exact hi.2.symm
     subst this;exact hA j hj)
   (λ r row hrw=>by
     rw[aP]at hrw
     cases hR:R[r]? with
     |none=>rw[hR]at hrw;cases hrw
     |some f=>rw[hR]at hrw;cases hrw;rfl)
   hrows rfl
  refine⟨.tuple #[],G,ρ,k,.tup [],[(F,⟨3,aB,R.map Flt.row⟩)],rfl,⟨rfl,rfl,rfl⟩,aF _,?_,.tup rfl (λ j v hj=>by simp at hj),?_⟩
  .refine(q1.grow os).allow _ ?_ ?_;.intro i hi;simp only[bK,dO]at hi⊢;exact hi
   intro i B A' hi;simp only[bK]at hi⊢
   cases hlk:AM.look [(F,(⟨3,aB,R.map Flt.row⟩:Blk))] i with
   |none=>rw[hlk]at hi;cases hi
   |some B1=>rw[hlk]at hi;cases hi;exact⟨A,rfl,λ i hi=> .inl hi⟩
  exact q2.trans (IK (lC k) os) (λ _ h=>h)
end Go.Proofs.T
end
section
namespace Go.Proofs.T
open Go Go.AM Go.Proofs
variable{Γ:dL}
theorem aML(w:World):Calls aD 195 #[.slice aC 0 0,.func (.func 196) #[] #[]] w λ e w'=>e= .returned (.tuple #[])/\w'=w:=
 AnyF.slices_SortFunc_none Tryz.sortF aC 0 _ w
theorem sorted(k L F:Nat)(s:St)(l R:List Flt)(hL:L<k)(hF:F<k)(hne:L≠F)(hb:∀f∈l,f.ok)(hp:R.Perm l)(hs:R.Pairwise (λ x y=>0<=cfF y x))(hl:l.length<=100000):
 Tr aD Γ 117 k [.ptr L 0 0] (LK L F s l) (λ k1 r1 H1=>k1=k/\r1=dG F (R.map Flt.row)/\H1=LK L F s R):=by
 obtain⟨a1,a2,a3,a4,a5,a6⟩:=fK hL;obtain⟨b1,b2,b3,b4,b5,b6⟩:=fK hF;obtain⟨c1,c2⟩:=iR hne
 have hV:dG F (l.map Flt.row)=dG F (R.map Flt.row):=by
  cases l with
  |nil=>rw[hp.eq_nil]
  |cons a b=>
   cases R with
   |nil=>exact absurd hp.length_eq sS
   |cons c d=>simp only[bI,dG,gS,cX];rw[show d.length=b.length by have:=hp.length_eq;simpa using this]
 refine cN Tryz.func117 rfl 12 rfl bB (pA ?_);have kp:=gZ k [0,2];have uU:=fP a1 a2 a3 a4 a5 a6 b1 b2 (rA b3 b4 b5 b6 c1 c2);refine wl ?_;refine cA ?_;refine cl [.gen (.tup []) k (cL F 3 (l.map Flt.row) []) (cL F 3 (R.map Flt.row) [])] ?_;refine iE ?_ ?_;.exact aRH k F l R hb hp hs hl aML
 refine wl ?_;refine cA ?_;refine bV rfl ?_;rw[hV];refine⟨k,[(2,dG F (R.map Flt.row))],LK L F s R,?_,_,rfl,rfl,rfl,rfl⟩;(have uU:=fP a1 a2 a3 a4 a5 a6 b1 b2 (rA b3 b4 b5 b6 c1 c2);exact qT)
def rE(s:St):List Flt:=tU s++(yI s++BA s)
def zQ(s:St):List Flt:=if 0<(pV s).length then pV s else if 0<(rE s).length then rE s else wS s
theorem QQ {kb k:Nat}{fr:Fr}{H:aO}(id:Nat){s:Nat}{p:Bool}{rows:List (List AVal)}(hH:AM.look H id=aA ⟨s,p,rows⟩):
 Mv kb k fr H k fr ((id,⟨s,aE,rows⟩)::del H id):=λ hk=>nV ⟨hk,λ t v h=>⟨v,h,bJ v⟩,λ i B hB=>by
 rw[wY]at hB
 split at hB
 · rename_i he
   subst he
   cases hB
   exact⟨_,hH,rfl,λ q row hq=>⟨row,hq,rfl,λ c u v hu hv=>by rw[hu]at hv;cases hv;exact bJ _⟩,λ h=>by cases h⟩
 · exact⟨B,hB,pG B⟩,.inl rfl⟩ hk
structure PreOk (s:St):Prop where
 sm:s.Small
 n12:s.ns<=12
 p12:∀g,g<s.ns->s.nsp g<=12
theorem EO(s:St)(h:s.ns<=12):(pV s).length<=100:=by have h1:=dX (JW s) s.ns;unfold pV iQ;simp only[bM];split<;>split<;>split<;>split<;>simp<;>omega
theorem KH(s:St)(h:s.ns<=12)(hc:s.cpus<=64):(wS s).length<=800:=by have:=dX (f:=qF s) (m:=12) (λ i=>by have:=dX (f:=rI s i) (m:=1) (λ j=>IL _ _ _ _) s.ns;unfold qF;omega) s.cpus.toNat;unfold wS;omega
theorem KL(s:St)(hs:s.Small):(tU s).length<=2000:=by have h1:=dX (f:=pF s) (m:=1) (λ i=>iL _ _) s.nk;have h2:=dX (f:=AJ s) (m:=1) (λ i=>iL _ _) s.nu;have:=hs.nk;have:=hs.nu;unfold tU;rw[bM];omega
theorem MZ(s:St)(hs:s.Small):(yI s).length<=7000:=by have h1:=dX (f:=uK s) (m:=7) (NA s) s.nt;have:=hs.nt;unfold yI;omega
theorem NE(s:St)(hs:PreOk s):(BA s).length<=144:=by have h1:=rJ (f:=tP s) (m:=12) s.ns (λ g hg=>by have:=dX (f:=uN s g) (m:=1) (EM s g) (s.nsp g);have:=hs.p12 g hg;unfold tP;omega);have:=hs.n12;unfold BA;omega
theorem check(hD:IB Γ)(s:St)(hq:PreOk s)(R:List Flt)(hcfg:nB s=aE->R=[⟨1,0,0⟩])
 (hfl:nB s=aB->(pV s).length=0->(rE s).length=0->FloorOk s)
 (hb:nB s=aB->∀f∈zQ s,f.ok) (hp:nB s=aB->R.Perm (zQ s)) (hso:nB s=aB->R.Pairwise (λ x y=>0<=cfF y x)):
 Pure aD Γ 113 [.agg s.cells] (rows 3 (R.map Flt.row)):=by
 obtain⟨hs,h12,hp12⟩:=id hq;obtain⟨hng,hnk,hnu,hnt,hns,hnsp⟩:=id hs;refine bT Tryz.func113 rfl 45 rfl bB rfl λ k=>?_;have kp:=gZ k [0,1,2,3,4,6,8,15,22,23,24,26,27,28,29,41];refine wl ?_;refine cA ?_;refine cl [.ret (nB s)] ?_;refine iE ?_ ?_;.exact wN hD s
 refine tK rfl _ rfl (λ ht=>?_) (λ hf=>?_)
 .refine wl ?_;refine cA ?_;have ht':nB s=aE:=by simpa using ht
  rw[hcfg ht'];refine a6K rfl (VA (id:=k+2) (s:=3) (l:=[Flt.row ⟨1,0,0⟩]) 2 sL sL) ⟨_,rfl,?_⟩;exact bJ _
 have hcf:nB s=aB:=by simpa using hf
 have hrc:=hcf;rw[CG]at hrc;obtain⟨⟨r1,r2,r3,r4,r5,r6,r7⟩,rall⟩:=gT hrc;refine AB rfl ?_;refine sT ?_;refine gW rfl ?_;refine cl [] ?_;refine cA ?_;refine gL (QQ (k+1) (by simp-dsimp-implicitDefEqProofs only[go_sem,eq_self,↓reduceIte];rfl)) ?_;refine gL (gK (k+2) (by simp-dsimp-implicitDefEqProofs only[go_sem,eq_self,↓reduceIte];rfl) rfl) ?_;simp-dsimp-implicitDefEqProofs only[pS,jA,go_sem,eq_self,↓reduceIte];refine gL (gK (k+3) (by simp-dsimp-implicitDefEqProofs only[go_sem,eq_self,↓reduceIte];rfl) rfl) ?_;simp-dsimp-implicitDefEqProofs only[pS,jA,go_sem,eq_self,↓reduceIte];refine gL (gK (k+4) (by simp-dsimp-implicitDefEqProofs only[go_sem,eq_self,↓reduceIte];rfl) rfl) ?_;simp-dsimp-implicitDefEqProofs only[pS,jA,go_sem,eq_self,↓reduceIte];refine FI (X:=List Flt) rfl [2,3] (k+3) (λ l=>[]) (λ l=>LK (k+1) (k+2) s l) (λ l=>l=zQ s) ?_ ?_
 .refine gW rfl ?_;refine cl [] ?_;refine cA ?_;refine gL (nV (fr1:=[(23,.lit (.int .i64 0)),(22,.agg [.rd 1 1 (λ q=>([[AVal.fn 190 []]]:List (List AVal)).getD q []),.rd 1 3 (λ q=>([[AVal.fn 191 []],[AVal.fn 192 []],[AVal.fn 193 []]]:List (List AVal)).getD q []),.rd 1 1 (λ q=>([[AVal.fn 194 []]]:List (List AVal)).getD q [])]),(3,.ptr (k+1) 0 0),(2,.lit (.slice aC 0 0))]) (k1:=k+3) (H1:=LK (k+1) (k+2) s []) wL) ?_;refine rR ?_;apply zN;refine AC rfl ?_;refine IC rfl 4 ?_;refine AM.rounds_succ ?_;refine wl ?_;refine dI λ ht=>?_;refine IC rfl 2 ?_;refine AM.rounds_succ ?_;refine wl ?_;refine dI λ ht=>?_;obtain⟨l1,e1,h1⟩:∃x,x=pV s/\x.length<=100:=⟨_,rfl,EO s h12⟩;refine lJ [0,1,2,3,4,6,8,15,22,23,24,26,27,28,29,41] (k+3) [] (LK (k+1) (k+2) s l1) ?_ ?_
  .refine cl [.gen (.tup []) (k+4) (LK (k+1) (k+2) s []) (LK (k+1) (k+3) s l1)] ?_;refine iE ?_ ?_;.have h:=shape (Γ:=Γ) s hs (k+3) (k+1) (k+2) [] oO oO oO sS;rw[aU,<-e1]at h;exact h
   exact DZ (k+3) (k+2) wL
  refine rR ?_;apply zN;refine wl ?_;refine SG ⟨λ ht ht=>zN ?_⟩ ⟨λ ht ht ht=>zN ?_⟩;.refine⟨l1,by rw[zQ,<-e1,iP oO],?_⟩;exact pQ
  obtain rfl:l1=[]:=jU oO;have hz:(pV s).length=0:=by rw[<-e1];rfl
  have hchk:zQ s=if 0<(rE s).length then rE s else wS s:=by rw[zQ,iN oO]
  obtain⟨z1,z2,z3,z4⟩:=shapes_nil (s:=s) (by rw[<-CT];exact hz);refine IC rfl 4 ?_;refine AM.rounds_succ ?_;refine wl ?_;refine dI λ ht=>?_;obtain⟨p1,f1,g1⟩:∃x,x=tU s/\x.length<=2000:=⟨_,rfl,KL s hs⟩;refine lJ [0,1,2,3,4,6,8,15,22,23,24,26,27,28,29,41] (k+3) [] (LK (k+1) (k+2) s p1) ?_ ?_
  .refine cl [.gen (.tup []) (k+4) (LK (k+1) (k+2) s []) (LK (k+1) (k+3) s p1)] ?_;refine iE ?_ ?_;.have h:=a9W (Γ:=Γ) s hs (k+3) (k+1) (k+2) [] oO oO oO sS;rw[aU,<-f1]at h;exact h
   exact DZ (k+3) (k+2) wL
  refine rR ?_;apply zN;refine wl ?_;refine dI λ ht=>?_;obtain⟨p2,f2,g2⟩:∃x,x=p1++yI s/\x.length<=9000:=⟨_,rfl,by have:=MZ s hs;rw[bM];omega⟩;refine lJ [0,1,2,3,4,6,8,15,22,23,24,26,27,28,29,41] (k+3) [] (LK (k+1) (k+2) s p2) ?_ ?_
  .refine cl [.gen (.tup []) (k+4) (LK (k+1) (k+2) s p1) (LK (k+1) (k+3) s p2)] ?_;refine iE ?_ ?_;.have h:=bBY (Γ:=Γ) s hs oO (k+3) (k+1) (k+2) p1 oO oO oO oO;rw[<-f2]at h;exact h
   exact DZ (k+3) (k+2) wL
  refine rR ?_;apply zN;refine wl ?_;refine dI λ ht=>?_;obtain⟨p3,f3,g3⟩:∃x,x=p2++BA s/\x.length<=9144:=⟨_,rfl,by have:=NE s hq;rw[bM];omega⟩;refine lJ [0,1,2,3,4,6,8,15,22,23,24,26,27,28,29,41] (k+3) [] (LK (k+1) (k+2) s p3) ?_ ?_
  .refine cl [.gen (.tup []) (k+4) (LK (k+1) (k+2) s p2) (LK (k+1) (k+3) s p3)] ?_;refine iE ?_ ?_;.have h:=bCA (Γ:=Γ) s hs oO h12 hp12 (k+3) (k+1) (k+2) p2 oO oO oO oO;rw[<-f3]at h;exact h
   exact DZ (k+3) (k+2) wL
  refine rR ?_;apply zN;have f3':p3=rE s:=by rw[f3,f2,f1,rE,cM]
  clear f3 f2 f1;refine wl ?_;refine SG ⟨λ ht ht=>zN ?_⟩ ⟨λ ht ht ht=>zN ?_⟩;.refine⟨p3,by rw[hchk,<-f3',iP oO],?_⟩;exact pQ
  obtain rfl:p3=[]:=jU oO;have hz2:(rE s).length=0:=by rw[<-f3'];rfl
  refine IC rfl 2 ?_;refine AM.rounds_succ ?_;refine wl ?_;refine dI λ ht=>?_;obtain⟨q1,u1,v1⟩:∃x,x=wS s/\x.length<=800:=⟨_,rfl,KH s h12 r2⟩;refine lJ [0,1,2,3,4,6,8,15,22,23,24,26,27,28,29,41] (k+3) [] (LK (k+1) (k+2) s q1) ?_ ?_
  .refine cl [.gen (.tup []) (k+4) (LK (k+1) (k+2) s []) (LK (k+1) (k+3) s q1)] ?_;refine iE ?_ ?_;.have h:=a8U (Γ:=Γ) s hs (hfl hcf hz hz2) (k+3) (k+1) (k+2) [] oO oO oO sS;rw[aU,<-u1]at h;exact h
   exact DZ (k+3) (k+2) wL
  refine rR ?_;apply zN;refine wl ?_;refine SG ⟨λ ht ht=>zN ?_⟩ ⟨λ ht ht ht=>zN ?_⟩;.refine⟨q1,by rw[hchk,iN oO];exact u1,?_⟩;exact pQ
  refine⟨q1,by rw[hchk,iN oO];exact u1,?_⟩;exact pQ
 intro l hl;have hb':=hb hcf;have hp':=hp hcf;rw[<-hl]at hb' hp'
 have hll:l.length<=100000:=by
  rw[hl];have h1:=EO s h12;have h2:=KL s hs;have h3:=MZ s hs;have h4:=NE s hq;have h5:=KH s h12 r2;unfold zQ rE;split;.omega
  split;.simp only[bM];omega
  omega
 refine rR ?_;apply zN;refine wl ?_;refine cA ?_;refine cl [.gen (dG (k+2) (R.map Flt.row)) (k+3) (LK (k+1) (k+2) s l) (LK (k+1) (k+2) s R)] ?_;refine iE ?_ ?_;.exact sorted (k+3) (k+1) (k+2) s l R oO oO oO hb' hp' (hso hcf) hll
 refine aIF rfl (id:=k+2) (s:=3) (l:=rS Flt.row R) 2 sL sL ?_;exact⟨_,rfl,bJ _⟩
end Go.Proofs.T
end
section
namespace Go.Proofs.T
open Go Go.AM Go.Proofs
theorem nF{f g:Nat->List Flt}:∀ {n:Nat},(∀i,i<n->f i=g i)->cD f n=cD g n
 |0,_=>rfl
 |n+1,h=>by rw[fQ,fQ,nF (λ i hi=>h i oO),h n oO]
theorem PA{f g:Nat->List Flt}:∀ {n:Nat},(∀i,i<n->(f i).Perm (g i))->(cD f n).Perm (cD g n)
 |0,_=>gQ.refl _
 |n+1,h=>(PA (λ i hi=>h i oO)).append (h n oO)
theorem aBP{n:Nat}:cD (λ _=>[]) n=[]:=by
 induction n with
 |zero=>rfl
 |succ n ih=>rw[fQ,ih];rfl
theorem aNH{α:Type}(a b c d:List α):((a++b)++(c++d)).Perm ((a++c)++(b++d)):=by rw[cM,cM];refine gQ.append_left a ?_;rw[<-cM,<-cM];exact gQ.append_right d List.perm_append_comm
theorem UD{f g:Nat->List Flt}:∀ {n:Nat},(cD (λ i=>f i++g i) n).Perm (cD f n++cD g n)
 |0=>gQ.refl _
 |n+1=>((UD (f:=f) (g:=g) (n:=n)).append_right _).trans (aNH _ _ _ _)
theorem flats_comm{f:Nat->Nat->List Flt}{m:Nat}:∀ {n:Nat},(cD (λ i=>cD (f i) m) n).Perm (cD (λ j=>cD (λ i=>f i j) n) m)
 |0=>by show gQ [] (cD (λ j=>[]) m);rw[aBP]
 |n+1=>by rw[fQ];exact((flats_comm (f:=f) (m:=m) (n:=n)).append_right _).trans (UD (f:=λ j=>cD (λ i=>f i j) n) (g:=f n)).symm
theorem wT{f:Nat->List Flt}:∀ {n:Nat},cD f (n+1)=f 0++cD (λ i=>f (i+1)) n
 |0=>by simp[cD]
 |n+1=>by rw[fQ,wT,fQ,cM]
theorem UC{f:Nat->List Flt}:∀ {n:Nat},(cD (λ j=>f (n-1-j)) n).Perm (cD f n)
 |0=>gQ.refl _
 |n+1=>by
  rw[wT,fQ];have:cD (λ i=>f (n+1-1-(i+1))) n=cD (λ j=>f (n-1-j)) n:=nF λ i hi=>by show f _=f _;congr 1;omega
  rw[this];exact((UC (f:=f) (n:=n)).append_left _).trans List.perm_append_comm
theorem mem_flats{f:Nat->List Flt}{x:Flt}:∀ {n:Nat},x∈cD f n↔∃i,i<n/\x∈f i
 |0=>by simp[cD]
 |n+1=>by
  rw[fQ,dC,mem_flats];constructor
  .rintro(⟨i,h1,h2⟩|h);.exact⟨i,oO,h2⟩
   exact⟨n,oO,h⟩
  rintro⟨i,h1,h2⟩;by_cases he:i=n;.subst he;exact .inr h2
  exact .inl ⟨i,oO,h2⟩
theorem mem_iff1{b:Bool}{f x:Flt}:x∈iQ b f↔b=aB/\x=f:=by cases b<;>simp[iQ]
theorem lA{R:Flt->Flt->Prop}{f:Nat->List Flt}:∀ {n:Nat},(∀i,i<n->(f i).Pairwise R)->(∀i j,i<j->j<n->∀x∈f i,∀y∈f j,R x y)->(cD f n).Pairwise R
 |0,_,_=>tY.nil
 |n+1,h1,h2=>by rw[fQ,bOT];refine⟨lA (λ i hi=>h1 i oO) (λ i j hij hj=>h2 i j hij oO),h1 n oO,λ x hx y hy=>?_⟩;obtain⟨i,hi,hx⟩:=mem_flats.1 hx;exact h2 i n hi oO x hx y hy
theorem KG{R:Flt->Flt->Prop}{b:Bool}{f:Flt}:(iQ b f).Pairwise R:=by cases b<;>simp[iQ]
def leF(x y:Flt):Prop:=¬(y.r<x.r\/(y.r=x.r/\(y.a<x.a\/(y.a=x.a/\y.b<x.b))))
theorem aNS(m:Nat)(c:Nat)(hm:m<2^64)(hc:c<=64):0<m/2^c↔∃i,i<64/\c<=i/\m/2^i%2=1:=by
 constructor
 .intro h;obtain⟨i,hi⟩:=Nat.exists_testBit_of_ne_zero (x:=m/2^c) oO;rw[Nat.testBit_div_two_pow]at hi
  have hlt:i+c<64:=by
   rcases Nat.lt_or_ge (i+c) 64 with h|h;.exact h
   rw[Nat.testBit_lt_two_pow (oD hm (Nat.pow_le_pow_right oO h))]at hi;cases hi
  refine⟨i+c,hlt,oO,?_⟩;rw[Nat.testBit_eq_decide_div_mod_eq]at hi;exact of_decide_eq_true hi
 rintro⟨i,h1,h2,h3⟩;have h4:2^c<=2^i:=Nat.pow_le_pow_right oO h2;have h5:m/2^i<=m/2^c:=Nat.div_le_div_left h4 (Nat.two_pow_pos c);have h6:m/2^i≠0:=λ h=>by rw[h]at h3;cases h3
 exact oD (a4T h6) h5
theorem aLB(m c:Nat):((m:Int)/2^c)=((m/2^c:Nat):Int):=by
 have:((2:Int)^c)=((2^c:Nat):Int):=by simp
 rw[this];rfl
theorem aCP(m c:Nat):aHH (m:Int) c=decide (m/2^c%2=1):=by unfold aHH;rw[aLB];congr 1;apply propext;omega
theorem aBQ(m c:Nat):((m:Int).fdiv (2^c))=((m/2^c:Nat):Int):=by
 rw[dU _ (by have:((2:Int)^c)=((2^c:Nat):Int):=by simp
             rw[this];exact rT _),aLB]
theorem aQT(s:St)(hw:Wf s)(i:Nat)(h0:0<=s.cpus)(h1:s.cpus<=64):t8 s i=r8 s i:=by
 obtain⟨m,hm⟩:=HY (hw.mask0 i);obtain⟨n,hn⟩:=HY h0;have hb:=hw.mask1 i;have key:=aNS m n oO oO;have hmin:min (n:Int).toNat 64=n:=oO;rw[bH];unfold t8 r8 shr;rw[anyB_iff,hm,hn,hmin,aBQ];simp only[a5I,aH,dTt,hm,hn,aCP];constructor;.rintro⟨h2,h3⟩;obtain⟨j,j1,j2,j3⟩:=key.1 oO;exact⟨j,j1,oO,j3⟩
 rintro⟨j,j1,j2,j3⟩;have:=key.2 ⟨j,j1,oO,j3⟩;exact⟨oO,oO⟩
theorem aXV(m:Nat)(hm:m<2^64):bAI (m:Int)=((m%2:Nat):Int):=by
 unfold bAI;have h1:(BitVec.ofInt aY.bits (m:Int)&&&BitVec.ofInt aY.bits 1).toNat=m%2:=by show(BitVec.ofInt 64 (m:Int)&&&BitVec.ofInt 64 1).toNat=m%2;rw[BitVec.toNat_and,BitVec.ofInt_natCast,BitVec.toNat_ofNat,JP hm];show m&&&1=m%2;exact Nat.and_one_is_mod m
 rw[h1];exact wrap_u64 oO oO
theorem bBZ(s:St)(hw:Wf s)(i:Nat)(h1:s.cpus<=64):t9 s i=r9 s i:=by
 unfold t9 r9;by_cases ho:onB s i=aB
 .rw[ho,lG,lG];have ho':0<=(s.tsk i).cpu/\(s.tsk i).cpu<s.cpus:=by simpa [onB]using ho
  obtain⟨m,hm⟩:=HY (hw.mask0 i);obtain⟨n,hn⟩:=HY ho'.1;have hb:=hw.mask1 i;have e1:aAH (n:Int)=n:=by unfold aAH;rw[iN oO]
  have e2:min (n:Int).toNat 64=n:=oO;unfold shr;rw[hm,hn,e1,e2,aBQ,aXV _ (Nat.lt_of_le_of_lt (Nat.div_le_self _ _) oO),bP,aCP];rcases Nat.mod_two_eq_zero_or_one (m/2^n)with h|h<;>rw[h]<;>rfl
 rw[bNZ]at ho;rw[ho];rfl
def OMin(o:Option Int)(P:Int->Prop):Prop:=match o with
 |none=>∀x,¬P x
 |some m=>P m/\∀x,P x->m<=x
theorem OMin.congr {o:Option Int}{P Q:Int->Prop}(h:OMin o P)(hq:∀x,P x↔Q x):OMin o Q:=by have:P=Q:=funext λ x=>propext (hq x);rwa [<-this]
theorem OMin.some_iff {o:Option Int}{P:Int->Prop}(h:OMin o P):o.isSome=aB↔∃x,P x:=by
 cases o with
 |none=>simp only[rQ,aS,false_iff,not_exists];exact h
 |some m=>simp only[Option.isSome_some,true_iff];exact⟨m,h.1⟩
theorem aJT{f:Nat->Option Int}{g h:Nat}{v:Int}{P:Int->Prop}(hf:OMin (f h) P):OMin (low f g v h) (λ x=>P x\/(g=h/\x=v)):=by
 by_cases he:h=g
 .subst he
  cases ho:f h with
  |none=>
   rw[ho]at hf;have:low f h v h=aA v:=by simp[low,ho,put]
   rw[this];refine⟨.inr ⟨rfl,rfl⟩,λ x hx=>?_⟩;rcases hx with hx|⟨_,hx⟩;.exact absurd hx (hf x)
   omega
  |some m=>
   rw[ho]at hf;by_cases hv:v<m
   .have:low f h v h=aA v:=by simp[low,ho,put,hv]
    rw[this];refine⟨.inr ⟨rfl,rfl⟩,λ x hx=>?_⟩;rcases hx with hx|⟨_,hx⟩;.have:=hf.2 x hx;omega
    omega
   have:low f h v h=aA m:=by simp[low,ho,put,hv]
   rw[this];refine⟨.inl hf.1,λ x hx=>?_⟩;rcases hx with hx|⟨_,hx⟩;.exact hf.2 x hx
   omega
 have:low f g v h=f h:=by
  unfold low
  cases f g with
  |none=>simp[put,he]
  |some u=>by_cases hv:v<u<;>simp[put,he,hv]
 rw[this];exact hf.congr λ x=>⟨.inl,λ hx=>hx.elim id λ hx=>absurd hx.1.symm he⟩
theorem aVI(s:St)(c:Int)(h:Nat):∀n,OMin (fT s c n h) (λ x=>∃i,i<n/\tL s c i=aB/\(s.tsk i).group.toNat=h/\x=(s.tsk i).v)
 |0=>λ x hx=>by obtain⟨i,hi,_⟩:=hx;omega
 |n+1=>by
  have ih:=aVI s c h n;rw[fT];by_cases ht:tL s c n=aB
  .rw[iP ht];refine(aJT (g:=(s.tsk n).group.toNat) (v:=(s.tsk n).v) ih).congr λ x=>?_;constructor
   .rintro(⟨i,h1,h2⟩|⟨h1,h2⟩);.exact⟨i,oO,h2⟩
    exact⟨n,oO,ht,h1,h2⟩
   rintro⟨i,h1,h2,h3,h4⟩;by_cases he:i=n;.subst he;exact .inr ⟨h3,h4⟩
   exact .inl ⟨i,oO,h2,h3,h4⟩
  rw[iN ht];refine ih.congr λ x=>?_;constructor;.rintro⟨i,h1,h2⟩;exact⟨i,oO,h2⟩
  rintro⟨i,h1,h2,h3⟩;by_cases he:i=n;.subst he;exact absurd h2 ht
  exact⟨i,oO,h2,h3⟩
def aNX(s:St)(c j h:Nat)(x:Int):Prop:=
 (∃i,i<s.nt/\tL s c i=aB/\(s.tsk i).group.toNat=h/\x=(s.tsk i).v)∨
 (∃q,q<j/\0<s.ns-1-q/\(dF s c q (s.ns-1-q)).isSome=aB/\(s.par (s.ns-1-q)).toNat=h/\x=(s.sp (s.ns-1-q) c).v)
theorem PR(s:St)(c h:Nat):∀j,OMin (dF s c j h) (aNX s c j h)
 |0=>(aVI s c h s.nt).congr λ x=>⟨.inl,λ hx=>hx.elim id λ⟨q,hq,_⟩=>absurd hq (bO _)⟩
 |j+1=>by
  have ih:=PR s c h j;rw[dF,FU];have mono:∀x,aNX s c j h x->aNX s c (j+1) h x:=λ x hx=>hx.elim .inl λ⟨q,hq,r⟩=> .inr ⟨q,oO,r⟩
  cases hm:dF s c j (s.ns-1-j)with
  |none=>
   have hn:=hm;refine ih.congr λ x=>⟨mono x,?_⟩;rintro(hx|⟨q,hq,h1,h2,h3⟩);.exact .inl hx
   by_cases he:q=j;.subst he;rw[hn]at h2;cases h2
   exact .inr ⟨q,oO,h1,h2,h3⟩
  |some m=>
   simp only;by_cases hg:0<s.ns-1-j
   .rw[iP hg];refine(aJT ih).congr λ x=>⟨?_,?_⟩
    .rintro(hx|⟨h1,h2⟩);.exact mono x hx
     exact .inr ⟨j,oO,hg,by rw[hm];rfl,h1,h2⟩
    rintro(hx|⟨q,hq,h1,h2,h3,h4⟩);.exact .inl (.inl hx)
    by_cases he:q=j;.subst he;exact .inr ⟨h3,h4⟩
    exact .inl (.inr ⟨q,oO,h1,h2,h3,h4⟩)
   rw[iN hg];refine ih.congr λ x=>⟨mono x,?_⟩;rintro(hx|⟨q,hq,h1,h2,h3⟩);.exact .inl hx
   by_cases he:q=j;.subst he;exact absurd h1 hg
   exact .inr ⟨q,oO,h1,h2,h3⟩
theorem mem_flatM{f:Nat->List Mem}{x:Mem}:∀ {n:Nat},x∈BZ f n↔∃i,i<n/\x∈f i
 |0=>by simp[BZ]
 |n+1=>by
  rw[aFX,dC,mem_flatM];constructor
  .rintro(⟨i,h1,h2⟩|h);.exact⟨i,oO,h2⟩
   exact⟨n,oO,h⟩
  rintro⟨i,h1,h2⟩;by_cases he:i=n;.subst he;exact .inr h2
  exact .inl ⟨i,oO,h2⟩
theorem mem_ifM{b:Bool}{f x:Mem}:x∈ifM b f↔b=aB/\x=f:=by cases b<;>simp[ifM]
theorem aAG(s:St)(hk:FloorOk s)(g c:Nat)(x:Int):(∃m∈BZ (a1N s g c) s.nt,m.v=x)↔∃i,i<s.nt/\tL s c i=aB/\(s.tsk i).group.toNat=g/\x=(s.tsk i).v:=by
 constructor;.rintro⟨m,hm,rfl⟩;obtain⟨i,hi,hm⟩:=mem_flatM.1 hm;obtain⟨h1,rfl⟩:=mem_ifM.1 hm;simp only[inQ,aH,dTt]at h1;exact⟨i,hi,by simp[tL,h1],oO,rfl⟩
 rintro⟨i,hi,h1,h2,rfl⟩;simp only[tL,aH,dTt]at h1;have:=hk.grp i hi;exact⟨_,mem_flatM.2 ⟨i,hi,mem_ifM.2 ⟨by simp only[inQ,aH,dTt];exact⟨h1.1,oO,h1.2⟩,rfl⟩⟩,rfl⟩
theorem aAF(s:St)(hk:FloorOk s)(c:Nat):∀(f g:Nat),g<s.ns->s.ns-g<=f+1->∀x,(∃m∈GF s c f g,m.v=x)↔aNX s c (s.ns-1-g) g x
 |0,g,hg,hf,x=>by have e:s.ns-1-g=0:=oO;rw[GF,aAG s hk,e];exact⟨.inl,λ hx=>hx.elim id λ⟨q,hq,_⟩=>absurd hq (bO _)⟩
 |f+1,g,hg,hf,x=>by
  have ih:=aAF s hk c f;have hT:=aAG s hk g c x
  have sub:∀h,h<s.ns->g<h->((GF s c f h).isEmpty=aE↔(dF s c (s.ns-1-h) h).isSome=aB):=λ h h1 h2=>by
   rw[(PR s c h (s.ns-1-h)).some_iff];constructor
   .intro he
    cases hl:GF s c f h with
    |nil=>rw[hl]at he;cases he
    |cons m l=>exact⟨m.v,(ih h h1 oO m.v).1 ⟨m,by rw[hl];simp,rfl⟩⟩
   rintro⟨y,hy⟩;obtain⟨m,hm,_⟩:=(ih h h1 oO y).2 hy
   cases hl:GF s c f h with
   |nil=>rw[hl]at hm;cases hm
   |cons m l=>rfl
  rw[aNQ];constructor
  .rintro⟨m,hm,hv⟩;rcases dC.1 hm with hm|hm;.exact .inl (hT.1 ⟨m,hm,hv⟩)
   obtain⟨h,h1,hm⟩:=mem_flatM.1 hm;obtain⟨h2,rfl⟩:=mem_ifM.1 hm;simp only[aH,dTt,bD]at h2;obtain⟨⟨h3,h4⟩,h5⟩:=h2;have hp:=hk.par h h3 h1;have hs:=(sub h h1 oO).1 h5;have e:s.ns-1-(s.ns-1-h)=h:=oO;refine .inr ⟨s.ns-1-h,oO,oO,?_,?_,?_⟩;.rw[e];exact hs
   .rw[e];omega
   rw[e];exact hv.symm
  rintro(hx|⟨q,hq,h1,h2,h3,h4⟩);.obtain⟨m,hm,hv⟩:=hT.2 hx;exact⟨m,List.mem_append_left _ hm,hv⟩
  obtain⟨h,eh⟩:∃h,h=s.ns-1-q:=⟨_,rfl⟩;rw[<-eh]at h1 h2 h3 h4;have hp:=hk.par h h1 oO;have hq':q=s.ns-1-h:=oO;rw[hq']at h2;refine⟨⟨(s.sp h c).v,1,(h:Int)⟩,List.mem_append_right _ (mem_flatM.2 ⟨h,oO,mem_ifM.2 ⟨?_,rfl⟩⟩),h4.symm⟩;simp only[aH,dTt,bD];exact⟨⟨h1,oO⟩,(sub h oO oO).2 h2⟩
theorem aCG{f:Nat->Bool}:∀ {n:Nat},aHA f n=n↔∀i,i<n->f i=aB
 |0=>⟨λ _ i hi=>oO,λ _=>rfl⟩
 |n+1=>by
  have h1:=aLH f n;have ih:=aCG (f:=f) (n:=n);rw[aHA];by_cases hf:f n=aB
  .rw[hf];constructor
   .intro h i hi;by_cases he:i=n;.subst he;exact hf
    exact ih.1 (by simp at h;omega) i oO
   intro h;have:=ih.2 λ i hi=>h i oO;simp;omega
  rw[bNZ]at hf;rw[hf];constructor;.intro h;simp at h;omega
  intro h;have:=h n oO;rw[hf]at this;cases this
theorem aBO(s:St)(hk:FloorOk s)(g c:Nat)(hg:g<s.ns):rI s c (s.ns-1-g)=UB s g c:=by
 have e:s.ns-1-(s.ns-1-g)=g:=oO;have hm:=PR s c g (s.ns-1-g);have hi:=aAF s hk c s.ns g hg oO
 have hall:∀l:List Mem,aHA (XU s g c l) l.length=l.length↔∀m∈l,(s.sp g c).floor<m.v:=λ l=>by
  rw[aCG];constructor;.intro h m hm;obtain⟨i,hi,rfl⟩:=List.getElem_of_mem hm;have:=h i hi;simpa [XU,a8F,aR,aJ hi]using this
  intro h i hi;have:=h l[i] (JR hi);simpa [XU,a8F,aR,aJ hi]using this
 unfold rI FT UB;rw[e]
 cases hd:dF s c (s.ns-1-g) g with
 |none=>
  rw[hd]at hm
  have:GF s c s.ns g=[]:=by
   cases hl:GF s c s.ns g with
   |nil=>rfl
   |cons m l=>exact absurd ((hi m.v).1 ⟨m,by rw[hl];simp,rfl⟩) (hm m.v)
  rw[this];simp[iQ]
 |some v=>
  rw[hd]at hm;simp only;congr 1;rw[bH,dTt,dTt,hall];constructor;.intro h;obtain⟨m,hm1,hm2⟩:=(hi v).2 hm.1;refine⟨List.length_pos_of_mem hm1,λ m' hm'=>?_⟩;have:=hm.2 m'.v ((hi m'.v).1 ⟨m',hm',rfl⟩);omega
  rintro⟨_,h⟩;obtain⟨m,hm1,hm2⟩:=(hi v).2 hm.1;have:=h m hm1;omega
theorem aBN(s:St)(hk:FloorOk s):(wR s).Perm (wS s):=by unfold wR wS aOI qF;refine flats_comm.trans (PA λ c hc=>?_);refine gQ.trans ?_ (UC (f:=rI s c) (n:=s.ns));rw[nF (f:=λ g=>UB s g c) (g:=λ g=>rI s c (s.ns-1-g)) λ g hg=>(aBO s hk g c hg).symm]
theorem aME(s:St)(hw:Wf s)(i:Nat)(h0:0<=s.cpus)(h1:s.cpus<=64):uK s i=cD (λ r=>KP s r i) 7:=by have e8:=aQT s hw i h0 h1;have e9:=bBZ s hw i h1;simp[cD,KP,brk,uK,cM,e8,e9]
theorem aDV(s:St)(hw:Wf s)(h0:0<=s.cpus)(h1:s.cpus<=64):(cD (XS s) 7).Perm (yI s):=by unfold yI XS;rw[nF (f:=uK s) (g:=λ i=>cD (λ r=>KP s r i) 7) λ i _=>aME s hw i h0 h1];exact flats_comm
theorem aRE(s:St)(hw:Wf s)(hv:∀g c,0<=(s.sp g c).v)(hp:PartOk s):BA s=cD (BJ s) s.cpus.toNat++cD (KX s) s.ns:=by
 obtain⟨n,hn⟩:∃n,s.ns=n+1:=⟨s.ns-1,by have:=hp.ns1;omega⟩;unfold BA;have h0:s.nsp 0=s.cpus.toNat:=by have:=hp.sp 0 oO;omega
 rw[hn,wT,wT];have e0:KX s 0=[]:=rfl;rw[e0,aU];congr 1;unfold tP;rw[h0];refine nF λ c hc=>?_;unfold uN BJ;rw[iP rfl];congr 1;have:=hv 0 c;have:=hw.sr 0 c;rw[bH,dTt,dTt];omega
theorem aEK(s:St)(hw:Wf s)(hv:∀g c,0<=(s.sp g c).v)(hp:PartOk s):(oQ s).Perm (tU s++(yI s++BA s)):=by
 have hT:=aDV s hw hp.c0 hp.c1;have hnu:s.cpus.toNat=s.nu:=by have:=hp.nu;omega
 rw[aRE s hw hv hp];unfold oQ tU;rw[hnu];have hc:=List.perm_iff_count.1 hT;rw[List.perm_iff_count];intro a;have:=hc a;simp only[List.count_append];omega
theorem AG{x y:Flt}(h:x.r<y.r):leF x y:=by unfold leF;omega
theorem TP{x y:Flt}(h:x.r=y.r)(h1:x.a<y.a):leF x y:=by unfold leF;omega
theorem a5X{x y:Flt}(h:x.r=y.r)(h1:x.a=y.a)(h2:x.b<=y.b):leF x y:=by unfold leF;omega
theorem BP{s:St}{g:Nat}{x:Flt}(h:x∈lN s g):x=⟨2,3,g⟩:=by unfold lN at h;split at h<;>simp at h;exact h
theorem aTK{s:St}{n:Nat}{x:Flt}(h:x∈cD (pF s) n):x.r=3/\(0<=x.a/\x.a<n)/\x.b=0:=by obtain⟨i,hi,h⟩:=mem_flats.1 h;obtain⟨_,rfl⟩:=mem_iff1.1 h;exact⟨rfl,by simp only;omega,rfl⟩
theorem OF{s:St}{n:Nat}{x:Flt}(h:x∈cD (AJ s) n):x.r=13/\(0<=x.a/\x.a<n)/\x.b=0:=by obtain⟨i,hi,h⟩:=mem_flats.1 h;obtain⟨_,rfl⟩:=mem_iff1.1 h;exact⟨rfl,by simp only;omega,rfl⟩
theorem OD{s:St}{n:Nat}{x:Flt}(h:x∈cD (BJ s) n):x.r=12/\(0<=x.a/\x.a<n)/\x.b=0:=by obtain⟨i,hi,h⟩:=mem_flats.1 h;obtain⟨_,rfl⟩:=mem_iff1.1 h;exact⟨rfl,by simp only;omega,rfl⟩
theorem WH{s:St}{r:Nat}{x:Flt}(h:x∈XS s r):x.r=r+4/\(0<=x.a/\x.a<s.nt)/\x.b=0:=by obtain⟨i,hi,h⟩:=mem_flats.1 h;obtain⟨_,rfl⟩:=mem_iff1.1 h;exact⟨rfl,by simp only;omega,rfl⟩
theorem WG{s:St}{g:Nat}{x:Flt}(h:x∈KX s g):x.r=11/\x.a=g/\(0<=x.b/\x.b<s.nsp g):=by
 unfold KX at h;split at h;.cases h
 obtain⟨i,hi,h⟩:=mem_flats.1 h;obtain⟨_,rfl⟩:=mem_iff1.1 h;exact⟨rfl,rfl,by simp only;omega⟩
theorem aFB{s:St}{g:Nat}{x:Flt}(h:x∈aOI s g):x.r=14/\x.a=g/\(0<=x.b/\x.b<s.cpus.toNat):=by obtain⟨i,hi,h⟩:=mem_flats.1 h;obtain⟨_,rfl⟩:=mem_iff1.1 h;exact⟨rfl,rfl,by simp only;omega⟩
theorem rM{R:Flt->Flt->Prop}{a b:List Flt}(h1:a.Pairwise R)(h2:b.Pairwise R)(h3:∀x∈a,∀y∈b,R x y):(a++b).Pairwise R:=bOT.2 ⟨h1,h2,h3⟩
theorem vF{f:Nat->List Flt}{n:Nat}{r:Int}{b:Nat->Bool}(h:∀i,f i=iQ (b i) ⟨r,(i:Int),0⟩):(cD f n).Pairwise leF:=
 lA (λ i _=>by rw[h];exact KG) (λ i j hij _ x hx y hy=>by rw[h]at hx hy;obtain⟨_,rfl⟩:=mem_iff1.1 hx;obtain⟨_,rfl⟩:=mem_iff1.1 hy;exact TP rfl (by simp only;omega))
theorem EP{f:Nat->List Flt}{n:Nat}{r a:Int}{b:Nat->Bool}(h:∀i,f i=iQ (b i) ⟨r,a,(i:Int)⟩):(cD f n).Pairwise leF:=
 lA (λ i _=>by rw[h];exact KG) (λ i j hij _ x hx y hy=>by rw[h]at hx hy;obtain⟨_,rfl⟩:=mem_iff1.1 hx;obtain⟨_,rfl⟩:=mem_iff1.1 hy;exact a5X rfl rfl (by simp only;omega))
theorem OQ{R:Flt->Flt->Prop}{p:Prop} [Decidable p]{f:Flt}:(if p then [f]else []).Pairwise R:=by split<;>simp
theorem LX{p:Prop} [Decidable p]{f x:Flt}(h:x∈(if p then [f]else [])):x=f:=by split at h<;>simp at h;exact h
theorem JV{s:St}{x:Flt}(h:x∈(if s.ns≠s.ng then [⟨2,2,0⟩]else cD (lN s) s.ns)):x.r=2/\(2<=x.a/\x.a<=3)/\(0<=x.b/\x.b<=s.ns):=by
 split at h;.simp at h;subst h;exact⟨rfl,sS,sS⟩
 obtain⟨i,hi,h⟩:=mem_flats.1 h;rw[BP h];exact⟨rfl,sS,by simp only;omega⟩
theorem QV(s:St):(kX s).Pairwise leF:=by
 unfold kX;refine rM (rM OQ OQ λ x hx y hy=>?_) ?_ λ x hx y hy=>?_;.rw[LX hx,LX hy];exact TP rfl sS
 .split;.simp
  refine lA (λ i _=>by unfold lN;split<;>simp) λ i j hij _ x hx y hy=>?_;rw[BP hx,BP hy];exact a5X rfl rfl (by simp only;omega)
 obtain⟨h1,h2,h3⟩:=JV hy;rcases dC.1 hx with hx|hx<;>rw[LX hx]<;>exact TP h1.symm (by simp only;omega)
theorem VZ(s:St):(oQ s).Pairwise leF:=by
 have hB:∀x∈cD (XS s) 7,4<=x.r/\x.r<=10:=λ x hx=>by obtain⟨i,hi,hx⟩:=mem_flats.1 hx;have:=WH hx;omega
 have hS:∀x∈cD (KX s) s.ns,x.r=11:=λ x hx=>by obtain⟨i,hi,hx⟩:=mem_flats.1 hx;exact(WG hx).1
 unfold oQ;refine rM (vF λ i=>rfl) (rM ?_ (rM ?_ (rM (vF λ i=>rfl) (vF λ i=>rfl) λ x hx y hy=>?_) λ x hx y hy=>?_) λ x hx y hy=>?_) λ x hx y hy=>?_;.refine lA (λ i _=>vF λ i=>rfl) λ i j hij _ x hx y hy=>?_;have:=WH hx;have:=WH hy;exact AG oO
 .refine lA (λ i _=>?_) λ i j hij _ x hx y hy=>?_
  .unfold KX;split;.exact tY.nil
   exact EP λ i=>rfl
  have:=WG hx;have:=WG hy;exact TP oO oO
 .have:=OD hx;have:=OF hy;exact AG oO
 .have:=hS x hx;rcases dC.1 hy with hy|hy;.have:=OD hy;exact AG oO
  have:=OF hy;exact AG oO
 .have:=hB x hx;rcases dC.1 hy with hy|hy;.have:=hS y hy;exact AG oO
  rcases dC.1 hy with hy|hy;.have:=OD hy;exact AG oO
  have:=OF hy;exact AG oO
 have:=aTK hx;rcases dC.1 hy with hy|hy;.have:=hB y hy;exact AG oO
 rcases dC.1 hy with hy|hy;.have:=hS y hy;exact AG oO
 rcases dC.1 hy with hy|hy;.have:=OD hy;exact AG oO
 have:=OF hy;exact AG oO
theorem RI(s:St):(wR s).Pairwise leF:=by refine lA (λ i _=>EP λ i=>rfl) λ i j hij _ x hx y hy=>?_;have:=aFB hx;have:=aFB hy;exact TP oO oO
theorem RM(s:St):(dQ s).Pairwise leF:=by
 unfold dQ;split;.simp
 split;.exact QV s
 split;.exact VZ s
 exact RI s
def okN(x:Flt):Prop:=(0<=x.r/\x.r<256)/\(0<=x.a/\x.a<1000000)/\(0<=x.b/\x.b<1000000)
theorem aMN(s:St)(hs:s.Small):∀x∈kX s,okN x:=λ x hx=>by
 have:=hs.ns;unfold kX at hx;rcases dC.1 hx with hx|hx;.rcases dC.1 hx with hx|hx<;>rw[LX hx]<;>simp[okN]
 have:=JV hx;unfold okN;omega
theorem aSQ(s:St)(hs:s.Small)(hc:s.cpus<=64):∀x∈oQ s,okN x:=λ x hx=>by
 obtain⟨hng,hnk,hnu,hnt,hns,hnsp⟩:=id hs;unfold okN;unfold oQ at hx;rcases dC.1 hx with hx|hx;.have:=aTK hx;omega
 rcases dC.1 hx with hx|hx;.obtain⟨i,hi,hx⟩:=mem_flats.1 hx;have:=WH hx;omega
 rcases dC.1 hx with hx|hx;.obtain⟨i,hi,hx⟩:=mem_flats.1 hx;have:=WG hx;have:=hnsp i hi;omega
 rcases dC.1 hx with hx|hx;.have:=OD hx;omega
 have:=OF hx;omega
theorem aOK(s:St)(hs:s.Small)(hc:s.cpus<=64):∀x∈wR s,okN x:=λ x hx=>by have:=hs.ns;obtain⟨i,hi,hx⟩:=mem_flats.1 hx;have:=aFB hx;unfold okN;omega
theorem aPA(s:St)(hs:s.Small):∀x∈dQ s,okN x:=by
 intro x hx;unfold dQ at hx;by_cases hr:iZ s=aE;.rw[iP hr]at hx;simp at hx;subst hx;simp[okN]
 rw[iN hr]at hx;have hc:=(gT (s:=s) (by simpa using hr)).1.2.1;split at hx;.exact aMN s hs x hx
 split at hx;.exact aSQ s hs hc x hx
 exact aOK s hs hc x hx
theorem floorOk(s:St)(h12:s.ns<=12)(hr:iZ s=aB)(hsh:(kX s).length=0)(hT:(yI s).length=0):FloorOk s:=by
 obtain⟨⟨h1,h2,h3,h4,h5,h6,h7⟩,hall⟩:=gT hr;obtain⟨k1,k2,k3,k4⟩:=shapes_nil hsh;refine⟨λ i hi=>?_,λ g hg hn=>?_,k4,oO,oO,h2,h12⟩
 .have h:=JD hT i hi;have h6:t6 s i=aE:=by unfold uK at h;simp only[bBK,mD]at h;exact h.2.2.1
  simp only[t6,dFn]at h6;omega
 have:=hall g hg oO;simp only[okR,aH,dTt]at this;exact FZ hg this.2
end Go.Proofs.T
end
section
namespace Go.Proofs.T
open Go Go.AM Go.Proofs Go.RowKit
attribute [local go_sem] Oper.semAt_some
noncomputable def aCD:Code:=match Tryz.f272.body with
 |some (.seq _ (.seq _ (.seq (.seq _ (.block _ (.rangeFunc _ _ _ b))) _)))=>b
 |_=> .skip
noncomputable def XJ(fn:FuncId)(sl:Value)(g:Int)(N:Nat)(st:LoopState)(pend:Option Code):Loop:=
 {state:=st,pending:=pend,fn,tmps:= #[sl,.int .i64 g,undef,undef,.int .i64 0,.pointer (aA ⟨N,0,aC⟩),sl,.int .i64 g,.func (.func 315) #[] #[.pointer (aA ⟨N+2,0,aC⟩),.pointer (aA ⟨N+1,0,aC⟩)],undef,undef,undef,undef],params:= #[9],assign:= .skip,body:=aCD,defers:=N+3}
structure DMid (fn:FuncId) (sl:Value) (g:Int) (w:World) (x y:Int) (W:World):Prop where
 c:W.cell? ⟨w.heap.size,0,aC⟩=aA (.int .i64 x)
 f:W.frozen? ⟨w.heap.size,0,aC⟩=aE
 cl:W.cell? ⟨w.heap.size+1,0,aC⟩=aA sl
 cg:W.cell? ⟨w.heap.size+2,0,aC⟩=aA (.int .i64 y)
 fg:W.frozen? ⟨w.heap.size+2,0,aC⟩=aE
 L:W.heap[w.heap.size+4]? =aA (.loop (XJ fn sl g w.heap.size .ready aC))
 K:W.heap[w.heap.size+3]? =aA (.deferred (aA []))
 b:Below w.heap.size w W
theorem DL{B:Nat}{w W:World}(h:Below B w W){r:Nat}(hr:B<=r)(o:Obj):Below B w (W.putObj r o):=
 ⟨h.os,h.tape,h.output,by rw[World.putObj_size];exact h.size,λ k hk=>(World.putObj_heap_other oO).trans (h.block k hk)⟩
theorem aWG(F:Fence)(m:Nat)(fn:FuncId)(hfn:F.fn fn)(sl:Value)(g:Int)(w:World)(x y:Int)(hx: -1<=x)(hx2:x<=100000)(W:World)(h:DMid fn sl g w x y W):
 RoundIn F m aD (w.heap.size+4) fn #[sl,.int .i64 g,undef,undef,.int .i64 0,.pointer (aA ⟨w.heap.size,0,aC⟩),sl,.int .i64 g,.func (.func 315) #[] #[.pointer (aA ⟨w.heap.size+2,0,aC⟩),.pointer (aA ⟨w.heap.size+1,0,aC⟩)],.int .i64 y,undef,undef,undef] .skip aCD W
  λ e W'=>e= .returned (.bool aB)/\DMid fn sl g w (x+1) y W':=by
 refine roundIn_of_wpIn hfn ?_;have hl:w.heap.size+4<W.heap.size:=(dA.1 h.L).1;have hbr:=run_beginRound (P:=aD) h.L rfl;obtain⟨W2,hW2⟩:∃W2,W.putObj (w.heap.size+4) (.loop {XJ fn sl g w.heap.size .ready aC with state:= .busy})=W2:=⟨_,rfl⟩;rw[hW2]at hbr;have hk:∀k,k≠w.heap.size+4->W2.heap[k]? =W.heap[k]? :=λ k hk=>by rw[<-hW2];exact World.putObj_heap_other hk
 have hc2:W2.cell? ⟨w.heap.size,0,aC⟩=aA (.int .i64 x):=(World.cell?_of_block (hk w.heap.size oO)).trans h.c;have hf2:W2.frozen? ⟨w.heap.size,0,aC⟩=aE:=(World.frozen?_of_block (hk w.heap.size oO)).trans h.f;have hL2:W2.heap[w.heap.size+4]? =aA (.loop {XJ fn sl g w.heap.size .ready aC with state:= .busy}):=by rw[<-hW2];exact World.putObj_heap_same hl
 have hb2:Below w.heap.size w W2:=by rw[<-hW2];exact DL h.b oO _
 clear hW2;have hwr:wrap64 (x+1)=x+1:=by unfold wrap64;omega
 gi_wp2
 conv in aCD=>whnf
 gi_wp2
 have hk3:∀k,k≠w.heap.size->(W2.setCell ⟨w.heap.size,0,aC⟩ (.int .i64 (x+1))).heap[k]? =W2.heap[k]? :=λ k hk=>Below.heap_setCell W2 ⟨w.heap.size,0,aC⟩ _ k hk;have hL3:=(hk3 (w.heap.size+4) oO).trans hL2;have hl3:=(dA.1 hL3).1
 have hall:∀(o:Obj) (k:Nat),k≠w.heap.size->k≠w.heap.size+4->((W2.setCell ⟨w.heap.size,0,aC⟩ (.int .i64 (x+1))).putObj (w.heap.size+4) o).heap[k]? =W.heap[k]? :=λ o k h1 h2=>
  (World.putObj_heap_other h2).trans ((hk3 k h1).trans (hk k h2))
 refine⟨_,_,run_endRound aC hL3,rfl,?_,?_,?_,?_,?_,?_,?_,?_⟩;.exact(World.cell?_of_block (World.putObj_heap_other (k:=w.heap.size) oO)).trans (World.cell?_setCell_same' _ _ _ (by rw[hc2];rfl))
 .exact(World.frozen?_of_block (World.putObj_heap_other (k:=w.heap.size) oO)).trans (by rw[World.frozen?_setCell];exact hf2)
 .exact(World.cell?_of_block (hall _ (w.heap.size+1) oO oO)).trans h.cl
 .exact(World.cell?_of_block (hall _ (w.heap.size+2) oO oO)).trans h.cg
 .exact(World.frozen?_of_block (hall _ (w.heap.size+2) oO oO)).trans h.fg
 .exact World.putObj_heap_same hl3
 .exact(hall _ _ oO oO).trans h.K
 exact DL (hb2.setCell (p:=⟨w.heap.size,0,aC⟩) (aF _) _) oO _
theorem aIZ(par:Nat->Int):∀f g,tB par f g<=f
 |0,g=>by simp[tB]
 |f+1,g=>by
  rw[tB];split;.omega
  have:=aIZ par f (par g).toNat;omega
structure Pars (w:World) (b o cap n:Nat) (par:Nat->Int):Prop where
 lt:b<w.heap.size
 at_:∀i,i<n->w.cell? ⟨b,o+i*2,aC⟩=aA (.int .i64 (par i))
noncomputable def dMu(N:Nat)(W:World):Nat:=match W.cell? ⟨N+2,0,aC⟩with
 |some (.int _ y)=>y.toNat
 |_=>0
theorem Pars.get {w W:World}{b o cap n:Nat}{par:Nat->Int}(h:Pars w b o cap n par)(hb:Below w.heap.size w W)(i:Nat)(hi:i<n):W.cell? ⟨b,o+i*2,aC⟩=aA (.int .i64 (par i)):=
 (World.cell?_of_block (hb.block b h.lt)).trans (h.at_ i hi)
theorem a6T(F:Fence)(n:Nat)(hF:F.fn 315)(hro:F.round=aC)(hn:1<=n)(fn:FuncId)(hfn:F.fn fn)(w:World)(b o cap N:Nat)(par:Nat->Int)(hp:Pars w b o cap N par)(g:Nat)(hg:g<N)(hN:N<=1000)(hv:∀j,1<=j->j<=g->0<=par j/\par j<j)
 (W:World) (h:DMid fn (.slice (aA ⟨b,o,aC⟩) N cap) g w (-1) g W):
 CallsIn F n aD 315 #[.func (.yield (w.heap.size+4)) #[] #[],.pointer (aA ⟨w.heap.size+2,0,aC⟩),.pointer (aA ⟨w.heap.size+1,0,aC⟩)] W λ e W'=>(∃v,e= .returned v)/\∃y,DMid fn (.slice (aA ⟨b,o,aC⟩) N cap) g w (tB par g g) y W':=by
 refine callsIn_of_wp Tryz.func315 rfl hF ?_ hro;simp only[Tryz.ntmps315,fZ,gS,RY,YG,Nat.reduceSub,bOY,bOX,List.push_toArray,List.append_toArray,aU,aV];refine wpIn_block ?_;refine wpIn_loop (λ a' W'=>∃(y:Nat) (x:Int) (x4 x5 x6 x7 x8 x9 x10 x11 x12 x13 x14 x15:Value),a'={tmps:= #[.func (.yield (w.heap.size+4)) #[] #[],.pointer (aA ⟨w.heap.size+2,0,aC⟩),.pointer (aA ⟨w.heap.size+1,0,aC⟩),undef,x4,x5,x6,x7,x8,x9,x10,x11,x12,x13,x14,x15],defers:=[]}/\y<=g/\ -1<=x/\x+1+tB par y y=tB par g g/\DMid fn (.slice (aA ⟨b,o,aC⟩) N cap) g w x y W') (λ _ W'=>dMu w.heap.size W') ⟨g, -1,_,_,_,_,_,_,_,_,_,_,_,_,rfl,aF _,oO,oO,h⟩ ?_;rintro a' W' ⟨y,x,x4,x5,x6,x7,x8,x9,x10,x11,x12,x13,x14,x15,rfl,hy,hx,hs,h'⟩;have hpd:tB par g g<=1000:=qX (aIZ par g g) oO;have hy1:(Instr.yield (w.heap.size+4) #[.int .i64 (y:Int)]).run aD W'= .ok (.round (w.heap.size+4) fn #[.slice (aA ⟨b,o,aC⟩) N cap,.int .i64 (g:Int),undef,undef,.int .i64 0,.pointer (aA ⟨w.heap.size,0,aC⟩),.slice (aA ⟨b,o,aC⟩) N cap,.int .i64 (g:Int),.func (.func 315) #[] #[.pointer (aA ⟨w.heap.size+2,0,aC⟩),.pointer (aA ⟨w.heap.size+1,0,aC⟩)],.int .i64 (y:Int),undef,undef,undef] .skip aCD) W':=by simpa [XJ]using run_yield (P:=aD) (args:= #[.int .i64 (y:Int)]) h'.L rfl
 have hmu:dMu w.heap.size W'=y:=by unfold dMu;rw[h'.cg];simp
 have hcg:=h'.cg;have hcl:=h'.cl;by_cases hy0:0<(y:Int)
 .gi_wp2
  refine(aWG F (n-1) fn hfn _ g w x y hx oO W' h').mono ?_;rintro e W1 ⟨rfl,h1⟩;have hcg:=h1.cg;have hfg:=h1.fg;have hcl:=h1.cl;have hpar:=hp.get h1.b y oO;gi_wp2
  obtain⟨q,hq⟩:∃q:Nat,par y=q:=⟨(par y).toNat,by have:=hv y oO hy;omega⟩;have hv':=hv y oO hy;rw[hq]at hv'⊢
  have hk:∀k,k≠w.heap.size+2->(W1.setCell ⟨w.heap.size+2,0,aC⟩ (.int .i64 (q:Int))).heap[k]? =W1.heap[k]? :=λ k hk=>Below.heap_setCell W1 ⟨w.heap.size+2,0,aC⟩ _ k hk;have hc':(W1.setCell ⟨w.heap.size+2,0,aC⟩ (.int .i64 (q:Int))).cell? ⟨w.heap.size+2,0,aC⟩=aA (.int .i64 (q:Int)):=World.cell?_setCell_same' _ _ _ (by rw[hcg];rfl);refine⟨⟨q,x+1,_,_,_,_,_,_,_,_,_,_,_,_,rfl,oO,oO,?_,?_⟩,?_⟩;.obtain⟨y',hy'⟩:∃y',y=y'+1:=⟨y-1,oO⟩;subst hy';rw[tB,iN oO,hq,bP,SY y' q oO (λ j h1 h2=>hv j h1 oO)]at hs;omega
  .refine⟨?_,?_,?_,hc',?_,?_,?_,?_⟩;.exact(World.cell?_of_block (hk w.heap.size oO)).trans h1.c
   .exact(World.frozen?_of_block (hk w.heap.size oO)).trans h1.f
   .exact(World.cell?_of_block (hk (w.heap.size+1) oO)).trans h1.cl
   .rw[World.frozen?_setCell];exact h1.fg
   .exact(hk _ oO).trans h1.L
   .exact(hk _ oO).trans h1.K
   exact h1.b.setCell (p:=⟨w.heap.size+2,0,aC⟩) (Nat.le_add_right _ _) _
  rw[hmu];unfold dMu;rw[hc'];simp only[bP];omega
 gi_wp2
 refine(aWG F (n-1) fn hfn _ g w x y hx oO W' h').mono ?_;rintro e W1 ⟨rfl,h1⟩;have hcg:=h1.cg;gi_wp2
 first|go_end0|go_ret
 obtain rfl:y=0:=oO;refine⟨⟨_,rfl⟩,(0:Nat),?_⟩;rw[tB]at hs;rw[<-hs];simpa using h1
theorem bBU(F:Fence)(n:Nat)(h83:F.fn 299)(hro:F.round=aC)(ad:Option Addr)(N cap:Nat)(g:Int)(W:World):
 CallsIn F n aD 299 #[.slice ad N cap,.int .i64 g] W λ e W'=>e= .returned (.func (.func 315) #[] #[.pointer (aA ⟨W.heap.size+1,0,aC⟩),.pointer (aA ⟨W.heap.size,0,aC⟩)])/\∃t1 t2,W'=(W.alloc (.cells #[.slice ad N cap] t1)).alloc (.cells #[.int .i64 g] t2):=by
 refine callsIn_of_wp Tryz.func299 rfl h83 ?_ hro;simp only[Tryz.ntmps299,fZ,gS,RY,YG,Nat.reduceSub,bOY,bOX,List.push_toArray,List.append_toArray,aU,aV];gi_wp2
 first|go_end0|go_ret
 exact⟨rfl,_,_,rfl⟩
theorem aWD(F:Fence)(n:Nat)(h70:F.fn 272)(h83:F.fn 299)(h93:F.fn 315)(hro:F.round=aC)(hn:2<=n)(w:World)(b o cap N:Nat)(par:Nat->Int)(hp:Pars w b o cap N par)(g:Nat)(hg:g<N)(hN:N<=1000)(hv:∀j,1<=j->j<=g->0<=par j/\par j<j):
 CallsIn F n aD 272 #[.slice (aA ⟨b,o,aC⟩) N cap,.int .i64 (g:Int)] w λ e W'=>e= .returned (.int .i64 (tB par g g:Nat))/\Below w.heap.size w W':=by
 refine callsIn_of_wp_marks Tryz.func272 rfl h70 ?_ hro;simp only[Tryz.ntmps272,fZ,gS,RY,YG,Nat.reduceSub,bOY,bOX,List.push_toArray,List.append_toArray,aU,aV];gi_wp2
 refine⟨λ _=>oO,(bBU F (n-1) h83 hro _ _ _ g _).mono ?_⟩;rintro e W0 ⟨rfl,t1,t2,hW0⟩;simp only[World.size_alloc]at hW0⊢
 have hs0:W0.heap.size=w.heap.size+3:=by rw[hW0];simp
 have hb0:Below w.heap.size w W0:=by rw[hW0];exact(((Below.refl _ w).alloc (aF _) _).alloc sS _).alloc (by simp;omega) _
 have hh:W0.heap[w.heap.size]? =aA (.cells #[.int .i64 (-1)] 3)/\W0.heap[w.heap.size+1]? =aA (.cells #[.slice (aA ⟨b,o,aC⟩) N cap] t1)/\W0.heap[w.heap.size+2]? =aA (.cells #[.int .i64 (g:Int)] t2):=by
  rw[hW0];refine⟨?_,?_,?_⟩;.exact(Below.heap_alloc _ _ _ (by simp;omega)).trans ((Below.heap_alloc _ _ _ sS).trans (World.alloc_heap_new w _))
  .refine(Below.heap_alloc _ _ _ sS).trans ?_;have:=World.alloc_heap_new (w.alloc (.cells #[.int .i64 (-1)] 3)) (.cells #[.slice (aA ⟨b,o,aC⟩) N cap] t1);rwa [World.size_alloc]at this
  have:=World.alloc_heap_new ((w.alloc (.cells #[.int .i64 (-1)] 3)).alloc (.cells #[.slice (aA ⟨b,o,aC⟩) N cap] t1)) (.cells #[.int .i64 (g:Int)] t2);rwa [World.size_alloc,World.size_alloc]at this
 clear hW0;obtain⟨hh0,hh1,hh2⟩:=hh;gi_wp2
 refine wpIn_rangeFunc ?_;intro fn hfn;rw[hro];obtain⟨W1,hW1⟩:∃W1,(W0.alloc (.deferred (aA []))).alloc (.loop (XJ fn (.slice (aA ⟨b,o,aC⟩) N cap) g w.heap.size .ready aC))=W1:=⟨_,rfl⟩;have hold:∀k,k<W0.heap.size->W1.heap[k]? =W0.heap[k]? :=λ k hk=>by rw[<-hW1];exact(Below.heap_alloc _ _ k (by simp;omega)).trans (Below.heap_alloc _ _ k hk)
 have hM:DMid fn (.slice (aA ⟨b,o,aC⟩) N cap) g w (-1) g W1:=by
  have e0:=(hold w.heap.size oO).trans hh0;have e1:=(hold (w.heap.size+1) oO).trans hh1;have e2:=(hold (w.heap.size+2) oO).trans hh2;refine⟨by simp[World.cell?,e0],by simp[World.frozen?,e0],by simp[World.cell?,e1],by simp[World.cell?,e2],by simp[World.frozen?,e2],?_,?_,?_⟩;.rw[<-hW1];have:=World.alloc_heap_new (W0.alloc (.deferred (aA []))) (.loop (XJ fn (.slice (aA ⟨b,o,aC⟩) N cap) g w.heap.size .ready aC));rwa [World.size_alloc,hs0]at this
  .rw[<-hW1,<-hs0];exact(Below.heap_alloc _ _ _ sS).trans (World.alloc_heap_new W0 _)
  rw[<-hW1];exact(hb0.alloc oO _).alloc (by simp;omega) _
 refine⟨w.heap.size+4,[{target:= .collected (w.heap.size+3),args:= #[]}],W1,{target:= .fn (.func 315) #[.pointer (aA ⟨w.heap.size+2,0,aC⟩),.pointer (aA ⟨w.heap.size+1,0,aC⟩)],args:= #[.func (.yield (w.heap.size+4)) #[] #[]]},W1,315,
  #[.func (.yield (w.heap.size+4)) #[] #[],.pointer (aA ⟨w.heap.size+2,0,aC⟩),.pointer (aA ⟨w.heap.size+1,0,aC⟩)],W1,?_,?_,?_,?_,λ _=>oO,?_⟩
 .have:=run_enterLoop_outer (P:=aD) (w:=W0) fn (XJ fn (.slice (aA ⟨b,o,aC⟩) N cap) g w.heap.size .ready aC).tmps #[9] .skip aCD;rw[hs0]at this;rw[<-hW1];exact this
 .simp[resolve,go_sem]
 .intro f' hf';simp[Target.leads]at hf';subst hf';exact h93
 .simp[invoke,go_sem]
 refine(a6T F (n-1) h93 hro oO fn hfn w b o cap N par hp g hg hN hv W1 hM).mono ?_;rintro e W2 ⟨⟨v,rfl⟩,y,h2⟩;have hend:=run_endLoop (P:=aD) h2.L (by simp[XJ]);obtain⟨W3,hW3⟩:∃W3,W2.putObj (w.heap.size+4) (.loop {XJ fn (.slice (aA ⟨b,o,aC⟩) N cap) g w.heap.size .ready aC with state:= .exhausted})=W3:=⟨_,rfl⟩;rw[hW3]at hend;have hc3:W3.cell? ⟨w.heap.size,0,aC⟩=aA (.int .i64 (tB par g g:Nat)):=by rw[<-hW3];exact(World.cell?_of_block (World.putObj_heap_other (k:=w.heap.size) oO)).trans h2.c
 have hK3:W3.heap[w.heap.size+3]? =aA (.deferred (aA [])):=by rw[<-hW3];exact(World.putObj_heap_other oO).trans h2.K
 have hb3:Below w.heap.size w W3:=by rw[<-hW3];exact DL h2.b oO _
 clear hW3;refine⟨aC,W3,hend,?_⟩;gi_wp2
 refine⟨sS,.inl ⟨_,_,rfl,run_takeDeferred hK3,?_⟩⟩;exact⟨_,results_tmp rfl _ _ _,rfl,DL hb3 oO _⟩
theorem aBX(w:World)(b o cap N:Nat)(par:Nat->Int)(hp:Pars w b o cap N par)(g:Nat)(hg:g<N)(hN:N<=1000)(hv:∀j,1<=j->j<=g->0<=par j/\par j<j):
 Calls aD 272 #[.slice (aA ⟨b,o,aC⟩) N cap,.int .i64 (g:Int)] w λ e W'=>e= .returned (.int .i64 (tB par g g:Nat))/\Below w.heap.size w W':=
 callsIn_wide.1 (aWD Fence.wide 2 trivial trivial trivial rfl (aF _) w b o cap N par hp g hg hN hv)
theorem RA{Γ:dL}{w w':World}{G:Nat->Prop}{ρ:cY}{A:bZ}{k:Nat}(hr:HRel Γ w G ρ (bK [] A))(h:Below w.heap.size w w'):
 HRel Γ w' G ρ (bK [] (kS A k k))/\Step (lC k) w G ρ w' G ρ:=by have hn:∀id,ρ id=aC:=λ id=>hr.dom id rfl;have hst:Step (lC k) w G ρ w' G ρ:=⟨h.size,λ b hb _=>h.block b hb,λ b hb=>shp_of (h.block b hb),λ _ h=>h,λ _ h=> .inl h,λ _ h=> .inl h,λ _ _=> .inr rfl,h.os,h.tape,h.output⟩;refine⟨⟨λ id _=>hn id,λ id B A' hid=>by simp[bK,AM.look]at hid,hr.inj,λ b hb=>oD (hr.ro b hb) h.size,?_⟩,hst⟩;exact JB hr hst
theorem MM(Γ:dL):IB Γ:=by
 intro s n g hg hn hv k A hA w G ρ cargs hr hvs;obtain⟨hlen,hvv⟩:=hvs;have h0:=hvv 0 _ rfl;have h1:=hvv 1 _ rfl
 have hc2:cargs= #[cargs.getD 0 undef,cargs.getD 1 undef]:=by
  have hsz:cargs.size=2:=hlen.symm;apply aIG;.simp[hsz]
  intro i hi1 hi2
  match i with
  |0=>simp[Array.getD,hsz]
  |1=>simp[Array.getD,hsz]
  |i+2=>omega
 have e1:cargs.getD 1 undef= .int .i64 (g:Int):=by generalize cargs.getD 1 undef=x at h1;cases h1;rfl
 obtain⟨b,o,cap,e0,hp⟩:∃b o cap,cargs.getD 0 undef= .slice (aA ⟨b,o,aC⟩) n cap/\Pars w b o cap n s.par:=by
  generalize cargs.getD 0 undef=x at h0
  cases h0 with
  |rd0=>omega
  |rd gv hb hcap hnm hl hc hv'=>refine⟨_,_,_,rfl,hr.ro _ hb,λ i hi=>?_⟩;have h2:=hc i 0 _ hi rfl;have h3:=hv' i 0 _ hi rfl;rw[jL]at h2;rw[h2];generalize gv i 0=z at h3;cases h3;rfl
 rw[hc2,e0,e1];refine(aBX w b o cap n s.par hp g hg hn hv).mono ?_;rintro e w' ⟨rfl,hbl⟩;obtain⟨q1,q2⟩:=RA (k:=k) hr hbl;exact⟨_,G,ρ,k,_,[],rfl,⟨rfl,rfl,rfl⟩,aF _,q1,.lit,q2⟩
end Go.Proofs.T
end
section
namespace Go.Proofs.T
open Go Go.AM Go.Proofs
variable{Γ:dL}
structure Kinds (s:St):Prop where
 wf:Wf s
 v0:∀g c,0<=(s.sp g c).v
theorem PW(s:St)(hk:Kinds s)(h12:s.ns<=12)(hr:iZ s=aB):(dQ s).Perm (zQ s):=by
 unfold dQ zQ;rw[iN (by rw[hr];simp),CT];by_cases h1:0<(kX s).length;.rw[iP h1,iP h1]
 rw[iN h1,iN h1];obtain⟨hp,hpar⟩:=a7P h12 hr oO;have hpp:=aEK s hk.wf hk.v0 hp;have hpl:(oQ s).length=(rE s).length:=hpp.length_eq;rw[hpl];by_cases h2:0<(rE s).length;.rw[iP h2,iP h2];exact hpp
 rw[iN h2,iN h2];refine aBN s (floorOk s h12 hr oO ?_);unfold rE at h2;simp only[bM]at h2;omega
theorem aCJ(s:St)(hq:PreOk s)(hk:Kinds s):Pure aD Γ 113 [.agg s.cells] (rows 3 ((dQ s).map Flt.row)):=by
 refine check (MM Γ) s hq (dQ s) (λ h=>?_) (λ h1 h2 h3=>?_) (λ h=>?_) (λ h=>?_) (λ h=>?_);.rw[dQ,<-CG,iP h]
 .rw[CG]at h1;rw[CT]at h2;refine floorOk s hq.n12 h1 h2 ?_;unfold rE at h3;simp only[bM]at h3;omega
 .rw[CG]at h;intro f hf;exact aPA s hq.sm f ((PW s hk hq.n12 h).mem_iff.2 hf)
 .rw[CG]at h;exact PW s hk hq.n12 h
 exact(RM s).imp λ {x y} hxy=>(PY y x).2 hxy
theorem PX(s:St)(hq:PreOk s):(dQ s).length<=100000:=by
 unfold dQ;by_cases hr:iZ s=aE;.rw[iP hr];simp
 rw[iN hr];have hr':iZ s=aB:=by simpa using hr
 have hc:=(gT hr').1.2.1;have:=hq.sm.nk;have:=hq.sm.nt;have:=hq.n12;split;.have:=EO s hq.n12;rw[CT]at this;omega
 split
 .unfold oQ;simp only[bM];have h1:=dX (f:=pF s) (m:=1) (λ i=>iL _ _) s.nk;have h2:=dX (f:=XS s) (m:=s.nt) (λ r=>by have:=dX (f:=KP s r) (m:=1) (λ i=>iL _ _) s.nt;unfold XS;omega) 7
  have h3:=rJ (f:=KX s) (m:=12) s.ns (λ g hg=>by
   have:=dX (f:=aIP s g) (m:=1) (λ i=>iL _ _) (s.nsp g);have:=hq.p12 g hg;unfold KX;split;.simp
   omega)
  have h4:=dX (f:=BJ s) (m:=1) (λ i=>iL _ _) s.cpus.toNat;have h5:=dX (f:=AJ s) (m:=1) (λ i=>iL _ _) s.cpus.toNat;omega
 have h1:=dX (f:=aOI s) (m:=64) (λ g=>by have:=dX (f:=UB s g) (m:=1) (λ i=>iL _ _) s.cpus.toNat;unfold aOI;omega) s.ns;unfold wR;omega
def pf(s:St)(i:Nat):List AVal:=[.lit (.int .i64 (s.par i))]
attribute [go_sem] pf
def ZV(s:St)(i:Nat):List (List AVal):=(aN i).map (pf s)
theorem aNJ(s:St):ZV s 0=[]:=rfl
theorem aNK(s:St)(i:Nat):ZV s (i+1)=ZV s i++[pf s i]:=NS
theorem ZU(s:St)(i:Nat):(ZV s i).length=i:=by simp[ZV]
attribute [go_sem] ZU
theorem aJA(s:St)(n:Nat)(hn:n<=1000):Pure aD Γ 115 [.rd 2 n (gf s)] (.rd 1 n (pf s)):=by
 refine bT Tryz.func115 rfl 19 rfl bB rfl λ k=>?_;have kp:=gZ k [0,2,3,5,6,7,8,9];refine wl ?_;refine cA ?_;refine bY (X:=Nat) rfl [0,2,3,5,6,7,8,9] (k+1) (λ i=>[(8,i),(3,dG k (ZV s i))]) (λ i=>cL k 1 (ZV s i) []) (λ i=>i<=n) (λ i=>n-i) 0 ?_ (aZ _) ?_;.rw[aNJ];refine rR ?_;apply zN;exact pQ
 intro i hi;refine rR ?_;apply zN;refine wl ?_;refine oT (λ ht=>?_) λ ht=>?_;.refine⟨i+1,oO,oO,?_⟩;rw[aNK];refine rR ?_;apply zN;exact DZ (k+3) k wL
 have hi':i=n:=oO;subst hi';refine aIF rfl (id:=k) (s:=1) (l:=ZV s i) 2 sL sL ?_;refine⟨_,rfl,?_⟩;rw[rows,ZU];exact vW _ _ _
theorem ZD(n m:Nat)(f g:Nat->Int)(hn:n<=1000)(hm:m<=1000):Pure aD Γ 114 [.rd 1 n (λ i=>[(f i)]),.rd 1 m (λ i=>[(g i)])] (decide (n=m/\∀i,i<n->f i=g i)):=by
 refine bT Tryz.func114 rfl 26 rfl bB rfl λ k=>?_;have kp:=gZ k [0,1,4,5,10,12,13,14,24];refine wl ?_;refine oT (λ ht=>?_) λ ht=>?_;.refine bV rfl ⟨_,rfl,bC ?_⟩;rw[decide_eq_false (by rintro⟨h1,_⟩;omega)]
 refine bY (X:=Nat) rfl [0,1,4,5,10,12,13,14,24] k (λ i=>[(13,i)]) (λ i=>[]) (λ i=>i<=n/\∀j,j<i->f j=g j) (λ i=>n-i) 0 ?_ ⟨aZ _,λ j hj=>absurd hj (bO _)⟩ ?_;.refine rR ?_;apply zN;exact pQ
 rintro i ⟨hi,hall⟩;refine rR ?_;apply zN;refine wl ?_;refine jV ⟨λ ht ht=>zN ?_⟩ ⟨λ ht ht=>zN ?_⟩ ⟨λ ht=>zN ?_⟩;.refine bV rfl ⟨_,rfl,bC ?_⟩;rw[decide_eq_false (by rintro⟨h1,h2⟩;have:=h2 i oO;omega)]
 .refine⟨i+1,⟨oO,λ j hj=>?_⟩,oO,?_⟩
  .by_cases he:j=i;.subst he;omega
   exact hall j oO
  refine rR ?_;apply zN;exact pQ
 refine bV rfl ⟨_,rfl,bC ?_⟩;rw[decide_eq_true (by refine⟨oO,λ j hj=>hall j oO⟩)]
theorem HR {us vs:List AVal}(h:VLes us vs):VLe (.tup us) (.tup vs):=λ w G ρ A cv hv=>by
 obtain⟨h1,h2⟩:=h.spec
 cases hv with
 |tup h3 h4=>refine .tup oO λ j v hj=>?_;have hlt:=(aK.1 hj).1;have hu:us[j]? =aA us[j]:=aJ oO;exact h2 j _ v hu hj _ _ _ _ _ (h4 j _ hu)
def QU(a b:St)(i:Nat):Bool:=decide (a.cpus=b.cpus/\a.credit=b.credit/\a.ng=b.ng/\∀g,g<i->a.par g=b.par g)
def FD(a b:St)(c:Nat):List Flt:=iQ (decide (b.clk c<a.clk c)) ⟨15,(c:Int),0⟩
def CA(a b:St)(g c:Nat):List Flt:=iQ (decide ((b.sp g c).floor<(a.sp g c).floor)) ⟨16,(g:Int),(c:Int)⟩
def GS(a b:St)(g:Nat):List Flt:=cD (CA a b g) (a.nsp g)
def tC(a b:St):List Flt:=cD (FD a b) a.nk++cD (GS a b) a.ns
def tV(a b:St):Prop:=0<(dQ a).length\/0<(dQ b).length
instance (a b:St):Decidable (tV a b):=by unfold tV;infer_instance
def uM(a b:St):List Flt:=if tV a b then []else if QU a b a.ng=aE then [⟨17,0,0⟩]else tC a b
def AZ(a b:St):Int:=if tV a b then 320 else 0
theorem nG{s:St}(h:(dQ s).length=0):iZ s=aB/\(kX s).length=0:=by
 unfold dQ at h;by_cases h1:iZ s=aE;.rw[iP h1]at h;simp at h
 rw[iN h1]at h;refine⟨by simpa using h1,?_⟩;split at h<;>omega
structure Alike (a b:St):Prop where
 nk:b.nk=a.nk
 ns:b.ns=a.ns
 nsp:∀g,g<a.ns->b.nsp g=a.nsp g
theorem aCY{a b:St}(ha:(dQ a).length=0)(hb:(dQ b).length=0)(hal:QU a b a.ng=aB):Alike a b:=by obtain⟨_,ha⟩:=nG ha;obtain⟨_,hb⟩:=nG hb;obtain⟨h1,h2,h3,h4⟩:=shapes_nil ha;obtain⟨k1,k2,k3,k4⟩:=shapes_nil hb;simp only[QU,dTt]at hal;obtain⟨e1,_,e3,_⟩:=hal;exact⟨oO,oO,λ g hg=>by have:=h4 g hg;have:=k4 g oO;omega⟩
theorem aEZ{a b:St}(hq:PreOk a):(tC a b).length<=2000:=by have h1:=dX (f:=FD a b) (m:=1) (λ i=>iL _ _) a.nk;have h2:=rJ (f:=GS a b) (m:=12) a.ns (λ g hg=>by have:=dX (f:=CA a b g) (m:=1) (λ i=>iL _ _) (a.nsp g);have:=hq.p12 g hg;unfold GS;omega);have:=hq.sm.nk;have:=hq.n12;unfold tC;rw[bM];omega
def zSt:St:=⟨0,0,0,λ _=>0,λ _=>0,0,λ _=>0,0,λ _=>0,0,λ _=>⟨0,0,0,0,0,aE,0,0⟩,0,λ _=>0,λ _ _=>⟨0,0,0⟩⟩
theorem WF(a b:St):(tC a b).Pairwise leF:=by
 unfold tC;refine rM (vF λ i=>rfl) (lA (λ g _=>EP λ i=>rfl) λ i j hij _ x hx y hy=>?_) λ x hx y hy=>?_;.obtain⟨c,_,hx⟩:=mem_flats.1 hx;obtain⟨_,rfl⟩:=mem_iff1.1 hx;obtain⟨c',_,hy⟩:=mem_flats.1 hy;obtain⟨_,rfl⟩:=mem_iff1.1 hy;exact TP rfl (by simp only;omega)
 obtain⟨c,_,hx⟩:=mem_flats.1 hx;obtain⟨_,rfl⟩:=mem_iff1.1 hx;obtain⟨g,_,hy⟩:=mem_flats.1 hy;obtain⟨c',_,hy⟩:=mem_flats.1 hy;obtain⟨_,rfl⟩:=mem_iff1.1 hy;exact AG sS
theorem aTF(a b:St)(hs:a.Small):∀f∈tC a b,f.ok:=λ x hx=>by
 unfold tC at hx;rcases dC.1 hx with hx|hx;.obtain⟨c,hc,hx⟩:=mem_flats.1 hx;obtain⟨_,rfl⟩:=mem_iff1.1 hx;have:=hs.nk;unfold Flt.ok;simp only;omega
 obtain⟨g,hg,hx⟩:=mem_flats.1 hx;obtain⟨c,hc,hx⟩:=mem_flats.1 hx;obtain⟨_,rfl⟩:=mem_iff1.1 hx;have:=hs.ns;have:=hs.nsp g hg;unfold Flt.ok;simp only;omega
theorem step(a b:St)(hq:PreOk a)(hq':PreOk b)(hk:Kinds a)(hk':Kinds b):Pure aD Γ 51 [.agg a.cells,.agg b.cells] (.tup [rows 3 ((uM a b).map Flt.row),(AZ a b)]):=by
 obtain⟨⟨hng,hnk,hnu,hnt,hns,hnsp⟩,h12,hp12⟩:=id hq;obtain⟨⟨hng',hnk',hnu',hnt',hns',hnsp'⟩,h12',hp12'⟩:=id hq';have hla:=PX a hq;have hlb:=PX b hq';refine bT Tryz.func51 rfl 108 rfl bB rfl λ k=>?_;obtain⟨R,eR⟩:∃R,R=(uM a b).map Flt.row:=⟨_,rfl⟩;obtain⟨E,eE⟩:∃E,E=AZ a b:=⟨_,rfl⟩;rw[<-eR,<-eE];have kp:=gZ k [0,1,2,3,4,5,6,7,8,9,10,11,19,47,54,55,56,74,75,76,77,81,82,83,84];refine wl ?_;refine cA ?_;refine dl [.ret (.rd 3 (dQ a).length (λ j=>((dQ a).map Flt.row).getD j [])),.ret (.rd 3 (dQ b).length (λ j=>((dQ b).map Flt.row).getD j []))] ?_;refine jV (zs ?_) (zs ?_) (zs ?_);.have h:=aCJ (Γ:=Γ) a hq hk;rw[rows,cX]at h;exact h
 .have h:=aCJ (Γ:=Γ) b hq' hk';rw[rows,cX]at h;exact h
 refine tK rfl _ rfl (λ ht=>?_) (λ hf=>?_)
 .have hbad:tV a b:=by simp only[dTt]at ht;unfold tV;omega
  refine wl ?_;refine cA ?_;refine bV rfl ⟨_,rfl,?_⟩;rw[eR,eE,uM,AZ,iP hbad,iP hbad];exact HR (.cons (VLe.nil _ _) (.cons (bJ _) .nil))
 have hnb:¬tV a b:=by simp only[dFn]at hf;unfold tV;omega
 have ha:(dQ a).length=0:=by unfold tV at hnb;omega
 have hb:(dQ b).length=0:=by unfold tV at hnb;omega
 have hE:E=0:=by rw[eE,AZ,iN hnb]
 have hRr:R=(if QU a b a.ng=aE then [⟨17,0,0⟩]else tC a b).map Flt.row:=by rw[eR,uM,iN hnb]
 clear eR eE;subst hE;refine AB rfl ?_;refine sT ?_;refine gW rfl ?_;refine FI (X:=Bool) rfl [0,1,2,3,4,5,6,7,8,9,10,11,19,47,54,55,56,74,75,76,77,81,82,83,84] (k+2) (λ x=>[(47,x)]) (λ x=>[(k+1,⟨7,aB,[b.cells]⟩),(k,⟨7,aB,[a.cells]⟩)]) (λ x=>x= !(QU a b a.ng)) ?_ ?_
 .refine dl [.ret (.rd 1 a.ng (pf a)),.ret (.rd 1 b.ng (pf b)),.ret (decide (a.ng=b.ng/\∀i,i<a.ng->a.par i=b.par i))] ?_;refine zq6 ⟨⟨λ hg hg=>⟨?_⟩⟩⟩ ⟨⟨λ hg hg=>⟨?_⟩⟩⟩ ⟨⟨λ hg hg=>⟨?_⟩⟩⟩ ⟨⟨λ hg hg=>⟨?_⟩⟩⟩ ⟨⟨λ hg hg=>⟨?_⟩⟩⟩ ⟨⟨λ hg=>⟨?_⟩⟩⟩;.exact aJA a a.ng hng
  .exact aJA b b.ng hng'
  .exact ZD a.ng b.ng a.par b.par hng hng'
  .refine⟨!(decide (a.ng=b.ng/\∀i,i<a.ng->a.par i=b.par i)),?_,?_⟩;.congr 1;rw[bH,QU,dTt,dTt];exact⟨λ h=>⟨by assumption,by assumption,h.1,h.2⟩,λ h=>h.2.2⟩
   exact pQ
  .refine⟨aB,?_,?_⟩
   .rw[QU,decide_eq_false];.rfl
    rintro⟨h1,h2,_⟩;contradiction
   exact pQ
  refine⟨aB,?_,?_⟩
  .rw[QU,decide_eq_false];.rfl
   rintro⟨h1,h2,_⟩;contradiction
  exact pQ
 rintro x rfl;refine rR ?_;apply zN;refine tK rfl _ rfl (λ ht=>?_) (λ hf=>?_)
 .have hall:QU a b a.ng=aE:=by simpa using ht
  rw[iP hall]at hRr;refine wl ?_;refine cA ?_;refine gL (aDL (id:=k+2) (s:=3) (l:=[Flt.row ⟨17,0,0⟩]) 4 (rows 3 [Flt.row ⟨17,0,0⟩]) [(k+1,⟨7,aB,[b.cells]⟩),(k,⟨7,aB,[a.cells]⟩)] sL sL (bJ _) sL sL) ?_;refine rR ?_;apply zN;refine bV rfl ⟨_,rfl,?_⟩;rw[hRr];exact bJ _
 have hall:QU a b a.ng=aB:=by simpa using hf
 rw[iN (by rw[hall];simp)]at hRr;obtain⟨gnk,gns,gnsp⟩:=aCY ha hb hall;refine wl ?_;refine cA ?_;refine gL (Mv.row (k+2) (l:=[]) (nD (k+3) zSt []) (by simp-dsimp-implicitDefEqProofs only[go_sem,aM,Flt.row,eq_self,↓reduceIte];rfl) (.cons (bJ _) (.cons (bJ _) (.cons (VLe.nil _ _) (.cons (VLe.nil _ _) (.cons (VLe.nil _ _) (.cons (VLe.nil _ _) (.cons (VLe.nil _ _) (.cons (bJ _) .nil)))))))) rfl) ?_;refine rR ?_;apply zN;refine gL (QQ (k+2) (by simp-dsimp-implicitDefEqProofs only[go_sem,eq_self,↓reduceIte];rfl)) ?_;refine rR ?_;apply zN;refine bY (X:=Nat) rfl [0,1,2,3,4,5,6,7,8,9,10,11,19,47,54,55,56,74,75,76,77,81,82,83,84] (k+4) (λ i=>[(55,i)]) (λ i=>(k+2,⟨8,aE,[nD (k+3) zSt (cD (FD a b) i)]⟩)::cL (k+3) 3 ((cD (FD a b) i).map Flt.row) [(k+1,⟨7,aB,[b.cells]⟩),(k,⟨7,aB,[a.cells]⟩)]) (λ i=>i<=a.nk) (λ i=>a.nk-i) 0 ?_ (aZ _) ?_;.rw[kN];refine rR ?_;apply zN;exact pQ
 intro c hc;have hfl:=dX (f:=FD a b) (m:=1) (λ c=>iL _ _) c;obtain⟨l1,e1,h1⟩:∃x,x=cD (FD a b) c/\x.length<=c:=⟨_,rfl,oO⟩;rw[<-e1];refine rR ?_;apply zN;refine wl ?_;refine oT (λ ht=>?_) λ ht=>?_
 .obtain⟨l2,e_l2,h_l2⟩:∃x,x=l1++iQ (decide (b.clk c<a.clk c)) ⟨15,(c:Int),0⟩/\x.length<=(l1).length+1:=⟨_,rfl,jJ _ _ _⟩;refine lJ [0,1,2,3,4,5,6,7,8,9,10,11,19,47,54,55,56,74,75,76,77,81,82,83,84] (k+5) [] ((k+2,⟨8,aE,[nD (k+4) zSt (l2)]⟩)::cL (k+4) 3 ((l2).map Flt.row) [(k+1,⟨7,aB,[b.cells]⟩),(k,⟨7,aB,[a.cells]⟩)]) ?_ ?_;.refine dl [.gen (.tup []) (k+5) (LK (k+2) (k+3) zSt (l1)) (LK (k+2) (k+4) zSt (l2))] ?_;refine iE ?_ ?_;all_goals(first|(exact mL (k+4) (k+2) (k+3) zSt (l1) (l2) _ (decide (b.clk c<a.clk c)) _ _ _ (by first|rfl|(rw[bH];simp only[beq_iff_eq,bne_iff_ne,ne_eq,dTt,dFn,aH,bL,bD,beq_eq_false_iff_ne,aS,bX,true_iff,false_iff,iff_true,iff_false];omega)|(simp[hg];done)|(simp[hg,hq];done)|(simp_all;done)|(simp_all;omega)) e_l2 oO oO oO oO)|(exact pQ))
  refine rR ?_;apply zN;refine wl ?_;refine cA ?_;refine⟨c+1,oO,oO,?_⟩;rw[show cD (FD a b) (c+1)=l2 by rw[fQ,<-e1,e_l2];rfl];refine rR ?_;apply zN;exact DZ (k+4) (k+3) wL
 have hcn:c=a.nk:=oO;subst hcn;clear hfl;refine bY (X:=Nat) rfl [0,1,2,3,4,5,6,7,8,9,10,11,19,47,54,55,56,74,75,76,77,81,82,83,84] (k+4) (λ i=>[(76,i)]) (λ i=>(k+2,⟨8,aE,[nD (k+3) zSt (l1++cD (GS a b) i)]⟩)::cL (k+3) 3 ((l1++cD (GS a b) i).map Flt.row) [(k+1,⟨7,aB,[b.cells]⟩),(k,⟨7,aB,[a.cells]⟩)]) (λ i=>i<=a.ns) (λ i=>a.ns-i) 0 ?_ (aZ _) ?_;.rw[kN,cZ];refine rR ?_;apply zN;exact pQ
 intro g hg2;have hfl:=rJ (f:=GS a b) (m:=12) g (λ g' hg'=>by have:=dX (f:=CA a b g') (m:=1) (λ i=>iL _ _) (a.nsp g');have:=hp12 g' oO;unfold GS;omega);obtain⟨l2,e2,h2⟩:∃x,x=l1++cD (GS a b) g/\x.length<=l1.length+g*12:=⟨_,rfl,by simp;omega⟩;rw[<-e2];refine rR ?_;apply zN;refine wl ?_;refine oT (λ ht=>?_) λ ht=>?_
 .have hpg:a.nsp g<=12:=hp12 g oO;have hpg':b.nsp g=a.nsp g:=gnsp g oO;refine bY (X:=Nat) rfl [0,1,2,3,4,5,6,7,8,9,10,11,19,47,54,55,56,74,75,76,77,81,82,83,84] (k+4) (λ i=>[(83,i)]) (λ i=>(k+2,⟨8,aE,[nD (k+3) zSt (l2++cD (CA a b g) i)]⟩)::cL (k+3) 3 ((l2++cD (CA a b g) i).map Flt.row) [(k+1,⟨7,aB,[b.cells]⟩),(k,⟨7,aB,[a.cells]⟩)]) (λ i=>i<=a.nsp g) (λ i=>a.nsp g-i) 0 ?_ (aZ _) ?_;.rw[kN,cZ];refine rR ?_;apply zN;exact pQ
  intro c hc;have hfi:=dX (f:=CA a b g) (m:=1) (λ i=>iL _ _) c;obtain⟨l3,e3,h3⟩:∃x,x=l2++cD (CA a b g) c/\x.length<=l2.length+c:=⟨_,rfl,by simp;omega⟩;rw[<-e3];refine rR ?_;apply zN;refine wl ?_;refine oT (λ ht=>?_) λ ht=>?_
  .obtain⟨l4,e_l4,h_l4⟩:∃x,x=l3++iQ (decide ((b.sp g c).floor<(a.sp g c).floor)) ⟨16,(g:Int),(c:Int)⟩/\x.length<=(l3).length+1:=⟨_,rfl,jJ _ _ _⟩;refine lJ [0,1,2,3,4,5,6,7,8,9,10,11,19,47,54,55,56,74,75,76,77,81,82,83,84] (k+6) [] ((k+2,⟨8,aE,[nD (k+5) zSt (l4)]⟩)::cL (k+5) 3 ((l4).map Flt.row) [(k+4,⟨3,aB,[sf a g c]⟩),(k+1,⟨7,aB,[b.cells]⟩),(k,⟨7,aB,[a.cells]⟩)]) ?_ ?_;.refine dl [.gen (.tup []) (k+6) (LK (k+2) (k+3) zSt (l3)) (LK (k+2) (k+5) zSt (l4))] ?_;refine iE ?_ ?_;all_goals(first|(exact mL (k+5) (k+2) (k+3) zSt (l3) (l4) _ (decide ((b.sp g c).floor<(a.sp g c).floor)) _ _ _ (by first|rfl|(rw[bH];simp only[beq_iff_eq,bne_iff_ne,ne_eq,dTt,dFn,aH,bL,bD,beq_eq_false_iff_ne,aS,bX,true_iff,false_iff,iff_true,iff_false];omega)|(simp[hg];done)|(simp[hg,hq];done)|(simp_all;done)|(simp_all;omega)) e_l4 oO oO oO oO)|(exact pQ))
   refine rR ?_;apply zN;refine wl ?_;refine cA ?_;refine⟨c+1,oO,oO,?_⟩;rw[show l2++cD (CA a b g) (c+1)=l4 by rw[fQ,<-cM,<-e3,e_l4];rfl];refine rR ?_;apply zN;exact DZ (k+5) (k+3) wL
  have hcn:c=a.nsp g:=oO;refine⟨g+1,oO,oO,?_⟩;rw[show l1++cD (GS a b) (g+1)=l3 by rw[fQ,<-cM,<-e2,e3,hcn];rfl];refine rR ?_;apply zN;exact pQ
 have hgn:g=a.ns:=oO;subst hgn;have hl2:tC a b=l2:=by rw[e2,e1];rfl
 have hok:=aTF a b hq.sm;have hso:=(WF a b).imp λ {x y} hxy=>(PY y x).2 hxy;rw[hl2]at hRr hok hso;refine cl [.gen (dG (k+3) (l2.map Flt.row)) (k+4) (LK (k+2) (k+3) zSt l2) (LK (k+2) (k+3) zSt l2)] ?_;refine iE ?_ ?_;.exact sorted (k+4) (k+2) (k+3) zSt l2 l2 oO oO oO hok (gQ.refl _) hso oO
 refine gL (nV (fr1:=[(4,dG (k+3) (l2.map Flt.row)),(5,.lit (.int .i64 0))]) (k1:=k+4) (H1:=cL (k+3) 3 (l2.map Flt.row) []) wL) ?_;refine gL (aDL (id:=k+3) (s:=3) (l:=l2.map Flt.row) 4 (rows 3 (l2.map Flt.row)) [] sL sL (bJ _) sL sL) ?_;refine rR ?_;apply zN;refine bV rfl ⟨_,rfl,?_⟩;rw[hRr];exact bJ _
end Go.Proofs.T
end
