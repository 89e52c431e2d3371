import Derived.Test.YteimiejbhhgljaaGreatDoorZAL
set_option linter.unusedVariables false
set_option linter.unusedSimpArgs false
set_option maxHeartbeats 0
set_option maxRecDepth 100000
open Bool renaming and_false->qP,and_true->qO,eq_false_iff->dS,false_eq_true->aO,false_or->FW,not_eq_true->aHU,not_true->a0V,or_eq_true->bH,true_and->kQ
open Int renaming fdiv_eq_ediv_of_nonneg->dL
open Go.IntKind renaming i64->aN,u64->bN
open List renaming all_cons->hY,all_eq_true->aW,append_nil->aR,ext_getElem?->kP,filter_append->KA,filter_cons->bKI,filter_eq_self->vK,getD_eq_getElem?_getD->bD,getElem?_eq_getElem->aE,getElem?_eq_none->cI,getElem?_eq_some_iff->aG,getElem?_map->aQ,getElem?_set->fY,getElem?_set_ne->bLH,getElem?_toArray->cH,getElem_mem->bKH,length_append->bQ,length_map->bP,length_set->PI,length_take->bKG,map->jL,map_append->aH,map_cons->bG,map_map->jD,map_nil->aV,map_set->mI,mem_append->cD,mem_cons_of_mem->fP,mem_iff_getElem->sM,mem_map->cL,mem_of_getElem?->jC,range->aM,range_succ->CI,replicate->eI,take_length->aHS
open Nat renaming add_assoc->fS,add_sub_cancel->rN,add_sub_cancel_left->iW,eq_zero_or_pos->jJ,le_refl->aF,lt_succ_self->dC,mul_comm->jW,mul_one->bAM,not_lt_zero->bJ,sub_self->PG,sub_zero->bFW,zero_add->dV,zero_le->aJ
open Option renaming bind_eq_some_iff->bX,isSome_none->lA,map_eq_some_iff->aB,map_some->cB,some->mB
open Go.Result renaming andThen_ok->bI
open Go.Sem renaming run_bind->bO,run_pure->dP
open Go.Proofs.Tryz renaming prog->aA,underlying3->dB
section
namespace Go.AM
def aBM(id j:Nat)(row:List AVal):Bool:=(row.set j .junk).all (iC (GM id))
theorem aBL{id j:Nat}{row:List AVal}(h:aBM id j row=true){c:Nat}{u:AVal}(hc:c≠j)(hu:row[c]? =some u):iC (GM id) u=true:=by
 have h1:(row.set j .junk)[c]? =some u:=by rw[bLH (Ne.symm hc)];exact hu
 exact aW.1 h u (jC h1)
theorem aRO{id:Nat}{B:Blk}{u:AVal}(hu:iC (GM id) u=true):jE id B u=u:=by
 cases u with
 |ptr i r c=>simp only[iC,GM,dTt]at hu;simp[jE,hu]
 |sl i r c=>simp only[iC,GM,dTt]at hu;simp[jE,hu]
 |_=>rfl
theorem fX {kb k:Nat}{fr:Fr}{H:aS}{id s D sz:Nat}{l:List (List AVal)}{row:List AVal}(j:Nat)(v:AVal)(fr1:Fr)(H1:aS)(hne:D≠id)(hD:look H D=some ⟨sz,false,[row]⟩)(hj:row[j]? =some (bV id l))
 (hH:iU H id s l) (hv:VLe (rows s l) v) (hoff:aBM id j row=true) (h1:XY fr id fr1) (h2:ID H id H1):Mv kb k fr H k fr1 ((D,⟨sz,false,[row.set j v]⟩)::H1):=by
 have hvle:∀u u',VLe u u'->VLe u' v->VLe u v:=λ u u' a b w G ρ A cv h=>b w G ρ A cv (a w G ρ A cv h);have hjl:=(aG.1 hj).1
 cases l with
 |nil=>
  refine λ hk=>kU ⟨hk,λ t' u hu=>⟨u,(uD h1 t' u hu).1,aK u⟩,λ i B hB=>?_,.inl rfl⟩ hk;simp only[look]at hB;split at hB
  .rename_i he;subst he;cases hB;refine⟨_,hD,rfl,λ q row' hq=>?_,λ h=>by cases h⟩
   cases q with
   |zero=>
    cases hq;refine⟨row,rfl,sS,λ c u w hu hw=>?_⟩;by_cases hc:c=j;.subst hc;rw[List.getElem?_set_self hjl]at hw;rw[hj]at hu;cases hu;cases hw;exact hvle _ _ (VLe.nil s _) hv
    rw[bLH (Ne.symm hc),hu]at hw;cases hw;exact aK _
   |succ q=>simp at hq
  exact⟨B,(uC h2 i B hB).2.1,pE B⟩
 |cons x r=>
  have h3:=hH sS;refine Mv.trans (dJ id h3 rfl) (λ hk=>kU ⟨hk,λ t' u hu=>?_,λ i B hB=>?_,.inl rfl⟩ hk);.obtain⟨h4,h5⟩:=uD h1 t' u hu;refine⟨u,?_,aK u⟩;unfold kX;rw[kJ,h4,cB,aGR h5]
  simp only[look]at hB;split at hB
  .rename_i he;subst he;cases hB;refine⟨⟨sz,false,[row.map (jE id ⟨s,true,x::r⟩)]⟩,by unfold yK;rw[kJ,gI,if_neg hne,hD];rfl,rfl,λ q row' hq=>?_,λ h=>by cases h⟩
   cases q with
   |zero=>
    cases hq;refine⟨row.map (jE id ⟨s,true,x::r⟩),rfl,sS,λ c u w hu hw=>?_⟩;rw[aQ]at hu;by_cases hc:c=j;.subst hc;rw[List.getElem?_set_self hjl]at hw;rw[hj]at hu;cases hw;simp only[cB,bV,jE,dV,aF,and_self,if_true,mB.injEq]at hu;subst hu;exact hv
    rw[bLH (Ne.symm hc)]at hw;rw[hw,cB,aRO (aBL hoff hc hw)]at hu;cases hu;exact aK _
   |succ q=>simp[IX]at hq
  obtain⟨h4,h5,h6⟩:=uC h2 i B hB;refine⟨B,?_,pE B⟩;unfold yK;rw[kJ,gI,if_neg h4,h5];simp[IX,h6]
attribute [go_sem] aBM
end Go.AM
end
section
namespace Go.Proofs.T
open Go Go.AM Go.Proofs
variable{Γ:List (Nat×List AVal)}
def aWZ:ByteArray:=⟨#[111,116,104,101,114]⟩
def aBO:ByteArray:=⟨#[98,97,99,107]⟩
def aBN:ByteArray:=⟨#[102,101,108,108]⟩
theorem bBW:AM.Pure aA Γ 52 [.lit (.int .u8 17)] (.lit (.string aWZ)):=VP (k':=1) 20 rfl rfl (by kernel_rfl)
theorem bBY:AM.Pure aA Γ 52 [.lit (.int .u8 15)] (.lit (.string aBO)):=VP (k':=1) 20 rfl rfl (by kernel_rfl)
theorem bBX:AM.Pure aA Γ 52 [.lit (.int .u8 16)] (.lit (.string aBN)):=VP (k':=1) 20 rfl rfl (by kernel_rfl)
theorem LO(a b:St):∀f∈oM a b,f.r=15\/f.r=16:=λ x hx=>by
 unfold oM at hx;rcases cD.1 hx with hx|hx;.obtain⟨c,hc,hx⟩:=mem_flats.1 hx;obtain⟨_,rfl⟩:=mem_iff1.1 hx;exact .inl rfl
 obtain⟨g,hg,hx⟩:=mem_flats.1 hx;obtain⟨c,hc,hx⟩:=mem_flats.1 hx;obtain⟨_,rfl⟩:=mem_iff1.1 hx;exact .inr rfl
def zF:Flt:=⟨0,0,0⟩
theorem aOR(l:List Flt):VLe (rows 3 (l.map Flt.row)) (.rd 3 l.length (λ j=>Flt.row (l.getD j zF))):=by rw[rows,bP];exact VLe.rd λ i hi=>by simp[bD,hi]
theorem nS{P:Program}{f:FuncId}{args:List AVal}{r r':AVal}(h:AM.Pure P Γ f args r)(hle:VLe r r'):AM.Pure P Γ f args r':=λ k A hA w G ρ cargs h1 h2=>
 (h k A hA w G ρ cargs h1 h2).mono λ _ _ ⟨cv,G',ρ',k',r1,H',he,⟨e1,e2,e3⟩,a,b,c,d⟩=>⟨cv,G',ρ',k',r',H',he,⟨e1,rfl,e3⟩,a,b,hle _ _ _ _ _ (e2▸c),d⟩
theorem bAD(a b:St)(hq:PreOk a)(hq':PreOk b)(hk:Kinds a)(hk':Kinds b):AM.Pure aA Γ 51 [.agg a.cells,.agg b.cells] (.tup [.rd 3 (kE a b).length (λ j=>Flt.row ((kE a b).getD j zF)),(mU a b)]):=
 nS (step a b hq hq' hk hk') (nZ (.cons (aOR _) (.cons (aK _) .nil)))
theorem aSN(k D:Nat)(hD:D<k)(a b:Nat->Int)(n m:Nat)(hm:m=n)(hn:n<=1000)(c1 c2 c3 c4 c5:AVal)(e1:∀p,iC p c1=true)(e2:∀p,iC p c2=true)(e3:∀p,iC p c3=true)(e4:∀p,iC p c4=true)(e5:∀p,iC p c5=true)(L:List (Int×Int))(eL:L=fC (fG a b) n):
 Tr aA Γ 53 k [.rd 1 n (λ i=>[(a i)]),.rd 1 m (λ i=>[(b i)]),.fn 54 [.ptr D 0 0]] ([(D,⟨6,false,[[(),c1,c2,c3,c4,c5]]⟩)]) (λ k1 r1 H1=>k1=k+1/\r1= .tup []/\H1=cA k 2 (L.map jM) [(D,⟨6,false,[[bV k (L.map jM),c1,c2,c3,c4,c5]]⟩)]):=by subst hm eL;exact aZA k D hD a b _ hn c1 c2 c3 c4 c5 e1 e2 e3 e4 e5
theorem aSM(k D:Nat)(hD:D<k)(a b:Nat->Int)(n m:Nat)(hm:m=n)(hn:n<=1000)(c1 c2 c3 c4 c5:AVal)(e1:∀p,iC p c1=true)(e2:∀p,iC p c2=true)(e3:∀p,iC p c3=true)(e4:∀p,iC p c4=true)(e5:∀p,iC p c5=true)(L:List (Int×Int))(eL:L=fC (fG a b) n):
 Tr aA Γ 53 k [.rd 1 n (λ i=>[(a i)]),.rd 1 m (λ i=>[(b i)]),.fn 55 [.ptr D 0 0]] ([(D,⟨6,false,[[c1,(),c2,c3,c4,c5]]⟩)]) (λ k1 r1 H1=>k1=k+1/\r1= .tup []/\H1=cA k 2 (L.map jM) [(D,⟨6,false,[[c1,bV k (L.map jM),c2,c3,c4,c5]]⟩)]):=by subst hm eL;exact aYZ k D hD a b _ hn c1 c2 c3 c4 c5 e1 e2 e3 e4 e5
theorem aSL(k D:Nat)(hD:D<k)(a b:St)(n m:Nat)(hm:m=n)(hn:n<=1000)(c1 c2 c3 c4 c5:AVal)(e1:∀p,iC p c1=true)(e2:∀p,iC p c2=true)(e3:∀p,iC p c3=true)(e4:∀p,iC p c4=true)(e5:∀p,iC p c5=true)(L:List (Int×Int))(eL:L=fC (vE a b) n):
 Tr aA Γ 56 k [.rd 2 n (gf a),.rd 2 m (gf b),.fn 57 [.ptr D 0 0]] ([(D,⟨6,false,[[c1,c2,(),c3,c4,c5]]⟩)]) (λ k1 r1 H1=>k1=k+1/\r1= .tup []/\H1=cA k 2 (L.map jM) [(D,⟨6,false,[[c1,c2,bV k (L.map jM),c3,c4,c5]]⟩)]):=by subst hm eL;exact aYY k D hD a b _ hn c1 c2 c3 c4 c5 e1 e2 e3 e4 e5
theorem bBV{F:List Flt}(h:∀f∈F,f.r=15\/f.r=16){i:Nat}(hi:i<F.length):∃s:ByteArray,(s=aBO\/s=aBN)/\AM.Pure aA Γ 52 [.lit (.int .u8 (F.getD i zF).r)] (.lit (.string s)):=by
 have hm:F.getD i zF∈F:=by rw[bD,aE hi];exact bKH hi
 rcases h _ hm with e|e;.rw[e];exact⟨aBO,.inl rfl,bBY⟩
 rw[e];exact⟨aBN,.inr rfl,bBX⟩
theorem RR{a b:St}(h1:¬pI a b)(h2:xZ a b a.ng=false):OF a b=noDl/\vF a b=351:=by unfold OF vF;simp[h1,h2]
theorem aHI{a b:St}(h1:pI a b):OF a b=noDl/\vF a b=350:=by unfold OF vF;simp[h1]
theorem aTL{a b:St}(h1:¬pI a b)(h2:xZ a b a.ng=true):OF a b=HK a b/\vF a b=0:=by unfold OF vF;simp[h1,h2]
theorem JJ{x:List AVal}(h:x=noDl.cells):VLes [(),(),(),(),(),()] x:=by subst h;exact .cons (VLe.nil _ _) (.cons (VLe.nil _ _) (.cons (VLe.nil _ _) (.cons (VLe.nil _ _) (.cons (VLe.nil _ _) (.cons (VLe.nil _ _) .nil)))))
theorem aEG{loc:aS}{D id sz:Nat}{l:List (List AVal)}{B B':Blk}(h1:AM.look loc D=none)(h2:AM.look loc id=none):DL loc [(D,B)] (cA id sz l [(D,B')]):=λ i hi=>by
 by_cases hD:i=D;.subst hD;exact h1
 by_cases hI:i=id;.subst hI;exact h2
 exfalso;rcases hi with h|h;.simp[dX,AM.look,Ne.symm hD]at h
 cases l<;>simp[cA,dX,AM.look,Ne.symm hD,Ne.symm hI]at h
theorem aTX(p:Nat->Bool)(s:Nat)(l:List (List AVal)):iC p (rows s l)=true:=rfl
attribute [go_sem] aTX
theorem m_2{p:Nat->Bool}{i:Nat}:bd p (.mp i)=p i:=rfl
theorem m_3{p:Nat->Bool}{i:Nat}:JX p (.mp i)=p i:=rfl
theorem m_5{a b i:Nat}:sw2 a b (.mp i)= .mp (sw a b i):=rfl
theorem m_9{p:Nat->Bool}{i:Nat}:bd p (.it i)=p i:=rfl
theorem bCA{a b i:Nat}:sw2 a b (.it i)= .it (sw a b i):=rfl
attribute [go_sem] m_2 m_3 m_5 m_9 bCA
def CB(l:lL)(clock:Nat):List (List AVal):=(mO .i64 l clock).rows
def IE(mid since:Nat)(seen:List Nat)(c0:Nat):List (List AVal):=(jP mid since seen c0).rows
theorem aXU(mid since:Nat)(seen:List Nat)(c0:Nat):jP mid since seen c0=⟨3,false,IE mid since seen c0⟩:=rfl
theorem aLW(p:Nat->Bool)(mid since:Nat)(seen:List Nat)(c0:Nat):((IE mid since seen c0).all λ row=>row.all (iC p))=p mid:=by
 have h:(seen.map λ(x:Nat)=>[AVal.lit (.int .i64 (x:Int)),(0:Int),(0:Int)]).all (λ row=>row.all (iC p))=true:=by rw[aW];intro row hr;obtain⟨x,_,rfl⟩:=cL.1 hr;rfl
 simp only[IE,jP,hY,List.all_nil,iC,h,qO,kQ]
theorem aNF(a b mid since:Nat)(seen:List Nat)(c0:Nat):((IE mid since seen c0).map λ row=>row.map (CO a b))=IE (sw a b mid) since seen c0:=by
 have h:(seen.map λ(x:Nat)=>[AVal.lit (.int .i64 (x:Int)),(0:Int),(0:Int)]).map (λ row=>row.map (CO a b))=seen.map λ(x:Nat)=>[AVal.lit (.int .i64 (x:Int)),(0:Int),(0:Int)]:=by rw[jD];rfl
 simp only[IE,jP,bG,aV,h,CO]
attribute [go_sem] aLW aNF
theorem aOG{i id s:Nat}{l:List (List AVal)}{H:aS}{B:Blk}(h:id≠i):zQ (cA id s l H) i B=cA id s l (zQ H i B):=by
 cases l with
 |nil=>rfl
 |cons x r=>simp only[cA,zQ];rw[if_neg h]
attribute [go_sem] aOG
def zT:Tk:=⟨0,0,0,0,0,false,0,0⟩
theorem aGB:MapT aA 131 3 89 .i64 (tkV zT):=⟨Tryz.underlying131,dB,by kernel_rfl⟩
section
variable{o:Oper}{ev:Operand->Option AVal}{get:Nat->Option Blk}{k id c:Nat}{m x y:Operand}{a b:St}{i:Nat}
theorem a3B(ha:IdOk a)(hi:i<a.nt)(ho:o.op= .mapUpdate 131 m x y)(hm:ev m=some (.mp id))(hx:ev x=some (.lit (.int .i64 (a.tsk i).id)))(hy:ev y=some (.agg (tR (a.tsk i))))(hB:get id=some ⟨3,true,CB (oH a i) i⟩):
 AM.Good aA Γ o ev get k ⟨.junk,k,[(id,some ⟨3,true,CB (oH a (i+1)) (i+1)⟩)],[id]⟩:=by rw[KK];exact WS ho aGB hm hx hy rfl hB (WD ha oO) (SI (ha.lo i hi) (ha.hi i hi)) (aII ha.st hi)
def aIF(a:St)(x:Int):Tk:=match xI a x with|none=>zT|some j=>a.tsk j
theorem aGF(ha:IdOk a)(hb:IdOk b)(hi:i<b.nt)(ho:o.op= .lookup 131 m x true)(hm:ev m=some (.mp id))(hx:ev x=some (.lit (.int .i64 (b.tsk i).id)))(hB:get id=some ⟨3,true,CB (IW a b i) c⟩):
 AM.Good aA Γ o ev get k ⟨.tup [.agg (tR (aIF a (b.tsk i).id)),.lit (.bool (xI a (b.tsk i).id).isSome)],k,[],[id]⟩:=by
 have h:=QQ (P:=aA) (Γ:=Γ) (k:=k) ho aGB hm hx hB (aQF ha) (SI (hb.lo i hi) (hb.hi i hi)) (LX ha.st);rw[aQH ha.st hb.st hi]at h;have e:(Option.map (λ j=>tkV (a.tsk j)) (xI a (b.tsk i).id)).getD (tkV zT)=tkV (aIF a (b.tsk i).id):=by unfold aIF;cases xI a (b.tsk i).id<;>rfl
 have e2:(Option.map (λ j=>tkV (a.tsk j)) (xI a (b.tsk i).id)).isSome=(xI a (b.tsk i).id).isSome:=by cases xI a (b.tsk i).id<;>rfl
 rw[e,e2]at h;refine h.outV λ w G ρ A cv hV=>?_
 cases hV with
 |tup hl hv=>
  refine .tup hl λ j v hj=>?_
  match j,hj with
  | 0,hj=>
    cases hj
    have:=hv 0 _ rfl
    generalize Array.getD _ 0 undef=cv at this⊢
    cases this
    exact a1X (tkV (aIF a (b.tsk i).id))
  |1,hj=>cases hj;exact hv 1 _ rfl
  |j+2,hj=>simp at hj
theorem aDL(ha:IdOk a)(hb:IdOk b)(hi:i<b.nt)(ho:o.op= .call {callee:= .builtin .delete,args:= #[m,x],argTypes:= #[131,3]})(hm:ev m=some (.mp id))(hx:ev x=some (.lit (.int .i64 (b.tsk i).id)))(hB:get id=some ⟨3,true,CB (IW a b i) c⟩):
 AM.Good aA Γ o ev get k ⟨.lit (.tuple #[]),k,[(id,some ⟨3,true,CB (IW a b (i+1)) c⟩)],[id]⟩:=by rw[aQG];exact ZA ho aGB hm hx hB (aQF ha) (SI (hb.lo i hi) (hb.hi i hi)) (LX ha.st)
end
theorem GN(a b:St)(i:Nat):(iG a b i).length<=1:=EN _ _
end Go.Proofs.T
end
section
namespace Go.AM
open Go
inductive Fld where
 |one (off g:Nat)
 |sub (off n:Nat) (l:List (Nat×Nat))
def aGV(P:Program)(f:Field):Option Fld:=
 match DV P f.type with
 |some g=>some (.one f.offset g)
 | none=>match sI P f.type,(P.info? f.type).map (·.size)with
   |some l,some n=>some (.sub f.offset n l)
   |_,_=>none
def IK(xs ys:List Value):List Fld->Option Bool
 |[]=>some true
 | .one off g::r=>match xs[off]?,ys[off]? with
   | some a,some b=>match IJ g a b,IK xs ys r with
     |some p,some q=>some (p&&q)
     |_,_=>none
   |_,_=>none
 | .sub off n l::r=>match sX ((xs.drop off).take n) ((ys.drop off).take n) l,IK xs ys r with
   |some p,some q=>some (p&&q)
   |_,_=>none
section
variable{P:Program}{Γ:List (Nat×List AVal)}{o:Oper}{ev:Operand->Option AVal}{get:Nat->Option Blk}{k:Nat}
theorem aDG{t d:Nat}{offs:List (Nat×Nat)}{xs ys:List Value}{p:Bool}(ht:sI P t=some offs)(he:sX xs ys offs=some p)(w:World):(Op.equalIn (d+2) t (.agg xs.toArray) (.agg ys.toArray)).run P w= .ok p w:=by
 unfold sI at ht;split at ht
 .rename_i fs hu;split at ht;.cases ht
  rename_i hc;simp only[bH,not_or,aHU]at hc;obtain⟨⟨h1,h2⟩,h3⟩:=hc;have hfs:P.fieldsOf t=fs:=by simp[Program.fieldsOf,hu]
  have hnm:∀f∈fs.toList,f.name≠ "_":=λ f hf he=>by have:=Array.any_eq_false'.1 h3 f (by simpa using hf);simp[he]at this
  have hrun:=EV (P:=P) (d:=d) xs ys fs.toList offs p hnm ht he w;have hstr:=run_equalIn_struct (P:=P) w (d+1) t xs.toArray ys.toArray (by rw[hfs];exact hu) h1;rw[hfs,hrun]at hstr;exact hstr
 cases ht
theorem aDH{t:Nat}{offs:List (Nat×Nat)}(ht:sI P t=some offs)(w:World):(isAgg t).run P w= .ok true w:=by
 unfold sI at ht;split at ht;.rename_i fs hu;unfold isAgg;rw[bO,run_underlying hu w];rfl
 cases ht
theorem aOB{t n:Nat}(h:(P.info? t).map (·.size)=some n)(w:World):(sizeOf t).run P w= .ok n w:=by simp only[aB]at h;obtain⟨i,h1,h2⟩:=h;simp[sizeOf,typeInfo,h1,h2]
theorem aDI{d:Nat}(xs ys:List Value):∀(fs:List Field) (offs:List Fld) (p:Bool),(∀f∈fs,f.name≠ "_")->(fs.mapM (aGV P))=some offs->IK xs ys offs=some p→
 ∀w,(Op.eqFields (d+2) xs.toArray ys.toArray fs).run P w= .ok p w:=by
 intro fs
 induction fs with
 |nil=>intro offs p _ hm he w;simp at hm;subst hm;simp[IK]at he;subst he;simp[Op.eqFields]
 |cons f fs ih=>
  intro offs p hn hm he w;rw[List.mapM_cons]at hm;simp only[Option.bind_eq_bind,bX]at hm;obtain⟨x,hx,offs',hm',hp⟩:=hm;cases hp;unfold aGV at hx;split at hx
  .rename_i g hg;cases hx;simp only[IK]at he;split at he
   .rename_i a b ha hb;split at he;.rename_i p1 q1 h1 h2;cases he;have r1:=DU hg (cs:=xs.toArray) (by rw[cH];exact ha) w;have r2:=DU hg (cs:=ys.toArray) (by rw[cH];exact hb) w;have r3:=HE (d:=d+1) hg h1 w;have r4:=ih offs' q1 (λ f hf=>hn f (fP _ hf)) hm' h2 w;simp only[Op.eqFields,if_pos (hn f sS),bO,r1,r2,r3,bI];cases p1<;>simp[r4]
    cases he
   cases he
  split at hx
  .rename_i l n hl hs;cases hx;simp only[IK]at he;split at he
   .rename_i p1 q1 h1 h2;cases he;have e:∀zs:List Value,zs.toArray.extract f.offset (f.offset+n)=((zs.drop f.offset).take n).toArray:=λ zs=>by simp
    have r0:∀zs:List Value,(part f.type zs.toArray f.offset).run P w= .ok (.agg ((zs.drop f.offset).take n).toArray) w:=λ zs=>by unfold part;rw[bO,aDH hl w,bI];simp only[if_true,bO,aOB hs,bI,e];rfl
    have r3:=aDG (d:=d) hl h1 w;have r4:=ih offs' q1 (λ f hf=>hn f (fP _ hf)) hm' h2 w;simp only[Op.eqFields,if_pos (hn f sS),bO,r0,r3,bI];cases p1<;>simp[r4]
   cases he
  cases hx
theorem YV{t ty:Nat}{x y:Operand}{xc yc:List AVal}{xs ys:List Value}{fs:Array Field}{offs:List Fld}{p neg:Bool}(ho:o.op= .binOp (if neg then .neq else .eql) t x y ty)(hu:P.underlying t=some (.struct fs))
 (h1:P.stoodInHeld t=false) (h2:P.eqGuardType P.depth t=false) (h3:fs.any (·.name== "_")=false) (hm:fs.toList.mapM (aGV P)=some offs)
 (hx:ev x=some (.agg xc)) (hy:ev y=some (.agg yc)) (hxs:mY xc=some xs) (hys:mY yc=some ys) (he:IK xs ys offs=some p):Good P Γ o ev get k ⟨.lit (.bool (if neg then !p else p)),k,[],[]⟩:=by
 refine .quiet (cE λ w G ρ H A a hr hrd hop=>⟨.bool (if neg then !p else p),?_,.lit⟩);have hmx:x∈o.op.operands:=by cases neg<;>simp[ho,Op.operands]
 have hmy:y∈o.op.operands:=by cases neg<;>simp[ho,Op.operands]
 have ex:a.eval x= .agg xs.toArray:=JC (hop x hmx _ hx) (by simp[PQ,hxs]);have ey:a.eval y= .agg ys.toArray:=JC (hop y hmy _ hy) (by simp[PQ,hys]);have hfs:P.fieldsOf t=fs:=by simp[Program.fieldsOf,hu]
 have hnm:∀f∈fs.toList,f.name≠ "_":=λ f hf he=>by have:=Array.any_eq_false'.1 h3 f (by simpa using hf);simp[he]at this
 have hrun:=aDI (P:=P) (d:=9997) xs ys fs.toList offs p hnm hm he w;have hstr:=run_equalIn_struct (P:=P) w 9999 t xs.toArray ys.toArray (by rw[hfs];exact hu) h1;rw[hfs,hrun]at hstr;have hg:=λ op=>run_eqGuard_agg (P:=P) w op t x y xs.toArray ys.toArray h2;cases neg;.simp only[execOp,ho,ex,ey,aO,if_false,bO,hg,bI,run_eql_struct,hstr,dP]
 simp only[execOp,ho,ex,ey,if_true,bO,hg,bI,run_neq_struct,hstr,dP]
end
end Go.AM
end
section
namespace Go.Proofs.T
open Go Go.AM Go.Proofs
variable{Γ:List (Nat×List AVal)}
attribute [local irreducible] gK del
def wK(n m:Nat)(c:Nat->Bool):Bool:=decide (n=m)&& !(jI (λ i=> !(c i)) n)
theorem yN{n m:Nat}{c:Nat->Bool}(h:¬n=m):wK n m c=false:=by unfold wK;rw[decide_eq_false h];rfl
theorem yO{n m:Nat}{c:Nat->Bool}{i:Nat}(hi:i<n)(h:c i=false):wK n m c=false:=by unfold wK;rw[tL (i:=i) (by rw[h];rfl) hi,a0V,qP]
theorem lR{n m:Nat}{c:Nat->Bool}(h:n=m)(hc:∀i,i<n->c i=true):wK n m c=true:=by unfold wK;rw[decide_eq_true h,rI (λ i hi=>by rw[hc i hi];rfl)];rfl
theorem aYK{n m:Nat}{c:Nat->Bool}:wK n m c=true↔n=m/\∀i,i<n->c i=true:=by
 constructor
 .intro h;by_cases h1:n=m
  .refine⟨h1,λ i hi=>?_⟩
   cases hc:c i with
   |true=>rfl
   |false=>rw[yO hi hc]at h;cases h
  rw[yN h1]at h;cases h
 rintro⟨h1,h2⟩;exact lR h1 h2
def cV(x y:Int×Int):Bool:=x.1==y.1&&x.2==y.2
def cT(x y:Tk):Bool:=x.id==y.id&&(x.group==y.group&&(x.weight==y.weight&&(x.cpu==y.cpu&&(x.mask==y.mask&&(x.ready==y.ready&&(x.v==y.v&&x.r==y.r))))))
def cP(x y:Int×Int×Sp):Bool:=x.1==y.1&&(x.2.1==y.2.1&&(x.2.2.v==y.2.2.v&&(x.2.2.r==y.2.2.r&&x.2.2.floor==y.2.2.floor)))
theorem cV_iff{x y:Int×Int}:cV x y=true↔x=y:=by obtain⟨a,b⟩:=x;obtain⟨c,d⟩:=y;simp[cV]
theorem cT_iff{x y:Tk}:cT x y=true↔x=y:=by cases x;cases y;simp[cT]
theorem cP_iff{x y:Int×Int×Sp}:cP x y=true↔x=y:=by obtain⟨a,b,⟨v,r,f⟩⟩:=x;obtain⟨a',b',⟨v',r',f'⟩⟩:=y;simp[cP]
theorem a3U(n m:Nat)(hn:n<=100000)(hm:m<=100000)(f g:Nat->Int):AM.Pure aA Γ 72 [.rd 1 n (λ i=>[(f i)]),.rd 1 m (λ i=>[(g i)])] (wK n m (λ i=>f i==g i)):=by
 refine aZ Tryz.func72 rfl 26 rfl bB rfl λ k=>?_;obtain⟨E,eE⟩:∃E,E=wK n m (λ i=>f i==g i):=⟨_,rfl⟩;rw[<-eE];have kp:=fI k [0,1,4,5,10,12,13,14,24];refine wl ?_;refine dD ⟨λ ht=>zN ?_⟩ ⟨λ ht=>zN ?_⟩;.refine aX rfl ⟨_,rfl,aI ?_⟩;rw[eE,yN oO]
 refine bE (X:=Nat) rfl [0,1,4,5,10,12,13,14,24] k (λ i=>[(13,i)]) (λ i=>[]) (λ i=>i<=n/\∀j,j<i->(f j==g j)=true) (λ i=>n-i) 0 ?_ ⟨aJ _,λ j hj=>absurd hj (bJ _)⟩ ?_;.refine rR ?_;apply zN;exact fW
 rintro i ⟨hi,hall⟩;refine rR ?_;apply zN;refine wl ?_;refine wM ⟨λ ht ht=>zN ?_⟩ ⟨λ ht ht=>zN ?_⟩ ⟨λ ht=>zN ?_⟩;.refine aX rfl ⟨_,rfl,aI ?_⟩;rw[eE,yO (i:=i) oO (by first|(rw[dS];simp at ht⊢;omega)|(simpa using ht))]
 .refine⟨i+1,⟨oO,λ j hj=>?_⟩,oO,?_⟩
  .by_cases he:j=i;.subst he;first|(simp;omega)|(simpa using ht)
   exact hall j oO
  exact fW
 refine aX rfl ⟨_,rfl,aI ?_⟩;rw[eE,lR oO (λ j hj=>hall j oO)]
section
attribute [local go_sem] jM tR pR
theorem aCB(n m:Nat)(hn:n<=100000)(hm:m<=100000)(f g:Nat->Int×Int):AM.Pure aA Γ 71 [.rd 2 n (λ i=>jM (f i)),.rd 2 m (λ i=>jM (g i))] (wK n m (λ i=>cV (f i) (g i))):=by
 refine aZ Tryz.func71 rfl 26 rfl bB rfl λ k=>?_;obtain⟨E,eE⟩:∃E,E=wK n m (λ i=>cV (f i) (g i)):=⟨_,rfl⟩;rw[<-eE];have kp:=fI k [0,1,4,5,10,12,13,14,24];refine wl ?_;refine dD ⟨λ ht=>zN ?_⟩ ⟨λ ht=>zN ?_⟩;.refine aX rfl ⟨_,rfl,aI ?_⟩;rw[eE,yN oO]
 refine bE (X:=Nat) rfl [0,1,4,5,10,12,13,14,24] k (λ i=>[(13,i)]) (λ i=>[]) (λ i=>i<=n/\∀j,j<i->(cV (f j) (g j))=true) (λ i=>n-i) 0 ?_ ⟨aJ _,λ j hj=>absurd hj (bJ _)⟩ ?_;.refine rR ?_;apply zN;exact fW
 rintro i ⟨hi,hall⟩;refine rR ?_;apply zN;refine wl ?_;refine wM ⟨λ ht ht=>zN ?_⟩ ⟨λ ht ht=>zN ?_⟩ ⟨λ ht=>zN ?_⟩;.refine aX rfl ⟨_,rfl,aI ?_⟩;rw[eE,yO (i:=i) oO (by first|(rw[dS];simp[cV]at ht⊢;omega)|(simpa [cV]using ht))]
 .refine⟨i+1,⟨oO,λ j hj=>?_⟩,oO,?_⟩
  .by_cases he:j=i;.subst he;first|(simp[cV];omega)|(simpa [cV]using ht)
   exact hall j oO
  exact fW
 refine aX rfl ⟨_,rfl,aI ?_⟩;rw[eE,lR oO (λ j hj=>hall j oO)]
theorem a3S(n m:Nat)(hn:n<=100000)(hm:m<=100000)(f g:Nat->Tk):AM.Pure aA Γ 73 [.rd 8 n (λ i=>tR (f i)),.rd 8 m (λ i=>tR (g i))] (wK n m (λ i=>cT (f i) (g i))):=by
 refine aZ Tryz.func73 rfl 26 rfl bB rfl λ k=>?_;obtain⟨E,eE⟩:∃E,E=wK n m (λ i=>cT (f i) (g i)):=⟨_,rfl⟩;rw[<-eE];have kp:=fI k [0,1,4,5,10,12,13,14,24];refine wl ?_;refine dD ⟨λ ht=>zN ?_⟩ ⟨λ ht=>zN ?_⟩;.refine aX rfl ⟨_,rfl,aI ?_⟩;rw[eE,yN oO]
 refine bE (X:=Nat) rfl [0,1,4,5,10,12,13,14,24] k (λ i=>[(13,i)]) (λ i=>[]) (λ i=>i<=n/\∀j,j<i->(cT (f j) (g j))=true) (λ i=>n-i) 0 ?_ ⟨aJ _,λ j hj=>absurd hj (bJ _)⟩ ?_;.refine rR ?_;apply zN;exact fW
 rintro i ⟨hi,hall⟩;refine rR ?_;apply zN;refine wl ?_;refine wM ⟨λ ht ht=>zN ?_⟩ ⟨λ ht ht=>zN ?_⟩ ⟨λ ht=>zN ?_⟩;.refine aX rfl ⟨_,rfl,aI ?_⟩;rw[eE,yO (i:=i) oO (by first|(rw[dS];simp[cT]at ht⊢;omega)|(simpa [cT]using ht))]
 .refine⟨i+1,⟨oO,λ j hj=>?_⟩,oO,?_⟩
  .by_cases he:j=i;.subst he;first|(simp[cT];omega)|(simpa [cT]using ht)
   exact hall j oO
  exact fW
 refine aX rfl ⟨_,rfl,aI ?_⟩;rw[eE,lR oO (λ j hj=>hall j oO)]
def eP(x y:Int×Int×Sp):Bool:=x.1==y.1&&(x.2.1==y.2.1&&((x.2.2.v==y.2.2.v&&(x.2.2.r==y.2.2.r&&(x.2.2.floor==y.2.2.floor&&true)))&&true))
theorem a9M(x y:Int×Int×Sp):eP x y=cP x y:=by simp[eP,cP]
theorem WZ{o:Oper}{ev:Operand->Option AVal}{get:Nat->Option Blk}{k ty:Nat}{x y:Operand}{u v:Int×Int×Sp}(ho:o.op= .binOp .neq 93 x y ty)(hx:ev x=some (.agg (pR u)))(hy:ev y=some (.agg (pR v))):
 AM.Good aA Γ o ev get k ⟨.lit (.bool (!(cP u v))),k,[],[]⟩:=by rw[<-a9M];exact YV (neg:=true) (offs:=[.one 0 0,.one 1 0,.sub 2 3 [(0,0),(1,0),(2,0)]]) ho Tryz.underlying93 (by kernel_rfl) (by kernel_rfl) (by kernel_rfl) (by kernel_rfl) hx hy rfl rfl rfl
theorem a3T(n m:Nat)(hn:n<=100000)(hm:m<=100000)(f g:Nat->Int×Int×Sp):AM.Pure aA Γ 74 [.rd 5 n (λ i=>pR (f i)),.rd 5 m (λ i=>pR (g i))] (wK n m (λ i=>cP (f i) (g i))):=by
 refine aZ Tryz.func74 rfl 26 rfl bB rfl λ k=>?_;obtain⟨E,eE⟩:∃E,E=wK n m (λ i=>cP (f i) (g i)):=⟨_,rfl⟩;rw[<-eE];have kp:=fI k [0,1,4,5,10,12,13,14,24];refine wl ?_;refine dD ⟨λ ht=>zN ?_⟩ ⟨λ ht=>zN ?_⟩;.refine aX rfl ⟨_,rfl,aI ?_⟩;rw[eE,yN oO]
 refine bE (X:=Nat) rfl [0,1,4,5,10,12,13,14,24] k (λ i=>[(13,i)]) (λ i=>[]) (λ i=>i<=n/\∀j,j<i->(cP (f j) (g j))=true) (λ i=>n-i) 0 ?_ ⟨aJ _,λ j hj=>absurd hj (bJ _)⟩ ?_;.refine rR ?_;apply zN;exact fW
 rintro i ⟨hi,hall⟩;refine rR ?_;apply zN;obtain⟨z,ez⟩:∃z,z=cP (f i) (g i):=⟨_,rfl⟩;refine bY rfl ?_;(refine gL rfl [0,1,4,5,10,12,13,14,24] rfl rfl (λ K hK=>?_));refine sT ?_;(refine hK _ _ _ _ (λ hx=>?_));clear hx hK;refine sT ?_;clear K;refine bY rfl ?_;refine gA rfl _ rfl (λ ht=>?_) (λ ht=>?_)
 .simp only[nf]at ht;refine fD rfl ?_;refine rR ?_;apply zN;refine bY rfl ?_;refine eZ rfl ?_;refine bY rfl ?_;(refine gL rfl [0,1,4,5,10,12,13,14,24] rfl rfl (λ K hK=>?_));refine sT ?_;(refine hK _ _ _ _ (λ hx=>?_));clear hx hK;refine sT ?_;clear K;refine bY rfl ?_;refine dl [.raw (some 24) ⟨.lit (.bool (!z)),k,[],[]⟩] ?_;refine dD (zs ?_) (zs ?_);.rw[ez];exact WZ rfl rfl rfl
  refine wl ?_;refine dD ⟨λ ht=>zN ?_⟩ ⟨λ ht=>zN ?_⟩;.refine aX rfl ⟨_,rfl,aI ?_⟩;rw[eE,yO (i:=i) oO (by rw[<-ez];simp_all)]
  refine⟨i+1,⟨oO,λ j hj=>?_⟩,oO,?_⟩
  .by_cases he:j=i;.subst he;rw[<-ez];simp_all
   exact hall j oO
  exact fW
 simp only[nf]at ht;refine jU rfl ?_;refine rR ?_;apply zN;refine wl ?_;refine aU (zs ?_);refine aX rfl ⟨_,rfl,aI ?_⟩;rw[eE,lR oO (λ j hj=>hall j oO)]
end
structure DE where
 (n0 n1 n2 n3 n4 n5:Nat)
 (ck cu wg:Nat->Int×Int)
 (gn:Nat->Int)
 (tk:Nat->Tk)
 (sp:Nat->Int×Int×Sp)
def DE.f0 (d:DE)(i:Nat):List AVal:=[.lit (.int .i64 (d.ck i).1),.lit (.int .i64 (d.ck i).2)]
def DE.f1 (d:DE)(i:Nat):List AVal:=[.lit (.int .i64 (d.cu i).1),.lit (.int .i64 (d.cu i).2)]
def DE.f2 (d:DE)(i:Nat):List AVal:=[.lit (.int .i64 (d.wg i).1),.lit (.int .i64 (d.wg i).2)]
def DE.f3 (d:DE)(i:Nat):List AVal:=[.lit (.int .i64 (d.gn i))]
def DE.f4 (d:DE)(i:Nat):List AVal:=[.lit (.int .i64 (d.tk i).id),.lit (.int .i64 (d.tk i).group),.lit (.int .i64 (d.tk i).weight),.lit (.int .i64 (d.tk i).cpu),.lit (.int .u64 (d.tk i).mask),.lit (.bool (d.tk i).ready),.lit (.int .u64 (d.tk i).v),.lit (.int .u32 (d.tk i).r)]
def DE.f5 (d:DE)(i:Nat):List AVal:=[.lit (.int .i64 (d.sp i).1),.lit (.int .i64 (d.sp i).2.1),.lit (.int .u64 (d.sp i).2.2.v),.lit (.int .u32 (d.sp i).2.2.r),.lit (.int .u64 (d.sp i).2.2.floor)]
attribute [go_sem] DE.f0 DE.f1 DE.f2 DE.f3 DE.f4 DE.f5
def DE.cells (d:DE):List AVal:=[.rd 2 d.n0 d.f0,.rd 2 d.n1 d.f1,.rd 2 d.n2 d.f2,.rd 1 d.n3 d.f3,.rd 8 d.n4 d.f4,.rd 5 d.n5 d.f5]
def DE.size (d:DE):Nat:=d.n0+d.n1+d.n2+d.n3+d.n4+d.n5
attribute [go_sem] DE.cells
def eqD(d e:DE):Bool:=wK d.n0 e.n0 (λ i=>cV (d.ck i) (e.ck i))&&(wK d.n1 e.n1 (λ i=>cV (d.cu i) (e.cu i))&&(wK d.n2 e.n2 (λ i=>cV (d.wg i) (e.wg i))&&(wK d.n3 e.n3 (λ i=>d.gn i==e.gn i)&&(wK d.n4 e.n4 (λ i=>cT (d.tk i) (e.tk i))&&wK d.n5 e.n5 (λ i=>cP (d.sp i) (e.sp i))))))
theorem UC(d e:DE)(hd:d.size<=100000)(he:e.size<=100000):AM.Pure aA Γ 23 [.agg d.cells,.agg e.cells] (eqD d e):=by
 unfold DE.size at hd he;refine aZ Tryz.func23 rfl 45 rfl bB rfl λ k=>?_;obtain⟨E,eE⟩:∃E,E=eqD d e:=⟨_,rfl⟩;rw[<-eE];obtain⟨z0,h0⟩:∃z,z=wK d.n0 e.n0 (λ i=>cV (d.ck i) (e.ck i)):=⟨_,rfl⟩;obtain⟨z1,h1⟩:∃z,z=wK d.n1 e.n1 (λ i=>cV (d.cu i) (e.cu i)):=⟨_,rfl⟩;obtain⟨z2,h2⟩:∃z,z=wK d.n2 e.n2 (λ i=>cV (d.wg i) (e.wg i)):=⟨_,rfl⟩;obtain⟨z3,h3⟩:∃z,z=wK d.n3 e.n3 (λ i=>d.gn i==e.gn i):=⟨_,rfl⟩;obtain⟨z4,h4⟩:∃z,z=wK d.n4 e.n4 (λ i=>cT (d.tk i) (e.tk i)):=⟨_,rfl⟩;obtain⟨z5,h5⟩:∃z,z=wK d.n5 e.n5 (λ i=>cP (d.sp i) (e.sp i)):=⟨_,rfl⟩;rw[eqD,<-h0,<-h1,<-h2,<-h3,<-h4,<-h5]at eE;have kp:=fI k [0,1,2,3,4];refine wl ?_;refine aU (zs ?_);refine cl [.ret z0,.ret z1,.ret z2,.ret z3,.ret z4,.ret z5] ?_;refine a6E (zs ?_) ⟨⟨λ hg=>⟨?_⟩⟩⟩ ⟨⟨λ hg hg=>⟨?_⟩⟩⟩ ⟨⟨λ hg hg hg=>⟨?_⟩⟩⟩ ⟨⟨λ hg hg hg hg=>⟨?_⟩⟩⟩ ⟨⟨λ hg hg hg hg hg=>⟨?_⟩⟩⟩ ⟨⟨λ hg hg hg hg hg=>⟨?_⟩⟩⟩ ⟨⟨λ hg hg hg hg hg=>⟨?_⟩⟩⟩ ⟨⟨λ hg hg hg hg=>⟨?_⟩⟩⟩ ⟨⟨λ hg hg hg=>⟨?_⟩⟩⟩ ⟨⟨λ hg hg=>⟨?_⟩⟩⟩ ⟨⟨λ hg=>⟨?_⟩⟩⟩;all_goals(first|(rw[h0];exact aCB d.n0 e.n0 oO oO d.ck e.ck)|(rw[h1];exact aCB d.n1 e.n1 oO oO d.cu e.cu)|(rw[h2];exact aCB d.n2 e.n2 oO oO d.wg e.wg)|(rw[h3];exact a3U d.n3 e.n3 oO oO d.gn e.gn)|(rw[h4];exact a3S d.n4 e.n4 oO oO d.tk e.tk)|(rw[h5];exact a3T d.n5 e.n5 oO oO d.sp e.sp)|skip)
 all_goals(refine aX rfl ⟨_,rfl,aI ?_⟩;rw[eE];simp_all)
theorem aXV(n:Nat)(hn:n<=100000)(g:Nat->Int)(x:Int):AM.Pure aA Γ 126 [.rd 1 n (λ i=>[(g i)]),x] (xF (λ i=>decide (x=g i)) n):=by
 obtain⟨z,ez⟩:∃z,z=xF (λ i=>decide (x=g i)) n:=⟨_,rfl⟩;rw[<-ez];refine aZ Tryz.func126 rfl 19 rfl bB rfl λ k=>?_;have kp:=fI k [0,1,4,5,7,8,9,16];refine bS ?_;refine aU (zs ?_);refine bE (X:=Nat) rfl [0,1,4,5,7,8,9,16] k (λ i=>[(8,i)]) (λ i=>[]) (λ i=>i<=n/\∀j,j<i->¬x=g j) (λ i=>n-i) 0 ?_ ⟨aJ _,λ j hj=>absurd hj (bJ _)⟩ ?_;.refine cQ ?_;apply zN;exact fH
 rintro i ⟨hi,hall⟩;have hall':∀j,j<i->decide (x=g j)=false:=λ j hj=>decide_eq_false (hall j hj);refine cQ ?_;apply zN;by_cases hlt:i<n
 .by_cases he:x=g i
  .obtain⟨y,ey⟩:∃y,y=g i:=⟨_,rfl⟩;have ey':=ey.symm;have hxy:x=y:=he.trans ey';have hz:z=(i:Int):=by rw[ez,xF,vU hall' (decide_eq_true he) hlt]
   have uU:=AW @hlt @ey' @hxy;refine bS ?_;refine aU ⟨λ ht ht=>zN ?_⟩;refine aX rfl ⟨_,rfl,aI ?_⟩;rw[hz]
  have he':¬x=g i:=he;have uU:=zA @hlt @he';refine bS ?_;refine aU ⟨λ ht ht=>zN ?_⟩;refine⟨i+1,⟨oO,λ j hj=>?_⟩,oO,?_⟩
  .by_cases hj2:j=i;.subst hj2;exact he
   exact hall j oO
  rw[(oO:((i+1:Nat):Int)=(i:Int)+1)];exact fH
 have hin:i=n:=oO;subst hin;have hz:z= -1:=by rw[ez,xF,sU hall']
 refine bS ?_;refine aU ⟨λ ht=>zN ?_⟩;refine aX rfl ⟨_,rfl,aI ?_⟩;rw[hz]
theorem aDR(n:Nat)(hn:n<=100000)(g:Nat->Int)(x:Int):AM.Pure aA Γ 65 [.rd 1 n (λ i=>[(g i)]),x] (jI (λ i=>decide (x=g i)) n):=by
 have h:=aXV (Γ:=Γ) n hn g x;rw[<-JQ];obtain⟨z,ez⟩:∃z,z=xF (λ i=>decide (x=g i)) n:=⟨_,rfl⟩;rw[<-ez]at h⊢
 refine aZ Tryz.func65 rfl 9 rfl bB rfl λ k=>?_;have kp:=fI k [0,1,4];refine bS ?_;refine aU (zs ?_);refine lU [.ret z] ?_;refine aU (zs ?_);all_goals(try exact h)
 refine bS ?_;refine aU (zs ?_);refine aX rfl ⟨_,rfl,aI ?_⟩;rfl
theorem aOK(x t:Tk):AM.Pure aA Γ 67 [.agg (tR x),.rp (tR t)] (decide (x.id=t.id)):=by unfold tR;refine aZ Tryz.func67 rfl 9 rfl bB rfl λ k=>?_;have kp:=fI k [0,1,2,3];refine bS ?_;refine aU (zs ?_);refine aX rfl ⟨_,rfl,aI ?_⟩;rfl
theorem aRF(n:Nat)(hn:n<=100000)(g:Nat->Tk)(t:Tk):AM.Pure aA Γ 125 [.rd 8 n (λ i=>tR (g i)),.fn 67 [.rp (tR t)]] (xF (λ i=>decide ((g i).id=t.id)) n):=by
 obtain⟨z,ez⟩:∃z,z=xF (λ i=>decide ((g i).id=t.id)) n:=⟨_,rfl⟩;rw[<-ez];simp only[tR];refine aZ Tryz.func125 rfl 19 rfl bB rfl λ k=>?_;have kp:=fI k [0,1,4,5,7,8,9,16];refine bS ?_;refine aU (zs ?_);refine bE (X:=Nat) rfl [0,1,4,5,7,8,9,16] k (λ i=>[(8,i)]) (λ i=>[]) (λ i=>i<=n/\∀j,j<i->¬(g j).id=t.id) (λ i=>n-i) 0 ?_ ⟨aJ _,λ j hj=>absurd hj (bJ _)⟩ ?_;.refine cQ ?_;apply zN;exact fH
 rintro i ⟨hi,hall⟩;have hall':∀j,j<i->decide ((g j).id=t.id)=false:=λ j hj=>decide_eq_false (hall j hj);refine cQ ?_;apply zN;by_cases hlt:i<n
 .have hc:=aOK (Γ:=Γ) (g i) t;obtain⟨y,ey⟩:∃y,y=decide ((g i).id=t.id):=⟨_,rfl⟩;rw[<-ey]at hc;simp only[tR]at hc;have uU:= @hlt;refine bS ?_;refine aU ⟨λ ht=>zN ?_⟩;refine lU [.ret y] ?_;refine aU (zs ?_)
  cases y with
  |true=>
   have hz:z=(i:Int):=by rw[ez,xF,vU hall' ey.symm hlt]
   refine bS ?_;refine aU ⟨λ ht=>zN ?_⟩;refine aX rfl ⟨_,rfl,aI ?_⟩;rw[hz]
  |false=>
   refine bS ?_;refine aU ⟨λ ht=>zN ?_⟩;refine⟨i+1,⟨oO,λ j hj=>?_⟩,oO,?_⟩
   .by_cases hj2:j=i;.subst hj2;exact of_decide_eq_false ey.symm
    exact hall j oO
   rw[(oO:((i+1:Nat):Int)=(i:Int)+1)];exact fH
 have hin:i=n:=oO;subst hin;have hz:z= -1:=by rw[ez,xF,sU hall']
 refine bS ?_;refine aU ⟨λ ht=>zN ?_⟩;refine aX rfl ⟨_,rfl,aI ?_⟩;rw[hz]
theorem ZG(n:Nat)(hn:n<=100000)(g:Nat->Tk)(t:Tk):AM.Pure aA Γ 66 [.rd 8 n (λ i=>tR (g i)),.fn 67 [.rp (tR t)]] (jI (λ i=>decide ((g i).id=t.id)) n):=by
 have h:=aRF (Γ:=Γ) n hn g t;rw[<-JQ];obtain⟨z,ez⟩:∃z,z=xF (λ i=>decide ((g i).id=t.id)) n:=⟨_,rfl⟩;rw[<-ez]at h⊢
 refine aZ Tryz.func66 rfl 9 rfl bB rfl λ k=>?_;have kp:=fI k [0,1,4];refine bS ?_;refine aU (zs ?_);refine lU [.ret z] ?_;refine aU (zs ?_);all_goals(try exact h)
 refine bS ?_;refine aU (zs ?_);refine aX rfl ⟨_,rfl,aI ?_⟩;rfl
def sJ(d:DE)(t:Tk):Bool:=jI (λ i=>decide (t.id=d.gn i)) d.n3||jI (λ i=>decide ((d.tk i).id=t.id)) d.n4
theorem a1T(d:DE)(hd:d.size<=100000)(t:Tk):AM.Pure aA Γ 64 [.agg (tR t),.rp d.cells] (sJ d t):=by
 unfold DE.size at hd;have h1:AM.Pure aA Γ 65 [.rd 1 d.n3 d.f3,t.id] (jI (λ i=>decide (t.id=d.gn i)) d.n3):=aDR d.n3 oO d.gn t.id;have h2:AM.Pure aA Γ 66 [.rd 8 d.n4 d.f4,.fn 67 [.rp (tR t)]] (jI (λ i=>decide ((d.tk i).id=t.id)) d.n4):=ZG d.n4 oO d.tk t;obtain⟨x,ex⟩:∃x,x=jI (λ i=>decide (t.id=d.gn i)) d.n3:=⟨_,rfl⟩;obtain⟨y,ey⟩:∃y,y=jI (λ i=>decide ((d.tk i).id=t.id)) d.n4:=⟨_,rfl⟩;rw[sJ,<-ex,<-ey];rw[<-ex]at h1;rw[<-ey]at h2;simp only[tR]at h2⊢
 refine aZ Tryz.func64 rfl 15 rfl bB rfl λ k=>?_;refine bY rfl ?_;(refine gL rfl [0,1,2,3] rfl rfl (λ K hK=>?_));simp-dsimp-implicitDefEqProofs (disch:=omega)only[go_sem,iN,eq_self,↓reduceIte];(refine hK _ _ _ _ (λ hx=>?_));clear hx hK;simp-dsimp-implicitDefEqProofs (disch:=omega)only[go_sem,iN,eq_self,↓reduceIte];clear K;refine dI (dJ (k) (by simp-dsimp-implicitDefEqProofs (disch:=omega)only[go_sem,iN,eq_self,↓reduceIte];rfl) rfl) ?_;simp-dsimp-implicitDefEqProofs only[kX,fE,go_sem,eq_self,↓reduceIte]
 cases x with
 |true=>have kp:=fI k [0,1,2,3];refine bS ?_;refine aU (zs ?_);refine lU [.ret true] ?_;refine aU (zs ?_);refine aX rfl ⟨_,rfl,aI ?_⟩;rfl
 |false=>have kp:=fI k [0,1,2,3];refine bS ?_;refine aU (zs ?_);refine lU [.ret false,.ret y] ?_;refine aU (zs ?_);refine aX rfl ⟨_,rfl,aI ?_⟩;rfl
theorem rO{L:List Tk}{i:Nat}(h:i<L.length):(L.map tR)[i]? =some (tR (L.getD i fB)):=by simp[h,List.getD]
theorem DW{L:List Tk}{i j:Nat}:((L.map tR).set i (tR (L.getD j fB))).set j (tR (L.getD i fB))=(VT fB L i j).map tR:=by simp[VT,mI]
theorem JF{R:List (List AVal)}{p q:Nat}{row:List AVal}(h:R[q]? =some row):(R.set p row)[q]? =some row:=by
 rw[fY];split;.rename_i e;subst e;rw[if_pos (aG.1 h).1]
 exact h
theorem aHG(x y:Tk):AM.Pure aA Γ 69 [.agg (tR x),.agg (tR y)] (aN.wrap (x.id-y.id):Int):=by unfold tR;refine aZ Tryz.func69 rfl 10 rfl bB rfl λ k=>?_;have kp:=fI k [0,1,2,3,4];refine bS ?_;refine aU (zs ?_);refine aX rfl ⟨_,rfl,aI ?_⟩;rfl
theorem SL(l:List Tk)(a b n:Nat)(h1:a+n<=l.length)(h2:b+n<=l.length)(hl:l.length<=100000)(cmp:AVal)(k id:Nat)(hid:id<k):
 AM.Tr aA Γ 285 k [.sl id 0 l.length,a,b,n,cmp] [(id,⟨8,true,l.map tR⟩)]
  (λ k1 r1 H1=>k1=k/\r1= .tup []/\H1=[(id,⟨8,true,(WH fB l a b n).map tR⟩)]):=by
 have i0:¬id=k:=oO;have i4:∀q,id<k+q:=λ q=>oO;have i1:∀q,¬id=k+q:=λ q=>oO;have i2:¬k=id:=oO;have i3:∀q,¬k+q=id:=λ q=>oO;obtain⟨N,eN⟩:∃N,N=l.length:=⟨_,rfl⟩;rw[<-eN];refine iD Tryz.func285 rfl 38 rfl bB ?_;have kp:=fI k [0,1,2,3,10,13];have uU:=qQ @hid @i0 @i1 @i2 @i3 @i4;refine bS ?_;refine aU (zs ?_);refine bE (X:=Nat) rfl [0,1,2,3,10,13] k (λ i=>[(10,i)]) (λ i=>[(id,⟨8,true,(WH fB l a b i).map tR⟩)]) (λ i=>i<=n) (λ i=>n-i) 0 ?_ (aJ _) ?_;.rw[show WH fB l a b 0=l from rfl];refine cQ ?_;apply zN;exact fH
 intro i hi;obtain⟨L,eL⟩:∃L,L=WH fB l a b i:=⟨_,rfl⟩;have hL:L.length=N:=by rw[eL,pB,eN]
 have hnx:WH fB l a b (i+1)=VT fB L (a+i) (b+i):=by rw[WH,eL]
 rw[<-eL];by_cases hlt:i<n
 .have g1:=rO (L:=L) (i:=a+i) oO;have g2:=rO (L:=L) (i:=b+i) oO;have hsw:=DW (L:=L) (i:=a+i) (j:=b+i);have hRl:(L.map tR).length=N:=by rw[bP,hL]
  obtain⟨R,eR⟩:∃R,R=L.map tR:=⟨_,rfl⟩;obtain⟨x,ex⟩:∃x,x=L.getD (a+i) fB:=⟨_,rfl⟩;obtain⟨y,ey⟩:∃y,y=L.getD (b+i) fB:=⟨_,rfl⟩;rw[<-eR,<-ex]at g1;rw[<-eR,<-ey]at g2;rw[<-eR,<-ex,<-ey]at hsw;rw[<-eR]at hRl⊢
  simp only[tR]at g1 g2 hsw;have w1:aN.wrap ((a:Int)+(i:Int))=((a+i:Nat):Int):=by rw[dA oO oO];omega
  have w2:aN.wrap ((b:Int)+(i:Int))=((b+i:Nat):Int):=by rw[dA oO oO];omega
  have g3:=JF (p:=a+i) g2;have b1:a+i<N:=oO;have b2:b+i<N:=oO;have uU:=eQ @hid @i0 @i1 @i2 @i3 @i4 @g1 @g2 (qQ @g3 @w1 @w2 @b1 @b2 @hRl);refine cQ ?_;apply zN;have kp:Kp [0,1,2,3,10,13] (λ i=>if k<=i then i-k+1 else 0):=vD;refine bS ?_;refine aU ⟨λ ht=>zN ?_⟩;refine⟨i+1,oO,oO,?_⟩;rw[hnx,<-hsw,(oO:((i+1:Nat):Int)=(i:Int)+1)];exact fH
 have hin:i=n:=oO;subst hin;refine cQ ?_;apply zN;have kp:Kp [0,1,2,3,10,13] (λ i=>if k<=i then i-k+1 else 0):=vD;refine bS ?_;refine aU ⟨λ ht=>zN ?_⟩;refine⟨_,rfl,rfl,?_⟩;rw[eL]
theorem aRE(l:List Tk)(hl:l.length<=100000)(d:DE)(hd:d.size<=100000)(k id:Nat)(hid:id<k):
 AM.Tr aA Γ 125 k [.sl id 0 l.length,.fn 64 [.rp d.cells]] [(id,⟨8,true,l.map tR⟩)]
  (λ k1 r1 H1=>k1=k/\r1= .lit (.int .i64 (xF (λ i=>sJ d (l.getD i fB)) l.length))/\H1=[(id,⟨8,true,l.map tR⟩)]):=by
 have i0:¬id=k:=oO;have i4:∀q,id<k+q:=λ q=>oO;have i1:∀q,¬id=k+q:=λ q=>oO;have i2:¬k=id:=oO;have i3:∀q,¬k+q=id:=λ q=>oO;obtain⟨N,eN⟩:∃N,N=l.length:=⟨_,rfl⟩;rw[<-eN];obtain⟨z,ez⟩:∃z,z=xF (λ i=>sJ d (l.getD i fB)) N:=⟨_,rfl⟩;rw[<-ez];obtain⟨R,eR⟩:∃R,R=l.map tR:=⟨_,rfl⟩;have hRl:R.length=N:=by rw[eR,bP,eN]
 rw[<-eR];obtain⟨dc,edc⟩:∃c,c=d.cells:=⟨_,rfl⟩;rw[<-edc];refine iD Tryz.func125 rfl 19 rfl bB ?_;have kp:Kp [0,1,4,5,7,8,9,16] (λ i=>if k<=i then i-k+1 else 0):=vD;have uU:=qQ @hid @i0 @i1 @i2 @i3 @i4;refine bS ?_;refine aU (zs ?_);refine bE (X:=Nat) rfl [0,1,4,5,7,8,9,16] k (λ i=>[(8,i)]) (λ i=>[(id,⟨8,true,R⟩)]) (λ i=>i<=N/\∀j,j<i->sJ d (l.getD j fB)=false) (λ i=>N-i) 0 ?_ ⟨aJ _,λ j hj=>absurd hj (bJ _)⟩ ?_;.refine cQ ?_;apply zN;exact fH
 rintro i ⟨hi,hall⟩;by_cases hlt:i<N
 .obtain⟨t,et⟩:∃t,t=l.getD i fB:=⟨_,rfl⟩;have hc:=a1T (Γ:=Γ) d hd t;obtain⟨y,ey⟩:∃y,y=sJ d t:=⟨_,rfl⟩;rw[<-ey,<-edc]at hc;have g1:=rO (L:=l) (i:=i) oO;rw[<-eR,<-et]at g1;simp only[tR]at hc g1;have uU:=eQ @hid @i0 @i1 @i2 @i3 @i4 @hlt @g1 @hRl;refine cQ ?_;apply zN;refine bS ?_;refine aU ⟨λ ht=>zN ?_⟩;refine lU [.ret y] ?_;refine aU (zs ?_)
  cases y with
  |true=>
   have hz:z=(i:Int):=by rw[ez,xF,vU hall (by rw[<-et];exact ey.symm) hlt]
   refine bS ?_;refine aU ⟨λ ht=>zN ?_⟩;have uU:=eQ @hid @i0 @i1 @i2 @i3 @i4 @hlt @g1 @hRl;refine IZ (zN ?_);rw[hz]
  |false=>
   refine bS ?_;refine aU ⟨λ ht=>zN ?_⟩;refine⟨i+1,⟨oO,λ j hj=>?_⟩,oO,?_⟩
   .by_cases hj2:j=i;.subst hj2;rw[<-et];exact ey.symm
    exact hall j oO
   rw[(oO:((i+1:Nat):Int)=(i:Int)+1)];exact fH
 have hin:i=N:=oO;have hz:z= -1:=by rw[ez,xF,sU (by rw[<-hin];exact hall)]
 have hlt':¬(i:Int)<(N:Int):=oO;have uU:=yA @hid @i0 @i1 @i2 @i3 @i4 @hlt';refine cQ ?_;apply zN;refine bS ?_;refine aU ⟨λ ht=>zN ?_⟩;have uU:=yA @hid @i0 @i1 @i2 @i3 @i4 @hlt';refine IZ (zN ?_);rw[hz]
theorem XW{f:Nat->Bool}:∀ {N:Nat},¬(∀i,i<N->f i=false)->∃i,i<N/\f i=true/\∀j,j<i->f j=false
 |0,h=>absurd (λ i hi=>absurd hi (bJ _)) h
 |N+1,h=>by
  by_cases h1:∀i,i<N->f i=false
  .refine⟨N,dC _,?_,h1⟩
   cases h2:f N with
   |true=>rfl
   |false=>
    exact absurd (λ i hi=>by by_cases e:i=N;· subst e;exact h2
                             · exact h1 i oO) h
  obtain⟨i,h2,h3,h4⟩:=XW h1;exact⟨i,oO,h3,h4⟩
def TL(d:DE)(l:List Tk)(j:Nat):List Tk:=(l.take j).filter λ t=> !sJ d t
theorem aXQ{d:DE}{l:List Tk}{j:Nat}(hj:j<l.length)(h:sJ d (l.getD j fB)=false):TL d l (j+1)=TL d l j++[l.getD j fB]:=by unfold TL;rw[tD (z:=fB) hj,KA,show List.filter (λ t=> !sJ d t) [l.getD j fB]=[l.getD j fB]by rw[bKI,h];rfl]
theorem aQQ{d:DE}{l:List Tk}{j:Nat}(hj:j<l.length)(h:sJ d (l.getD j fB)=true):TL d l (j+1)=TL d l j:=by unfold TL;rw[tD (z:=fB) hj,KA,show List.filter (λ t=> !sJ d t) [l.getD j fB]=[]by rw[bKI,h];rfl,aR]
theorem aGK{d:DE}{l:List Tk}{j:Nat}(hj:j<=l.length)(h:∀i,i<j->sJ d (l.getD i fB)=false):TL d l j=l.take j:=by unfold TL;refine vK.2 λ t ht=>?_;obtain⟨i,hi,e⟩:=sM.1 ht;rw[bKG]at hi;have:=h i oO;rw[nV oO]at this;rw[List.getElem_take]at e;rw[<-e,this];rfl
theorem aNC{L:List Tk}{m:Nat}{t:Tk}(h:m<L.length):(L.set m t).take (m+1)=L.take m++[t]:=by rw[tD (z:=fB) (by rw[PI];exact h),List.take_set_of_le (aF _),BN,if_pos ⟨rfl,h⟩]
theorem aBW{L:List Tk}{m:Nat}{t:Tk}:(L.map tR).set m (tR t)=(L.set m t).map tR:=by rw[mI]
theorem aLC(l:List Tk)(hl:l.length<=100000)(d:DE)(hd:d.size<=100000)(k id:Nat)(hid:id<k):
 AM.Tr aA Γ 63 k [.sl id 0 l.length,.fn 64 [.rp d.cells]] [(id,⟨8,true,l.map tR⟩)]
  (λ k1 r1 H1=>k1=k/\r1= .sl id 0 (l.filter λ t=> !sJ d t).length/\H1=[(id,⟨8,true,(l.filter λ t=> !sJ d t).map tR⟩)]):=by
 have i0:¬id=k:=oO;have i4:∀q,id<k+q:=λ q=>oO;have i1:∀q,¬id=k+q:=λ q=>oO;have i2:¬k=id:=oO;have i3:∀q,¬k+q=id:=λ q=>oO;have hT:=aRE (Γ:=Γ) l hl d hd k id hid;obtain⟨N,eN⟩:∃N,N=l.length:=⟨_,rfl⟩;have hkl:(l.filter λ t=> !sJ d t)=TL d l N:=by rw[TL,eN,aHS]
 rw[hkl];rw[<-eN]at hT⊢
 obtain⟨z,ez⟩:∃z,z=xF (λ i=>sJ d (l.getD i fB)) N:=⟨_,rfl⟩;rw[<-ez]at hT;obtain⟨dc,edc⟩:∃c,c=d.cells:=⟨_,rfl⟩;have hdel:∀t,AM.Pure aA Γ 64 [.agg (tR t),.rp dc] (sJ d t):=λ t=>by rw[edc];exact a1T d hd t
 rw[<-edc]at hT⊢
 obtain⟨KN,eKN⟩:∃K,K=TL d l N:=⟨_,rfl⟩;rw[<-eKN];refine iD Tryz.func63 rfl 42 rfl bB ?_;have kp:Kp [0,1,4,5,6,7,12,19,29] (λ i=>if k<=i then i-k+1 else 0):=vD;have uU:=qQ @hid @i0 @i1 @i2 @i3 @i4;refine bS ?_;refine aU (zs ?_);refine lU [.gen (.lit (.int .i64 z)) k [(id,⟨8,true,l.map tR⟩)] [(id,⟨8,true,l.map tR⟩)]] ?_;refine aU (zs ?_);by_cases hno:∀i,i<N->sJ d (l.getD i fB)=false
 .have hz:z= -1:=by rw[ez,xF,sU hno]
  have hK:KN=l:=by rw[eKN,aGK oO hno,eN,aHS]
  rw[hz];refine bS ?_;refine aU ⟨λ ht=>zN ?_⟩;have uU:=qQ @hid @i0 @i1 @i2 @i3 @i4;refine IZ (zN ?_);rw[hK,eN];exact⟨rfl,rfl⟩
 obtain⟨i,hi,hfi,hlo⟩:∃i,i<N/\sJ d (l.getD i fB)=true/\∀j,j<i->sJ d (l.getD j fB)=false:=by exact XW hno
 have hz:z=(i:Int):=by rw[ez,xF,vU hlo hfi hi]
 have hzi:¬(i:Int)= -1:=oO;have wi:aN.wrap ((i:Int)+1)=(i:Int)+1:=wrap_i64 oO oO;rw[hz];have uU:=qW @hid @i0 @i1 @i2 @i3 @i4 @hzi @wi;refine bS ?_;refine aU ⟨λ ht=>zN ?_⟩;have hki:TL d l (i+1)=l.take i:=by rw[aQQ oO hfi,aGK oO hlo]
 have hkil:(TL d l (i+1)).length=i:=by rw[hki,bKG];omega
 refine bE (X:=Nat×List Tk) rfl [0,1,4,5,6,7,12,19,29] k (λ x=>[(5,((TL d l x.1).length:Int)),(6,x.1)]) (λ x=>[(id,⟨8,true,x.2.map tR⟩)]) (λ x=>x.1<=N/\x.2.length=N/\x.2.take (TL d l x.1).length=TL d l x.1/\(∀q,x.1<=q->x.2.getD q fB=l.getD q fB)/\(TL d l x.1).length<x.1) (λ x=>N-x.1) (i+1,l) ?_ ⟨by simp only;omega,eN.symm,by simp only;rw[hkil,hki],λ _ _=>rfl,by simp only;rw[hkil];omega⟩ ?_;.simp only;rw[hkil,(oO:((i+1:Nat):Int)=(i:Int)+1)];exact fH
 rintro⟨j,L⟩ ⟨hj,hL,htk,hsm,hm⟩;simp only at hj hL htk hsm hm;simp only;obtain⟨m,em⟩:∃m,m=(TL d l j).length:=⟨_,rfl⟩;rw[<-em]at htk hm⊢
 have hRl:(L.map tR).length=N:=by rw[bP,hL]
 by_cases hlt:j<N
 .obtain⟨t,et⟩:∃t,t=l.getD j fB:=⟨_,rfl⟩;have g1:=rO (L:=L) (i:=j) oO;have g2:=rO (L:=L) (i:=m) oO;rw[hsm j (aF _),<-et]at g1;obtain⟨u,eu⟩:∃u,u=L.getD m fB:=⟨_,rfl⟩;rw[<-eu]at g2;have hst:=aBW (L:=L) (m:=m) (t:=t);obtain⟨R,eR⟩:∃R,R=L.map tR:=⟨_,rfl⟩;rw[<-eR]at g1 g2 hst hRl⊢
  have hc:=hdel t;obtain⟨y,ey⟩:∃y,y=sJ d t:=⟨_,rfl⟩;rw[<-ey]at hc;simp only[tR]at g1 g2 hst hc;have b1:m<N:=oO;have wm:aN.wrap ((m:Int)+1)=(m:Int)+1:=wrap_i64 oO oO;have wj:aN.wrap ((j:Int)+1)=(j:Int)+1:=wrap_i64 oO oO;have uU:=eQ @hid @i0 @i1 @i2 @i3 @i4 @hlt @g1 (xY @g2 @b1 @hRl @wm @wj);refine cQ ?_;apply zN;refine bS ?_;refine aU ⟨λ ht=>zN ?_⟩;refine lU [.ret y] ?_;refine aU (zs ?_)
  cases y with
  |true=>have hk1:=aQQ (d:=d) (l:=l) (j:=j) oO (by rw[<-et];exact ey.symm);refine bS ?_;refine aU ⟨λ ht=>zN ?_⟩;refine⟨(j+1,L),⟨by simp only;omega,hL,by simp only;rw[hk1,<-em];exact htk,λ q hq=>hsm q (by simp only at hq;omega),by simp only;rw[hk1,<-em];omega⟩,by simp only;omega,?_⟩;simp only;rw[hk1,<-em,<-eR,(oO:((j+1:Nat):Int)=(j:Int)+1)];exact fH
  |false=>
   have hk1:=aXQ (d:=d) (l:=l) (j:=j) oO (by rw[<-et];exact ey.symm);rw[<-et]at hk1;have hk2:(TL d l (j+1)).length=m+1:=by rw[hk1,bQ,<-em];rfl
   refine bS ?_;refine aU ⟨λ ht=>zN ?_⟩;refine⟨(j+1,L.set m t),⟨by simp only;omega,by simp only;rw[PI];exact hL,by simp only;rw[hk2,hk1,aNC oO,htk],λ q hq=>?_,by simp only;rw[hk2];omega⟩,by simp only;omega,?_⟩
   .simp only at hq⊢
    rw[BN,if_neg oO];exact hsm q oO
   simp only;rw[hk2,<-hst,(oO:((j+1:Nat):Int)=(j:Int)+1),(oO:((m+1:Nat):Int)=(m:Int)+1)];exact fH
 have hjn:j=N:=oO;subst hjn;rw[<-eKN]at em htk;have uU:=qQ @hid @i0 @i1 @i2 @i3 @i4;refine cQ ?_;apply zN;refine bS ?_;refine aU ⟨λ ht=>zN ?_⟩;refine bAG 0 (by simp-dsimp-implicitDefEqProofs (disch:=omega)only[go_sem,iN,hid,i0,i1,i2,i3,i4,eq_self,↓reduceIte];rfl) (by simp-dsimp-implicitDefEqProofs (disch:=omega)only[go_sem,iN,hid,i0,i1,i2,i3,i4,eq_self,↓reduceIte];rfl) (λ h=>oO) (λ cap hc1 hc2=>?_);refine cQ ?_;apply zN;obtain⟨nz,enz⟩:∃x,x=j-m:=⟨_,rfl⟩;obtain⟨c2,ec2⟩:∃x,x=cap-m:=⟨_,rfl⟩;have hcut:=ST (rows:=L.map tR) (new:=eI nz ztk) (r:=m) oO;rw[<-List.map_take,htk]at hcut;obtain⟨R,eR⟩:∃R,R=L.map tR:=⟨_,rfl⟩;rw[<-eR]at hRl hcut⊢
 refine bS ?_;refine aU (zs ?_);refine lU [.raw (some 38) ⟨.slc id m nz c2,k,[],[id]⟩,.raw none ⟨.junk,k,[(id,some ⟨8,true,pX R (eI nz ztk) m⟩)],[id]⟩] ?_;refine wM (zs ?_) (zs ?_) (zs ?_);.exact PT rfl (EJ) (by kernel_rfl) rfl rfl rfl oO oO oO oO oO oO
 .exact ZH (n:=nz) rfl y7 rfl rfl (EJ) rfl oO (by show m+nz<=R.length;omega) rfl
 refine bS ?_;refine aU (zs ?_);refine lU [.raw (some 41) ⟨.slc id 0 m cap,k,[],[id]⟩] ?_;refine dD (zs ?_) (zs ?_);.exact PT rfl (EJ) (by kernel_rfl) rfl rfl rfl oO oO oO oO oO oO
 refine bS ?_;refine aU (zs ?_);refine dI (bAN id m (EJ)) ?_;refine dI (a2U 4 rfl) ?_;refine cQ ?_;apply zN;rw[hcut];have uU:=qQ @hid @i0 @i1 @i2 @i3 @i4;refine IZ (zN ?_);rw[em]
def fM(n:Nat)(f:Nat->Int):List (List AVal):=(aM n).map λ i=>[.lit (.int .i64 (f i))]
theorem lF(n:Nat)(f:Nat->Int):(fM n f).length=n:=by simp[fM]
theorem tW{n i:Nat}{f:Nat->Int}(h:i<n):(fM n f)[i]? =some [.lit (.int .i64 (f i))]:=by simp[fM,h]
theorem PW{n i:Nat}{f:Nat->Int}{v:Int}:(fM n f).set i [.lit (.int .i64 v)]=fM n (wQ f i v):=kP λ j=>by
 rw[fY];by_cases hj:j<n
 .by_cases e:i=j;.subst e;rw[if_pos rfl,lF,if_pos hj,tW hj];simp[wQ]
  rw[if_neg e,tW hj,tW hj];simp[wQ,Ne.symm e]
 rw[cI (l:=fM n (wQ f i v)) (by rw[lF];omega)];split;.rw[lF,if_neg oO]
 exact cI (by rw[lF];omega)
theorem GL(N:Nat)(f:Nat->Int)(l:List (Int×Int))(x:Int×Int):pT N f (l++[x])=if 0<=x.1/\x.1<N then wQ (pT N f l) x.1.toNat x.2 else pT N f l:=by
 unfold pT;rw[KA];by_cases h:0<=x.1/\x.1<N;.rw[if_pos h,show List.filter (λ x:Int×Int=>decide (0<=x.1/\x.1<N)) [x]=[x]by simp[h],toN,aH];exact aJL _ _ _
 rw[if_neg h,show List.filter (λ x:Int×Int=>decide (0<=x.1/\x.1<N)) [x]=[]by simpa using h,aR]
def pre{α:Type}(v:Nat->α)(i:Nat):List α:=(aM i).map v
theorem wX{α:Type}(v:Nat->α)(i:Nat):pre v (i+1)=pre v i++[v i]:=by simp[pre,CI]
theorem a1F(n:Nat)(f:Nat->Int)(nv:Nat)(v:Nat->Int×Int)(hn:n<=100000)(hv:nv<=100000)(k id:Nat)(hid:id<k):
 AM.Tr aA Γ 62 k [.sl id 0 n,.rd 2 nv (λ i=>[.lit (.int .i64 (v i).1),.lit (.int .i64 (v i).2)])] [(id,⟨1,true,fM n f⟩)]
  (λ k1 r1 H1=>k1=k/\r1= .tup []/\H1=[(id,⟨1,true,fM n (pT n f (pre v nv))⟩)]):=by
 have i0:¬id=k:=oO;have i4:∀q,id<k+q:=λ q=>oO;have i1:∀q,¬id=k+q:=λ q=>oO;have i2:¬k=id:=oO;have i3:∀q,¬k+q=id:=λ q=>oO;refine iD Tryz.func62 rfl 29 rfl bB ?_;have kp:Kp [0,1,5,6,7,8,9,21] (λ i=>if k<=i then i-k+1 else 0):=vD;have uU:=qQ @hid @i0 @i1 @i2 @i3 @i4;refine bS ?_;refine aU (zs ?_);refine bE (X:=Nat) rfl [0,1,5,6,7,8,9,21] k (λ i=>[(8,i)]) (λ i=>[(id,⟨1,true,fM n (pT n f (pre v i))⟩)]) (λ i=>i<=nv) (λ i=>nv-i) 0 ?_ (aJ _) ?_;.rw[show pT n f (pre v 0)=f from rfl];refine cQ ?_;apply zN;exact fH
 intro i hi;obtain⟨F,eF⟩:∃F,F=pT n f (pre v i):=⟨_,rfl⟩;have hnx:pT n f (pre v (i+1))=if 0<=(v i).1/\(v i).1<n then wQ F (v i).1.toNat (v i).2 else F:=by rw[wX,GL,<-eF]
 rw[<-eF];by_cases hlt:i<nv
 .obtain⟨x,ex⟩:∃x,x=(v i).1:=⟨_,rfl⟩;obtain⟨y,ey⟩:∃y,y=(v i).2:=⟨_,rfl⟩;rw[<-ex,<-ey]at hnx;have hl:=lF n F;by_cases h0:0<=x
  .by_cases h1:x<n;.rw[if_pos ⟨h0,h1⟩]at hnx;have g1:=tW (n:=n) (f:=F) (i:=x.toNat) oO;have gs:=PW (n:=n) (f:=F) (i:=x.toNat) (v:=y);obtain⟨R,eR⟩:∃R,R=fM n F:=⟨_,rfl⟩;rw[<-eR]at hl g1 gs;rw[<-eR];have b1:x.toNat<n:=oO;have ex':=ex.symm;have ey':=ey.symm;have uU:=eQ @hid @i0 @i1 @i2 @i3 @i4 @hl @g1 (xY @h0 @h1 @b1 @ex' @ey');refine cQ ?_;apply zN;refine bS ?_;refine aU ⟨λ ht ht=>zN ?_⟩;refine⟨i+1,oO,oO,?_⟩;rw[hnx,<-gs,(oO:((i+1:Nat):Int)=(i:Int)+1)];exact fH
   rw[if_neg (λ h=>h1 h.2)]at hnx;have ex':=ex.symm;have ey':=ey.symm;have uU:=eQ @hid @i0 @i1 @i2 @i3 @i4 @hl @h0 (AW @h1 @ex' @ey');refine cQ ?_;apply zN;refine bS ?_;refine aU ⟨λ ht ht=>zN ?_⟩;refine⟨i+1,oO,oO,?_⟩;rw[hnx,(oO:((i+1:Nat):Int)=(i:Int)+1)];exact fH
  rw[if_neg (λ h=>h0 h.1)]at hnx;have ex':=ex.symm;have ey':=ey.symm;have uU:=eQ @hid @i0 @i1 @i2 @i3 @i4 @hl @h0 (zA @ex' @ey');refine cQ ?_;apply zN;refine bS ?_;refine aU ⟨λ ht ht=>zN ?_⟩;refine⟨i+1,oO,oO,?_⟩;rw[hnx,(oO:((i+1:Nat):Int)=(i:Int)+1)];exact fH
 have hin:i=nv:=oO;subst hin;refine cQ ?_;apply zN;refine bS ?_;refine aU ⟨λ ht=>zN ?_⟩;refine⟨_,rfl,rfl,?_⟩;rw[eF]
end Go.Proofs.T
end
section
namespace Go.AM
open Go
theorem VLe.rds {s n:Nat}{f g:Nat->List AVal}(h:∀i,i<n->VLes (f i) (g i)):VLe (.rd s n f) (.rd s n g):=λ w G ρ A cv hv=>by
 cases hv with
 |rd0=>exact .rd0
 |rd gg a1 a2 a3 a4 a5 a6=>
  have key:∀i j v,i<n->(g i)[j]? =some v->∃u,(f i)[j]? =some u/\VLe u v:=λ i j v hi hj=>by
   obtain⟨h1,h2⟩:=(h i hi).spec;have hlt:j<(f i).length:=by have:=(aG.1 hj).1;omega
   exact⟨_,aE hlt,h2 j _ v (aE hlt) hj⟩
  refine .rd gg a1 a2 a3 (λ i hi=>by rw[←((h i hi).spec).1];exact a4 i hi) (λ i j v hi hj=>?_) (λ i j v hi hj=>?_);.obtain⟨u,hu,_⟩:=key i j v hi hj;exact a5 i j u hi hu
  obtain⟨u,hu,hle⟩:=key i j v hi hj;exact hle _ _ _ _ _ (a6 i j u hi hu)
theorem a5P{P:Program}{Γ:List (Nat×List AVal)}{f:FuncId}{k:Nat}{args args':List AVal}{Hc:aS}{Q:Nat->AVal->aS->Prop}(h:Tr P Γ f k args' Hc Q)(hle:VLes args args'):Tr P Γ f k args Hc Q:=by
 intro A hA w G ρ cargs hrel hvs;have hle:=hle.spec
 exact h A hA w G ρ cargs hrel ⟨by rw[<-hle.1];exact hvs.1,λ j v hj=>by
  have hlt:j<args.length:=by have:=(aG.1 hj).1;have:=hle.1;omega
  exact hle.2 j _ _ (aE hlt) hj _ _ _ _ _ (hvs.2 j _ (aE hlt))⟩
end Go.AM
end
section
namespace Go.Proofs.T
open Go Go.AM Go.Proofs
variable{Γ:List (Nat×List AVal)}
attribute [local irreducible] gK del
def gN(n:Nat)(f g:Nat->Int):List (List AVal):=(aM n).map λ i=>[.lit (.int .i64 (f i)),.lit (.int .i64 (g i))]
def kI(n:Nat)(f:Nat->Sp):List (List AVal):=(aM n).map λ i=>[.lit (.int .u64 (f i).v),.lit (.int .u32 (f i).r),.lit (.int .u64 (f i).floor)]
def OH(k ng n ns:Nat)(par wt clk cur:Nat->Int)(l:List Tk)(sp:Nat->Nat->Sp):aS:=
 (k+13,⟨2,true,gN ng par wt⟩)::(k+14,⟨1,true,fM n clk⟩)::(k+15,⟨1,true,fM n cur⟩)::(k+16,⟨8,true,l.map tR⟩)::(k+17,⟨1,false,zJ (k+18) ns n ns⟩)::mK (k+18) 3 ns (λ g=>kI n (sp g))
def OC(k ng n ns nt:Nat)(cpus credit:Int):List AVal:=[.lit (.int .i64 cpus),.lit (.int .u64 credit),.sl (k+13) 0 ng,.sl (k+14) 0 n,.sl (k+15) 0 n,.sl (k+16) 0 nt,.sl (k+17) 0 ns]
theorem WA(s:St):(mP s).map tR=(aM s.nt).map (tf s):=by unfold mP;rw[jD];rfl
theorem JE(s:St):(mP s).length=s.nt:=by simp[mP]
theorem aSW(s:St)(n:Nat)(hn:0<n)(hn2:n<=1000)(e1:s.nk=n)(e2:s.nu=n)(e3:∀g,g<s.ns->s.nsp g=n)(h1:0<s.ng)(h2:s.ng<=1000)(h5:0<s.ns)(h6:s.ns<=1000)(h8:s.nt<=1000)(k:Nat):
 AM.Tr aA Γ 61 k [.agg s.cells] [] (λ k1 r1 H1=>k1=k+(20+s.ns)/\r1= .agg (OC k s.ng n s.ns s.nt s.cpus s.credit)/\H1=OH k s.ng n s.ns s.par s.wt s.clk s.cur (mP s) s.sp):=by
 have hle:VLes [.agg s.cells] [.agg [s.cpus,.lit (.int .u64 s.credit),.rd 2 s.ng (gf s),.rd 1 n (kf s),.rd 1 n (uf s),.rd 8 s.nt (tf s),.rd 1 s.ns (λ g=>[.rd 3 n (sf s g)])]]:=by
  refine .cons (oA (.cons (aK _) (.cons (aK _) (.cons (aK _) (.cons ?_ (.cons ?_ (.cons (aK _) (.cons ?_ .nil)))))))) .nil;.rw[e1];exact aK _
  .rw[e2];exact aK _
  refine VLe.rds λ g hg=> .cons ?_ .nil;rw[e3 g hg];exact aK _
 refine a5P ?_ hle;have o2:∀(m:Nat) (f:Nat->List AVal),(∀i,(f i).all AM.one=true)->(((aM m).map f).all λ row=>row.all AM.one)=true:=λ m f h=>pM _ _ h;have g1:=o2 s.ng (gf s) λ _=>rfl;have g2:=o2 n (kf s) λ _=>rfl;have g3:=o2 n (uf s) λ _=>rfl;have g4:∀g,(((aM n).map (sf s g)).all λ row=>row.all AM.one)=true:=λ g=>o2 n (sf s g) λ _=>rfl;unfold OC OH;rw[WA];rcases jJ s.nt with h0|h0
 .rw[h0,List.range_zero,aV];refine a0Q 5 rfl λ a cap=>?_
  cases a with
  |none=>exact aSY s.cpus s.credit s.ng n s.ns (gf s) (kf s) (uf s) (sf s) cap g1 g2 g3 g4 h1 h2 hn hn2 h5 h6 k
  |some p=>exact aSZ s.cpus s.credit s.ng n s.ns (gf s) (kf s) (uf s) (sf s) p cap g1 g2 g3 g4 h1 h2 hn hn2 h5 h6 k
 exact aSX s.cpus s.credit s.ng n s.ns (gf s) (kf s) (uf s) (sf s) s.nt (tf s) h0 h8 (o2 s.nt (tf s) λ _=>rfl) g1 g2 g3 g4 h1 h2 hn hn2 h5 h6 k
theorem aCE{a j:Nat}{l:List Tk}(h:j<=a):qY fB gU a j l=l:=by
 cases j with
 |zero=>rfl
 |succ j=>rw[qY,if_neg oO]
theorem aKJ{a j:Nat}{l:List Tk}(h:gU (l.getD (j+1) fB) (l.getD j fB)=false):qY fB gU a (j+1) l=l:=by rw[qY,if_neg (by rw[h];simp)]
theorem aRD{a j:Nat}{l:List Tk}(h0:a<j+1)(h:gU (l.getD (j+1) fB) (l.getD j fB)=true):qY fB gU a (j+1) l=qY fB gU a j (VT fB l (j+1) j):=by rw[qY,if_pos ⟨h0,h⟩]
theorem aRB(l:List Tk)(a b:Nat)(h1:a<=b)(h2:b<=l.length)(hl:l.length<=100000)(k id:Nat)(hid:id<k):
 AM.Tr aA Γ 208 k [.sl id 0 l.length,a,b,.fn 69 []] [(id,⟨8,true,l.map tR⟩)]
  (λ k1 r1 H1=>k1=k/\r1= .tup []/\H1=[(id,⟨8,true,(CY fB gU l a b).map tR⟩)]):=by
 have i0:¬id=k:=oO;have i4:∀q,id<k+q:=λ q=>oO;have i1:∀q,¬id=k+q:=λ q=>oO;have i2:¬k=id:=oO;have i3:∀q,¬k+q=id:=λ q=>oO;obtain⟨N,eN⟩:∃N,N=l.length:=⟨_,rfl⟩;rw[<-eN];refine iD Tryz.func208 rfl 53 rfl bB ?_;have wa:aN.wrap ((a:Int)+1)=(a:Int)+1:=dA oO oO;have kp:=fI k [0,1,2,3,8,9,14,34];have uU:=yA @hid @i0 @i1 @i2 @i3 @i4 @wa;refine bS ?_;refine aU (zs ?_);refine bE (X:=Nat) rfl [0,1,2,3,8,9,14,34] k (λ q=>[(8,(a+1+q:Nat))]) (λ q=>[(id,⟨8,true,(AH fB gU a l q).map tR⟩)]) (λ q=>q<=b-a-1) (λ q=>b-a-1-q) 0 ?_ (aJ _) ?_;.rw[show AH fB gU a l 0=l from rfl,(oO:((a+1+0:Nat):Int)=(a:Int)+1)];refine cQ ?_;apply zN;exact fH
 intro q hq;obtain⟨L,eL⟩:∃L,L=AH fB gU a l q:=⟨_,rfl⟩;have hL:L.length=N:=by rw[eL,(yG oO).length_eq,eN]
 have hnx:AH fB gU a l (q+1)=qY fB gU a (a+q+1) L:=by rw[AH,eL]
 rw[<-eL];obtain⟨i,ei⟩:∃i,i=a+1+q:=⟨_,rfl⟩;rw[<-ei];have wi:aN.wrap ((i:Int)+1)=(i:Int)+1:=dA oO oO;by_cases hlt:i<b
 .have hib:(i:Int)<(b:Int):=oO;have uU:=qW @hid @i0 @i1 @i2 @i3 @i4 @wi @hib;refine cQ ?_;apply zN;refine bS ?_;refine aU ⟨λ ht=>zN ?_⟩;refine bE (X:=Nat×List Tk) rfl [0,1,2,3,8,9,14,34] k (λ x=>[(9,x.1)]) (λ x=>[(id,⟨8,true,x.2.map tR⟩)]) (λ x=>x.2.length=N/\a<=x.1/\x.1<=i/\qY fB gU a x.1 x.2=qY fB gU a i L) (λ x=>x.1) (i,L) ?_ ⟨hL,by simp only;omega,aF _,rfl⟩ ?_;.refine cQ ?_;apply zN;exact fH
  rintro⟨j,M⟩ ⟨hM,hj1,hj2,hin⟩;simp only at hM hj1 hj2 hin;simp only;by_cases haj:a<j
  .obtain⟨j',rfl⟩:∃j',j=j'+1:=⟨j-1,oO⟩;have g1:=rO (L:=M) (i:=j'+1) oO;have g2:=rO (L:=M) (i:=j') oO;have hsw:=DW (L:=M) (i:=j'+1) (j:=j');have hRl:(M.map tR).length=N:=by rw[bP,hM]
   have hend:=aKJ (a:=a) (j:=j') (l:=M);have hgo:=aRD (a:=a) (j:=j') (l:=M) haj;have hsl:(VT fB M (j'+1) j').length=N:=by rw[yC,hM]
   obtain⟨R,eR⟩:∃R,R=M.map tR:=⟨_,rfl⟩;obtain⟨x,ex⟩:∃x,x=M.getD (j'+1) fB:=⟨_,rfl⟩;obtain⟨y,ey⟩:∃y,y=M.getD j' fB:=⟨_,rfl⟩;rw[<-eR,<-ex]at g1;rw[<-eR,<-ey]at g2;rw[<-eR,<-ex,<-ey]at hsw;rw[<-ex,<-ey]at hend hgo;rw[<-eR]at hRl⊢
   have hcc:=aHG (Γ:=Γ) x y;obtain⟨v,ev⟩:∃v,v=aN.wrap (x.id-y.id):=⟨_,rfl⟩;rw[<-ev]at hcc;have hlv:gU x y=decide (v<0):=by rw[gU,ev]
   rw[hlv]at hend hgo;simp only[tR]at g1 g2 hsw hcc;have haj':(a:Int)<(j':Int)+1:=oO;have htn:((j':Int)+1).toNat=j'+1:=oO;have hp0:(0:Int)<=(j':Int)+1:=oO;have wj:aN.wrap ((j':Int)+1-1)=(j':Int):=by rw[dA oO oO];omega
   have wj2:aN.wrap (j':Int)=(j':Int):=dA oO oO;have b1:j'+1<N:=oO;have b2:j'<N:=oO;have g3:=JF (p:=j'+1) g2;by_cases hv:v<0;.have hgo':=hgo (decide_eq_true hv);have uU:=eQ @hid @i0 @i1 @i2 @i3 @i4 @g1 @g2 (eQ @g3 @wj @wj2 @htn @hp0 @b1 @b2 @hRl (AW @haj' @wi @hv));refine cQ ?_;apply zN;have kp:Kp [0,1,2,3,8,9,14,34] (λ i=>if k<=i then i-k+1 else 0):=vD;refine bS ?_;refine aU (zs ?_);refine mN [.ret v] ?_;refine aU (zs ?_);refine bS ?_;refine aU ⟨λ ht=>zN ?_⟩;refine⟨(j',VT fB M (j'+1) j'),⟨hsl,by simp only;omega,by simp only;omega,by simp only;rw[<-hgo'];exact hin⟩,by simp only;omega,?_⟩;simp only;rw[<-hsw];exact fH
   have hend':=hend (decide_eq_false hv);have uU:=eQ @hid @i0 @i1 @i2 @i3 @i4 @g1 @g2 (eQ @g3 @wj @wj2 @htn @hp0 @b1 @b2 @hRl (AW @haj' @wi @hv));refine cQ ?_;apply zN;have kp:Kp [0,1,2,3,8,9,14,34] (λ i=>if k<=i then i-k+1 else 0):=vD;refine bS ?_;refine aU (zs ?_);refine mN [.ret v] ?_;refine aU (zs ?_);refine bS ?_;refine aU ⟨λ ht=>zN ?_⟩;refine⟨q+1,oO,oO,?_⟩;rw[hnx,(oO:a+q+1=i),<-hin,hend',eR,(oO:a+(1+(q+1))=i+1),(oO:((i+1:Nat):Int)=(i:Int)+1)];exact fH
  have hst:=aCE (l:=M) (oO:j<=a);have haj':¬(a:Int)<(j:Int):=oO;have uU:=qW @hid @i0 @i1 @i2 @i3 @i4 @wi @haj';refine cQ ?_;apply zN;have kp:Kp [0,1,2,3,8,9,14,34] (λ i=>if k<=i then i-k+1 else 0):=vD;refine bS ?_;refine aU (zs ?_);refine mN [] ?_;refine aU (zs ?_);refine bS ?_;refine aU ⟨λ ht=>zN ?_⟩;refine⟨q+1,oO,oO,?_⟩;rw[hnx,(oO:a+q+1=i),<-hin,hst,(oO:a+(1+(q+1))=i+1),(oO:((i+1:Nat):Int)=(i:Int)+1)];exact fH
 have hq':q=b-a-1:=oO;have uU:=qQ @hid @i0 @i1 @i2 @i3 @i4;refine cQ ?_;apply zN;have kp:Kp [0,1,2,3,8,9,14,34] (λ i=>if k<=i then i-k+1 else 0):=vD;refine bS ?_;refine aU ⟨λ ht=>zN ?_⟩;refine⟨_,rfl,rfl,?_⟩;rw[eL,hq',CY]
theorem a6S(l:List Tk)(a m b:Nat)(h1:a<m)(h2:m<b)(h3:b<=l.length)(hl:l.length<=100000)(k id:Nat)(hid:id<k):
 AM.Tr aA Γ 253 k [.sl id 0 l.length,a,m,b,.fn 69 []] [(id,⟨8,true,l.map tR⟩)]
  (λ k1 r1 H1=>k1=k/\r1= .tup []/\H1=[(id,⟨8,true,(rot fB l a m b).map tR⟩)]):=by
 have i0:¬id=k:=oO;have i4:∀q,id<k+q:=λ q=>oO;have i1:∀q,¬id=k+q:=λ q=>oO;have i2:¬k=id:=oO;have i3:∀q,¬k+q=id:=λ q=>oO;obtain⟨N,eN⟩:∃N,N=l.length:=⟨_,rfl⟩;rw[<-eN];refine iD Tryz.func253 rfl 58 rfl bB ?_;have wa:aN.wrap ((m:Int)-(a:Int))=((m-a:Nat):Int):=by rw[dA oO oO];omega
 have wb:aN.wrap ((b:Int)-(m:Int))=((b-m:Nat):Int):=by rw[dA oO oO];omega
 have kp:Kp [0,1,2,3,4,10,11,20,23] (λ i=>if k<=i then i-k+1 else 0):=vD;have uU:=qW @hid @i0 @i1 @i2 @i3 @i4 @wa @wb;refine bS ?_;refine aU (zs ?_);refine bE (X:=Nat×Nat×Nat×List Tk) rfl [0,1,2,3,4,10,11,20,23] k (λ x=>[(10,x.1),(11,x.2.1)]) (λ x=>[(id,⟨8,true,x.2.2.2.map tR⟩)]) (λ x=>x.2.2.2.length=N/\0<x.1/\0<x.2.1/\x.1+x.2.1<=x.2.2.1/\x.1<=m/\m+x.2.1<=N/\KV fB m x.2.2.1 x.1 x.2.1 x.2.2.2=rot fB l a m b) (λ x=>x.1+x.2.1) (m-a,b-m,b-a,l) ?_ ⟨eN.symm,by simp only;omega,by simp only;omega,by simp only;omega,by simp only;omega,by simp only;omega,rfl⟩ ?_;.refine cQ ?_;apply zN;exact fH
 rintro⟨i,j,f,L⟩ ⟨hL,hi,hj,hf,him,hjm,hrot⟩;simp only at hL hi hj hf him hjm hrot;simp only;obtain⟨f,rfl⟩:∃f',f=f'+1:=⟨f-1,oO⟩;have w1:aN.wrap ((m:Int)-(i:Int))=((m-i:Nat):Int):=by rw[dA oO oO];omega
 by_cases hij:i=j;.subst hij;have hT:=SL (Γ:=Γ) L (m-i) m i oO oO oO (.fn 69 []) k id hid;rw[KV,if_pos rfl]at hrot;rw[hrot,hL]at hT;have uU:=yA @hid @i0 @i1 @i2 @i3 @i4 @w1;refine cQ ?_;apply zN;refine bS ?_;refine aU ⟨λ ht=>zN ?_⟩;refine lU [.gen (.tup []) k [(id,⟨8,true,L.map tR⟩)] [(id,⟨8,true,(rot fB l a m b).map tR⟩)]] ?_;refine aU (zs ?_);exact⟨_,rfl,rfl⟩
 by_cases hlt:j<i
 .have hlt':(j:Int)<(i:Int):=oO;have hij':¬(i:Int)=(j:Int):=oO;have w2:aN.wrap ((i:Int)-(j:Int))=((i-j:Nat):Int):=by rw[dA oO oO];omega
  have hT:=SL (Γ:=Γ) L (m-i) m j oO oO oO (.fn 69 []) k id hid;rw[KV,if_neg hij,if_pos hlt]at hrot;obtain⟨M,eM⟩:∃M,M=WH fB L (m-i) m j:=⟨_,rfl⟩;have hM:M.length=N:=by rw[eM,pB,hL]
  rw[<-eM]at hT hrot;rw[hL]at hT;have uU:=eQ @hid @i0 @i1 @i2 @i3 @i4 @w1 @w2 (zA @hij' @hlt');refine cQ ?_;apply zN;refine bS ?_;refine aU ⟨λ ht ht=>zN ?_⟩;refine lU [.gen (.tup []) k [(id,⟨8,true,L.map tR⟩)] [(id,⟨8,true,M.map tR⟩)]] ?_;refine aU (zs ?_);refine bS ?_;refine aU (zs ?_);refine⟨(i-j,j,f,M),⟨hM,by simp only;omega,by simp only;omega,by simp only;omega,by simp only;omega,by simp only;omega,hrot⟩,by simp only;omega,?_⟩;simp only;exact fH
 have hlt':¬(j:Int)<(i:Int):=oO;have hij':¬(i:Int)=(j:Int):=oO;have w2:aN.wrap ((j:Int)-(i:Int))=((j-i:Nat):Int):=by rw[dA oO oO];omega
 have w3:aN.wrap ((m:Int)+(j:Int))=((m+j:Nat):Int):=by rw[dA oO oO];omega
 have w4:aN.wrap (((m+j:Nat):Int)-(i:Int))=((m+j-i:Nat):Int):=by rw[dA oO oO];omega
 have hT:=SL (Γ:=Γ) L (m-i) (m+j-i) i oO oO oO (.fn 69 []) k id hid;rw[KV,if_neg hij,if_neg hlt]at hrot;obtain⟨M,eM⟩:∃M,M=WH fB L (m-i) (m+j-i) i:=⟨_,rfl⟩;have hM:M.length=N:=by rw[eM,pB,hL]
 rw[<-eM]at hT hrot;rw[hL]at hT;have uU:=eQ @hid @i0 @i1 @i2 @i3 @i4 @w1 @w2 (DP @w3 @w4 @hij' @hlt');refine cQ ?_;apply zN;refine bS ?_;refine aU ⟨λ ht ht=>zN ?_⟩;refine lU [.gen (.tup []) k [(id,⟨8,true,L.map tR⟩)] [(id,⟨8,true,M.map tR⟩)]] ?_;refine aU (zs ?_);refine bS ?_;refine aU (zs ?_);refine⟨(i,j-i,f,M),⟨hM,by simp only;omega,by simp only;omega,by simp only;omega,by simp only;omega,by simp only;omega,hrot⟩,by simp only;omega,?_⟩;simp only;exact fH
theorem UY{p:Nat->Bool}{f i j:Nat}(h:¬i<j):CG p f i j=i:=by
 cases f with
 |zero=>rfl
 |succ f=>rw[CG,if_neg h]
theorem aDW{p:Nat->Bool}{f i j h:Nat}(hij:i<j)(e:h=(i+j)/2)(hp:p h=true):CG p (f+1) i j=CG p f (h+1) j:=by rw[CG,if_pos hij,<-e,if_pos hp]
theorem aDX{p:Nat->Bool}{f i j h:Nat}(hij:i<j)(e:h=(i+j)/2)(hp:p h=false):CG p (f+1) i j=CG p f i h:=by rw[CG,if_pos hij,<-e,if_neg (by rw[hp];simp)]
theorem a2R(l:List Tk)(a m b:Nat)(h1:m=a+1)(h2:m<b)(h3:b<=l.length)(hl:l.length<=100000)(k id:Nat)(hid:id<k):
 AM.Tr aA Γ 209 k [.sl id 0 l.length,a,m,b,.fn 69 []] [(id,⟨8,true,l.map tR⟩)]
  (λ k1 r1 H1=>k1=k/\r1= .tup []/\H1=[(id,⟨8,true,(shR fB l a (CG (λ h=>gU (l.getD h fB) (l.getD a fB)) (b-m) m b-1-a)).map tR⟩)]):=by
 have i0:¬id=k:=oO;have i4:∀q,id<k+q:=λ q=>oO;have i1:∀q,¬id=k+q:=λ q=>oO;have i2:¬k=id:=oO;have i3:∀q,¬k+q=id:=λ q=>oO;obtain⟨N,eN⟩:∃N,N=l.length:=⟨_,rfl⟩;rw[<-eN];refine iD Tryz.func209 rfl 220 rfl bB ?_;obtain⟨R,eR⟩:∃R,R=l.map tR:=⟨_,rfl⟩;have hRl:R.length=N:=by rw[eR,bP,eN]
 obtain⟨p,ep⟩:∃p:Nat->Bool,p=λ h=>gU (l.getD h fB) (l.getD a fB):=⟨_,rfl⟩;rw[<-ep];obtain⟨B,eB⟩:∃B,B=CG p (b-m) m b:=⟨_,rfl⟩;have hBr:=rL (p:=p) (f:=b-m) (i:=m) (j:=b) oO;rw[<-eB]at hBr⊢
 rw[<-eR];have wma:aN.wrap ((m:Int)-(a:Int))=1:=by rw[dA oO oO];omega
 have ga:=rO (L:=l) (i:=a) oO;obtain⟨x,ex⟩:∃x,x=l.getD a fB:=⟨_,rfl⟩;rw[<-eR,<-ex]at ga;rw[<-ex]at ep;simp only[tR]at ga;have ba:a<N:=oO;have kp:Kp [0,1,2,3,4,10,11,12,13,14,15,16,17,18,19,20,21,22,23,24,28,33,50,58,80,85,103,110,140,151,171,185,199,213] (λ i=>if k<=i then i-k+1 else 0):=vD;have uU:=yA @hid @i0 @i1 @i2 @i3 @i4 @wma;refine bS ?_;refine aU ⟨λ ht=>zN ?_⟩;refine bE (X:=Nat×Nat×Nat) rfl [0,1,2,3,4,10,11,12,13,14,15,16,17,18,19,20,21,22,23,24,28,33,50,58,80,85,103,110,140,151,171,185,199,213] k (λ x=>[(10,x.1),(11,x.2.1)]) (λ x=>[(id,⟨8,true,R⟩)]) (λ x=>m<=x.1/\x.1<=x.2.1/\x.2.1<=b/\x.2.1-x.1<=x.2.2/\CG p x.2.2 x.1 x.2.1=B) (λ x=>x.2.1-x.1) (m,b,b-m) ?_ ⟨by simp only;omega,by simp only;omega,by simp only;omega,by simp only;omega,eB.symm⟩ ?_;.refine cQ ?_;apply zN;exact fH
 rintro⟨i,j,f⟩ ⟨hi1,hi2,hi3,hf,hbs⟩;simp only at hi1 hi2 hi3 hf hbs;simp only;by_cases hij:i<j
 .obtain⟨f,rfl⟩:∃f',f=f'+1:=⟨f-1,oO⟩;have e1:bN.wrap ((i:Int)+(j:Int))=(i:Int)+(j:Int):=fF oO oO;have e0:aN.wrap ((i:Int)+(j:Int))=(i:Int)+(j:Int):=wrap_i64 oO oO;have e2:((i:Int)+(j:Int)).fdiv (2^min 1 64)=(((i+j)/2:Nat):Int):=by rw[show(2:Int)^min 1 64=2 from rfl,dL _ oO];omega
  obtain⟨h,eh⟩:∃h,h=(i+j)/2:=⟨_,rfl⟩;rw[<-eh]at e2;have e3:aN.wrap (h:Int)=(h:Int):=wrap_i64 oO oO;have e4:aN.wrap ((h:Int)+1)=(h:Int)+1:=wrap_i64 oO oO;have hij':(i:Int)<(j:Int):=oO;have gh:=rO (L:=l) (i:=h) oO;obtain⟨y,ey⟩:∃y,y=l.getD h fB:=⟨_,rfl⟩;rw[<-eR,<-ey]at gh;simp only[tR]at gh;have bh:h<N:=oO;have hcc:=aHG (Γ:=Γ) y x;obtain⟨v,ev⟩:∃v,v=aN.wrap (Tk.id y-Tk.id x):=⟨_,rfl⟩;rw[<-ev]at hcc;have hlv:gU y x=decide (v<0):=by rw[gU,ev]
  simp only[tR]at hcc;by_cases hv:v<0
  .have hp:p h=true:=by rw[ep];simp only;rw[<-ey,hlv];simp[hv]
   rw[aDW hij eh hp]at hbs;have uU:=eQ @hid @i0 @i1 @i2 @i3 @i4 @e0 @e1 (eQ @e2 @e3 @e4 @hij' @hv @ga @gh @ba (zA @bh @hRl));refine cQ ?_;apply zN;refine bS ?_;refine aU ⟨λ ht=>zN ?_⟩;refine mN [.ret v] ?_;refine aU (zs ?_);refine bS ?_;refine aU ⟨λ ht=>zN ?_⟩;refine⟨(h+1,j,f),⟨by simp only;omega,by simp only;omega,hi3,by simp only;omega,hbs⟩,by simp only;omega,?_⟩;simp only;rw[(oO:((h+1:Nat):Int)=(h:Int)+1)];exact fH
  have hp:p h=false:=by rw[ep];simp only;rw[<-ey,hlv];simp[hv]
  rw[aDX hij eh hp]at hbs;have uU:=eQ @hid @i0 @i1 @i2 @i3 @i4 @e0 @e1 (eQ @e2 @e3 @e4 @hij' @hv @ga @gh @ba (zA @bh @hRl));refine cQ ?_;apply zN;refine bS ?_;refine aU ⟨λ ht=>zN ?_⟩;refine mN [.ret v] ?_;refine aU (zs ?_);refine bS ?_;refine aU ⟨λ ht=>zN ?_⟩;refine⟨(i,h,f),⟨hi1,by simp only;omega,by simp only;omega,by simp only;omega,hbs⟩,by simp only;omega,?_⟩;simp only;exact fH
 have hij':¬(i:Int)<(j:Int):=oO;rw[UY hij]at hbs;subst hbs;have uU:=yA @hid @i0 @i1 @i2 @i3 @i4 @hij';refine cQ ?_;apply zN;refine bS ?_;refine aU ⟨λ ht=>zN ?_⟩;have wB:aN.wrap ((i:Int)-1)=((i-1:Nat):Int):=by rw[dA oO oO];omega
 refine bE (X:=Nat) rfl [0,1,2,3,4,10,11,12,13,14,15,16,17,18,19,20,21,22,23,24,28,33,50,58,80,85,103,110,140,151,171,185,199,213] k (λ q=>[(13,(a+q:Nat))]) (λ q=>[(id,⟨8,true,(shR fB l a q).map tR⟩)]) (λ q=>q<=(i-1-a)) (λ q=>(i-1-a)-q) 0 ?_ (aJ _) ?_;.rw[show shR fB l a 0=l from rfl,<-eR];refine cQ ?_;apply zN;exact fH
 intro q hq;obtain⟨L,eL⟩:∃L,L=shR fB l a q:=⟨_,rfl⟩;have hL:L.length=N:=by rw[eL,BC,eN]
 have hnx:shR fB l a (q+1)=VT fB L (a+q) (a+q+1):=by rw[shR,eL]
 rw[<-eL];by_cases hlt:q<(i-1-a)
 .obtain⟨cur,ec⟩:∃c,c=a+q:=⟨_,rfl⟩;obtain⟨nx,en⟩:∃c,c=a+q+1:=⟨_,rfl⟩;rw[<-en,<-ec]at hnx;rw[<-ec];have g1:=rO (L:=L) (i:=cur) oO;have g2:=rO (L:=L) (i:=nx) oO;have hsw:=DW (L:=L) (i:=cur) (j:=nx);have hSl:(L.map tR).length=N:=by rw[bP,hL]
  obtain⟨S,eS⟩:∃S,S=L.map tR:=⟨_,rfl⟩;obtain⟨x,ex⟩:∃x,x=L.getD cur fB:=⟨_,rfl⟩;obtain⟨y,ey⟩:∃y,y=L.getD nx fB:=⟨_,rfl⟩;rw[<-eS,<-ex]at g1;rw[<-eS,<-ey]at g2;rw[<-eS,<-ex,<-ey]at hsw;rw[<-eS]at hSl⊢
  simp only[tR]at g1 g2 hsw;have g3:=JF (p:=cur) g2;have w1:aN.wrap ((cur:Int)+1)=(nx:Int):=by rw[dA oO oO];omega
  have b1:cur<N:=oO;have b2:nx<N:=oO;have hcond:(cur:Int)<((i-1:Nat):Int):=oO;have uU:=eQ @hid @i0 @i1 @i2 @i3 @i4 @wB @w1 (yA @g1 @g2 @g3 @b1 @b2 @hSl @hcond);refine cQ ?_;apply zN;refine bS ?_;refine aU ⟨λ ht=>zN ?_⟩;refine⟨q+1,oO,oO,?_⟩;rw[hnx,<-hsw,(oO:a+(q+1)=nx)];exact fH
 have hqe:q=(i-1-a):=oO;have hcond:¬((a+q:Nat):Int)<((i-1:Nat):Int):=oO;have uU:=qW @hid @i0 @i1 @i2 @i3 @i4 @wB @hcond;refine cQ ?_;apply zN;refine bS ?_;refine aU ⟨λ ht=>zN ?_⟩;have uU:=qW @hid @i0 @i1 @i2 @i3 @i4 @wB @hcond;refine IZ (zN ?_);rw[eL,hqe];exact⟨rfl,rfl⟩
theorem a2Q(l:List Tk)(a m b:Nat)(h1:a+1<m)(h2:b=m+1)(h3:b<=l.length)(hl:l.length<=100000)(k id:Nat)(hid:id<k):
 AM.Tr aA Γ 209 k [.sl id 0 l.length,a,m,b,.fn 69 []] [(id,⟨8,true,l.map tR⟩)]
  (λ k1 r1 H1=>k1=k/\r1= .tup []/\H1=[(id,⟨8,true,(shL fB l m (m-CG (λ h=> !(gU (l.getD m fB) (l.getD h fB))) (m-a) a m)).map tR⟩)]):=by
 have i0:¬id=k:=oO;have i4:∀q,id<k+q:=λ q=>oO;have i1:∀q,¬id=k+q:=λ q=>oO;have i2:¬k=id:=oO;have i3:∀q,¬k+q=id:=λ q=>oO;obtain⟨N,eN⟩:∃N,N=l.length:=⟨_,rfl⟩;rw[<-eN];refine iD Tryz.func209 rfl 220 rfl bB ?_;obtain⟨R,eR⟩:∃R,R=l.map tR:=⟨_,rfl⟩;have hRl:R.length=N:=by rw[eR,bP,eN]
 obtain⟨p,ep⟩:∃p:Nat->Bool,p=λ h=> !(gU (l.getD m fB) (l.getD h fB)):=⟨_,rfl⟩;rw[<-ep];obtain⟨B,eB⟩:∃B,B=CG p (m-a) a m:=⟨_,rfl⟩;have hBr:=rL (p:=p) (f:=m-a) (i:=a) (j:=m) oO;rw[<-eB]at hBr⊢
 rw[<-eR];have wma:aN.wrap ((m:Int)-(a:Int))=((m-a:Nat):Int):=by rw[dA oO oO];omega
 have wbm:aN.wrap ((b:Int)-(m:Int))=1:=by rw[dA oO oO];omega
 have hne:¬((m-a:Nat):Int)=1:=oO;have ga:=rO (L:=l) (i:=m) oO;obtain⟨x,ex⟩:∃x,x=l.getD m fB:=⟨_,rfl⟩;rw[<-eR,<-ex]at ga;rw[<-ex]at ep;simp only[tR]at ga;have ba:m<N:=oO;have kp:Kp [0,1,2,3,4,10,11,12,13,14,15,16,17,18,19,20,21,22,23,24,28,33,50,58,80,85,103,110,140,151,171,185,199,213] (λ i=>if k<=i then i-k+1 else 0):=vD;have uU:=eQ @hid @i0 @i1 @i2 @i3 @i4 @wma @wbm @hne;refine bS ?_;refine aU ⟨λ ht ht=>zN ?_⟩;refine bE (X:=Nat×Nat×Nat) rfl [0,1,2,3,4,10,11,12,13,14,15,16,17,18,19,20,21,22,23,24,28,33,50,58,80,85,103,110,140,151,171,185,199,213] k (λ x=>[(14,x.1),(15,x.2.1)]) (λ x=>[(id,⟨8,true,R⟩)]) (λ x=>a<=x.1/\x.1<=x.2.1/\x.2.1<=m/\x.2.1-x.1<=x.2.2/\CG p x.2.2 x.1 x.2.1=B) (λ x=>x.2.1-x.1) (a,m,m-a) ?_ ⟨by simp only;omega,by simp only;omega,by simp only;omega,by simp only;omega,eB.symm⟩ ?_;.refine cQ ?_;apply zN;exact fH
 rintro⟨i,j,f⟩ ⟨hi1,hi2,hi3,hf,hbs⟩;simp only at hi1 hi2 hi3 hf hbs;simp only;by_cases hij:i<j
 .obtain⟨f,rfl⟩:∃f',f=f'+1:=⟨f-1,oO⟩;have e1:bN.wrap ((i:Int)+(j:Int))=(i:Int)+(j:Int):=fF oO oO;have e0:aN.wrap ((i:Int)+(j:Int))=(i:Int)+(j:Int):=wrap_i64 oO oO;have e2:((i:Int)+(j:Int)).fdiv (2^min 1 64)=(((i+j)/2:Nat):Int):=by rw[show(2:Int)^min 1 64=2 from rfl,dL _ oO];omega
  obtain⟨h,eh⟩:∃h,h=(i+j)/2:=⟨_,rfl⟩;rw[<-eh]at e2;have e3:aN.wrap (h:Int)=(h:Int):=wrap_i64 oO oO;have e4:aN.wrap ((h:Int)+1)=(h:Int)+1:=wrap_i64 oO oO;have hij':(i:Int)<(j:Int):=oO;have gh:=rO (L:=l) (i:=h) oO;obtain⟨y,ey⟩:∃y,y=l.getD h fB:=⟨_,rfl⟩;rw[<-eR,<-ey]at gh;simp only[tR]at gh;have bh:h<N:=oO;have hcc:=aHG (Γ:=Γ) x y;obtain⟨v,ev⟩:∃v,v=aN.wrap (Tk.id x-Tk.id y):=⟨_,rfl⟩;rw[<-ev]at hcc;have hlv:gU x y=decide (v<0):=by rw[gU,ev]
  simp only[tR]at hcc;by_cases hv:v<0
  .have hp:p h=false:=by rw[ep];simp only;rw[<-ey,hlv];simp[hv]
   rw[aDX hij eh hp]at hbs;have uU:=eQ @hid @i0 @i1 @i2 @i3 @i4 @e0 @e1 (eQ @e2 @e3 @e4 @hij' @hv @ga @gh @ba (zA @bh @hRl));refine cQ ?_;apply zN;refine bS ?_;refine aU ⟨λ ht=>zN ?_⟩;refine mN [.ret v] ?_;refine aU (zs ?_);refine bS ?_;refine aU ⟨λ ht=>zN ?_⟩;refine⟨(i,h,f),⟨hi1,by simp only;omega,by simp only;omega,by simp only;omega,hbs⟩,by simp only;omega,?_⟩;simp only;exact fH
  have hp:p h=true:=by rw[ep];simp only;rw[<-ey,hlv];simp[hv]
  rw[aDW hij eh hp]at hbs;have uU:=eQ @hid @i0 @i1 @i2 @i3 @i4 @e0 @e1 (eQ @e2 @e3 @e4 @hij' @hv @ga @gh @ba (zA @bh @hRl));refine cQ ?_;apply zN;refine bS ?_;refine aU ⟨λ ht=>zN ?_⟩;refine mN [.ret v] ?_;refine aU (zs ?_);refine bS ?_;refine aU ⟨λ ht=>zN ?_⟩;refine⟨(h+1,j,f),⟨by simp only;omega,by simp only;omega,hi3,by simp only;omega,hbs⟩,by simp only;omega,?_⟩;simp only;rw[(oO:((h+1:Nat):Int)=(h:Int)+1)];exact fH
 have hij':¬(i:Int)<(j:Int):=oO;rw[UY hij]at hbs;subst hbs;have uU:=yA @hid @i0 @i1 @i2 @i3 @i4 @hij';refine cQ ?_;apply zN;refine bS ?_;refine aU ⟨λ ht=>zN ?_⟩;refine bE (X:=Nat) rfl [0,1,2,3,4,10,11,12,13,14,15,16,17,18,19,20,21,22,23,24,28,33,50,58,80,85,103,110,140,151,171,185,199,213] k (λ q=>[(17,(m-q:Nat))]) (λ q=>[(id,⟨8,true,(shL fB l m q).map tR⟩)]) (λ q=>q<=(m-i)) (λ q=>(m-i)-q) 0 ?_ (aJ _) ?_;.rw[show shL fB l m 0=l from rfl,<-eR,bFW];refine cQ ?_;apply zN;exact fH
 intro q hq;obtain⟨L,eL⟩:∃L,L=shL fB l m q:=⟨_,rfl⟩;have hL:L.length=N:=by rw[eL,BD,eN]
 have hnx:shL fB l m (q+1)=VT fB L (m-q) (m-q-1):=by rw[shL,eL]
 rw[<-eL];by_cases hlt:q<(m-i)
 .obtain⟨cur,ec⟩:∃c,c=m-q:=⟨_,rfl⟩;obtain⟨nx,en⟩:∃c,c=m-q-1:=⟨_,rfl⟩;rw[<-en,<-ec]at hnx;rw[<-ec];have g1:=rO (L:=L) (i:=cur) oO;have g2:=rO (L:=L) (i:=nx) oO;have hsw:=DW (L:=L) (i:=cur) (j:=nx);have hSl:(L.map tR).length=N:=by rw[bP,hL]
  obtain⟨S,eS⟩:∃S,S=L.map tR:=⟨_,rfl⟩;obtain⟨x,ex⟩:∃x,x=L.getD cur fB:=⟨_,rfl⟩;obtain⟨y,ey⟩:∃y,y=L.getD nx fB:=⟨_,rfl⟩;rw[<-eS,<-ex]at g1;rw[<-eS,<-ey]at g2;rw[<-eS,<-ex,<-ey]at hsw;rw[<-eS]at hSl⊢
  simp only[tR]at g1 g2 hsw;have g3:=JF (p:=cur) g2;have w1:aN.wrap ((cur:Int)-1)=(nx:Int):=by rw[dA oO oO];omega
  have b1:cur<N:=oO;have b2:nx<N:=oO;have hcond:(i:Int)<(cur:Int):=oO;have uU:=eQ @hid @i0 @i1 @i2 @i3 @i4 @w1 @g1 (qQ @g2 @g3 @b1 @b2 @hSl @hcond);refine cQ ?_;apply zN;refine bS ?_;refine aU ⟨λ ht=>zN ?_⟩;refine⟨q+1,oO,oO,?_⟩;rw[hnx,<-hsw,(oO:m-(q+1)=nx)];exact fH
 have hqe:q=(m-i):=oO;have hcond:¬(i:Int)<((m-q:Nat):Int):=oO;have uU:=yA @hid @i0 @i1 @i2 @i3 @i4 @hcond;refine cQ ?_;apply zN;refine bS ?_;refine aU ⟨λ ht=>zN ?_⟩;have uU:=yA @hid @i0 @i1 @i2 @i3 @i4 @hcond;refine IZ (zN ?_);rw[eL,hqe];exact⟨rfl,rfl⟩
theorem a2P(f0:Nat)(l:List Tk)(a m b:Nat)(h1:a+1<m)(h2:m+1<b)(h3:b<=l.length)(h4:b-a<=f0+1)(hl:l.length<=100000)(k id:Nat)(hid:id<k)
 (ih:∀(l:List Tk) (a m b:Nat),a<m->m<b->b<=l.length->b-a<=f0->l.length<=100000->AM.Tr aA Γ 209 k [.sl id 0 l.length,a,m,b,.fn 69 []] [(id,⟨8,true,(l).map tR⟩)] (λ k1 r1 H1=>k1=k/\r1= .tup []/\H1=[(id,⟨8,true,(rP fB gU f0 l a m b).map tR⟩)])):
 AM.Tr aA Γ 209 k [.sl id 0 l.length,a,m,b,.fn 69 []] [(id,⟨8,true,(l).map tR⟩)] (λ k1 r1 H1=>k1=k/\r1= .tup []/\H1=[(id,⟨8,true,(rP fB gU (f0+1) l a m b).map tR⟩)]):=by
 have i0:¬id=k:=oO;have i4:∀q,id<k+q:=λ q=>oO;have i1:∀q,¬id=k+q:=λ q=>oO;have i2:¬k=id:=oO;have i3:∀q,¬k+q=id:=λ q=>oO;obtain⟨N,eN⟩:∃N,N=l.length:=⟨_,rfl⟩;rw[<-eN];obtain⟨mid,emid⟩:∃x,x=(a+b)/2:=⟨_,rfl⟩;obtain⟨n,en⟩:∃x,x=mid+m:=⟨_,rfl⟩;obtain⟨s0,es0⟩:∃x,x=if mid<m then n-b else a:=⟨_,rfl⟩
 obtain⟨r0,er0⟩:∃x,x=if mid<m then mid else m:=⟨_,rfl⟩
 obtain⟨p,ep⟩:∃p:Nat->Bool,p=λ c=> !(gU (l.getD (n-1-c) fB) (l.getD c fB)):=⟨_,rfl⟩;obtain⟨B,eB⟩:∃B,B=CG p (b-a) s0 r0:=⟨_,rfl⟩;obtain⟨en',een⟩:∃x,x=n-B:=⟨_,rfl⟩;obtain⟨l1,el1⟩:∃x,x=if B<m/\m<en' then rot fB l B m en' else l:=⟨_,rfl⟩
 obtain⟨l2,el2⟩:∃x,x=if a<B/\B<mid then rP fB gU f0 l1 a B mid else l1:=⟨_,rfl⟩
 obtain⟨l3,el3⟩:∃x,x=if mid<en'/\en'<b then rP fB gU f0 l2 mid en' b else l2:=⟨_,rfl⟩
 have hres:rP fB gU (f0+1) l a m b=l3:=by rw[rP,if_neg oO,if_neg oO];simp only;rw[<-emid,<-en,<-es0,<-er0,<-ep,<-eB,<-een,<-el1,<-el2,<-el3]
 rw[hres];have hr0:s0<=r0/\r0<=mid/\r0<=m/\a<=s0/\n<=s0+b/\r0-s0<=b-a/\r0<=n:=by rw[es0,er0];split<;>omega
 have hB:=rL (p:=p) (f:=b-a) (i:=s0) (j:=r0) hr0.1;rw[<-eB]at hB
 have hl1:l1.length=N:=by
  rw[el1];split;.rw[(KU oO oO oO).length_eq,eN]
  exact eN.symm
 have hl2:l2.length=N:=by
  rw[el2];split;.rw[(wN oO oO oO).length_eq,hl1]
  exact hl1
 obtain⟨R,eR⟩:∃R,R=l.map tR:=⟨_,rfl⟩;have hRl:R.length=N:=by rw[eR,bP,eN]
 rw[<-eR];have hrot:B<m->m<en'->AM.Tr aA Γ 253 k [.sl id 0 N,B,m,en',.fn 69 []] [(id,⟨8,true,(l).map tR⟩)] (λ k1 r1 H1=>k1=k/\r1= .tup []/\H1=[(id,⟨8,true,(l1).map tR⟩)]):=λ q1 q2=>by have h:=a6S (Γ:=Γ) l B m en' q1 q2 oO hl k id hid;rw[el1,if_pos ⟨q1,q2⟩,eN];exact h
 have hsy1:a<B->B<mid->AM.Tr aA Γ 209 k [.sl id 0 N,a,B,mid,.fn 69 []] [(id,⟨8,true,(l1).map tR⟩)] (λ k1 r1 H1=>k1=k/\r1= .tup []/\H1=[(id,⟨8,true,(l2).map tR⟩)]):=λ q1 q2=>by have h:=ih l1 a B mid q1 q2 oO oO oO;rw[el2,if_pos ⟨q1,q2⟩,<-hl1];exact h
 have hsy2:mid<en'->en'<b->AM.Tr aA Γ 209 k [.sl id 0 N,mid,en',b,.fn 69 []] [(id,⟨8,true,(l2).map tR⟩)] (λ k1 r1 H1=>k1=k/\r1= .tup []/\H1=[(id,⟨8,true,(l3).map tR⟩)]):=λ q1 q2=>by have h:=ih l2 mid en' b q1 q2 oO oO oO;rw[el3,if_pos ⟨q1,q2⟩,<-hl2];exact h
 refine iD Tryz.func209 rfl 220 rfl bB ?_;have wma:aN.wrap ((m:Int)-(a:Int))=((m-a:Nat):Int):=by rw[dA oO oO];omega
 have wbm:aN.wrap ((b:Int)-(m:Int))=((b-m:Nat):Int):=by rw[dA oO oO];omega
 have hne1:¬((m-a:Nat):Int)=1:=oO;have hne2:¬((b-m:Nat):Int)=1:=oO;have e1:bN.wrap ((a:Int)+(b:Int))=(a:Int)+(b:Int):=fF oO oO;have e0:aN.wrap ((a:Int)+(b:Int))=(a:Int)+(b:Int):=wrap_i64 oO oO;have e2:((a:Int)+(b:Int)).fdiv (2^min 1 64)=(mid:Int):=by rw[show(2:Int)^min 1 64=2 from rfl,dL _ oO];omega
 have e3:aN.wrap (mid:Int)=(mid:Int):=wrap_i64 oO oO;have e4:aN.wrap ((mid:Int)+(m:Int))=(n:Int):=by rw[dA oO oO];omega
 have e5:aN.wrap ((n:Int)-1)=((n-1:Nat):Int):=by rw[dA oO oO];omega
 have uU:=eQ @hid @i0 @i1 @i2 @i3 @i4 @wma @wbm (qW @hne1 @hne2 @e0 @e1 @e2 @e3 @e4 @e5);refine cQ ?_;apply zN;refine bY rfl ?_;refine bY rfl ?_;(refine gL rfl [0,1,2,3,4,10,11,12,13,14,15,16,17,18,19,20,21,22,23,24,28,33,50,58,80,85,103,110,140,151,171,185,199,213] rfl rfl (λ K hK=>?_));simp-dsimp-implicitDefEqProofs (disch:=omega)only[go_sem,iN,hid,i0,i1,i2,i3,i4,wma,wbm,hne1,hne2,e0,e1,e2,e3,e4,e5,eq_self,↓reduceIte];(refine hK _ _ _ _ (λ hx=>?_));clear hx hK;simp-dsimp-implicitDefEqProofs (disch:=omega)only[go_sem,iN,hid,i0,i1,i2,i3,i4,wma,wbm,hne1,hne2,e0,e1,e2,e3,e4,e5,eq_self,↓reduceIte];clear K;refine gA rfl _ rfl (λ ht=>?_) (λ ht=>?_);.exact absurd (eq_of_beq ht) hne1
 refine fD rfl ?_;refine cQ ?_;apply zN;refine bY rfl ?_;refine bY rfl ?_;(refine gL rfl [0,1,2,3,4,10,11,12,13,14,15,16,17,18,19,20,21,22,23,24,28,33,50,58,80,85,103,110,140,151,171,185,199,213] rfl rfl (λ K hK=>?_));simp-dsimp-implicitDefEqProofs (disch:=omega)only[go_sem,iN,hid,i0,i1,i2,i3,i4,wma,wbm,hne1,hne2,e0,e1,e2,e3,e4,e5,eq_self,↓reduceIte];(refine hK _ _ _ _ (λ hx=>?_));clear hx hK;simp-dsimp-implicitDefEqProofs (disch:=omega)only[go_sem,iN,hid,i0,i1,i2,i3,i4,wma,wbm,hne1,hne2,e0,e1,e2,e3,e4,e5,eq_self,↓reduceIte];clear K;refine gA rfl _ rfl (λ ht=>?_) (λ ht=>?_);.exact absurd (eq_of_beq ht) hne2
 refine fD rfl ?_;refine cQ ?_;apply zN;refine bY rfl ?_;(refine gL rfl [0,1,2,3,4,10,11,12,13,14,15,16,17,18,19,20,21,22,23,24,28,33,50,58,80,85,103,110,140,151,171,185,199,213] rfl rfl (λ K hK=>?_));simp-dsimp-implicitDefEqProofs (disch:=omega)only[go_sem,iN,hid,i0,i1,i2,i3,i4,wma,wbm,hne1,hne2,e0,e1,e2,e3,e4,e5,eq_self,↓reduceIte];(refine hK _ _ _ _ (λ hx=>?_));clear hx hK;simp-dsimp-implicitDefEqProofs (disch:=omega)only[go_sem,iN,hid,i0,i1,i2,i3,i4,wma,wbm,hne1,hne2,e0,e1,e2,e3,e4,e5,eq_self,↓reduceIte];clear K;refine bY rfl ?_;(refine gL rfl [0,1,2,3,4,10,11,12,13,14,15,16,17,18,19,20,21,22,23,24,28,33,50,58,80,85,103,110,140,151,171,185,199,213] rfl rfl (λ K hK=>?_));simp-dsimp-implicitDefEqProofs (disch:=omega)only[go_sem,iN,hid,i0,i1,i2,i3,i4,wma,wbm,hne1,hne2,e0,e1,e2,e3,e4,e5,eq_self,↓reduceIte];(refine hK _ _ _ _ (λ hx=>?_));clear hx hK;simp-dsimp-implicitDefEqProofs (disch:=omega)only[go_sem,iN,hid,i0,i1,i2,i3,i4,wma,wbm,hne1,hne2,e0,e1,e2,e3,e4,e5,eq_self,↓reduceIte];clear K;refine bY rfl ?_;(refine gL rfl [0,1,2,3,4,10,11,12,13,14,15,16,17,18,19,20,21,22,23,24,28,33,50,58,80,85,103,110,140,151,171,185,199,213] rfl rfl (λ K hK=>?_));simp-dsimp-implicitDefEqProofs (disch:=omega)only[go_sem,iN,hid,i0,i1,i2,i3,i4,wma,wbm,hne1,hne2,e0,e1,e2,e3,e4,e5,eq_self,↓reduceIte];(refine hK _ _ _ _ (λ hx=>?_));clear hx hK;simp-dsimp-implicitDefEqProofs (disch:=omega)only[go_sem,iN,hid,i0,i1,i2,i3,i4,wma,wbm,hne1,hne2,e0,e1,e2,e3,e4,e5,eq_self,↓reduceIte];clear K;refine yU (X:=Unit) rfl [0,1,2,3,4,10,11,12,13,14,15,16,17,18,19,20,21,22,23,24,28,33,50,58,80,85,103,110,140,151,171,185,199,213] k (λ _=>[(20,s0),(21,r0)]) (λ _=>[(id,⟨8,true,R⟩)]) (λ _=>True) ?_ ?_
 .by_cases q1:mid<m
  .have q1':(mid:Int)<(m:Int):=oO;have w1:aN.wrap ((n:Int)-(b:Int))=(s0:Int):=by rw[dA oO oO,es0,if_pos q1];omega
   have w2:mid=r0:=by rw[er0,if_pos q1]
   have uU:=qW @hid @i0 @i1 @i2 @i3 @i4 @q1' @w1;refine cQ ?_;apply zN;have kp:Kp [0,1,2,3,4,10,11,12,13,14,15,16,17,18,19,20,21,22,23,24,28,33,50,58,80,85,103,110,140,151,171,185,199,213] (λ i=>if k<=i then i-k+1 else 0):=vD;refine bS ?_;refine aU ⟨λ ht=>zN ?_⟩;refine⟨(),?_⟩;rw[<-w2];exact fH
  have q1':¬(mid:Int)<(m:Int):=oO;have w1:a=s0:=by rw[es0,if_neg q1]
  have w2:m=r0:=by rw[er0,if_neg q1]
  have uU:=yA @hid @i0 @i1 @i2 @i3 @i4 @q1';refine cQ ?_;apply zN;have kp:Kp [0,1,2,3,4,10,11,12,13,14,15,16,17,18,19,20,21,22,23,24,28,33,50,58,80,85,103,110,140,151,171,185,199,213] (λ i=>if k<=i then i-k+1 else 0):=vD;refine bS ?_;refine aU ⟨λ ht=>zN ?_⟩;refine⟨(),?_⟩;rw[<-w1,<-w2];exact fH
 rintro _ _;have uU:=yA @hid @i0 @i1 @i2 @i3 @i4 @e5;refine cQ ?_;apply zN;have kp:Kp [0,1,2,3,4,10,11,12,13,14,15,16,17,18,19,20,21,22,23,24,28,33,50,58,80,85,103,110,140,151,171,185,199,213] (λ i=>if k<=i then i-k+1 else 0):=vD;refine bS ?_;refine aU (zs ?_);refine bE (X:=Nat×Nat×Nat) rfl [0,1,2,3,4,10,11,12,13,14,15,16,17,18,19,20,21,22,23,24,28,33,50,58,80,85,103,110,140,151,171,185,199,213] k (λ x=>[(20,x.1),(21,x.2.1)]) (λ x=>[(id,⟨8,true,R⟩)]) (λ x=>s0<=x.1/\x.1<=x.2.1/\x.2.1<=r0/\x.2.1-x.1<=x.2.2/\CG p x.2.2 x.1 x.2.1=B) (λ x=>x.2.1-x.1) (s0,r0,b-a) ?_ ⟨by simp only;omega,by simp only;omega,by simp only;omega,by simp only;omega,eB.symm⟩ ?_;.refine cQ ?_;apply zN;exact fH
 rintro⟨i,j,f⟩ ⟨hi1,hi2,hi3,hf,hbs⟩;simp only at hi1 hi2 hi3 hf hbs;simp only;by_cases hij:i<j
 .obtain⟨f,rfl⟩:∃f',f=f'+1:=⟨f-1,oO⟩;have e1:bN.wrap ((i:Int)+(j:Int))=(i:Int)+(j:Int):=fF oO oO;have e0:aN.wrap ((i:Int)+(j:Int))=(i:Int)+(j:Int):=wrap_i64 oO oO;have e2:((i:Int)+(j:Int)).fdiv (2^min 1 64)=(((i+j)/2:Nat):Int):=by rw[show(2:Int)^min 1 64=2 from rfl,dL _ oO];omega
  obtain⟨h,eh⟩:∃h,h=(i+j)/2:=⟨_,rfl⟩;rw[<-eh]at e2;have e3:aN.wrap (h:Int)=(h:Int):=wrap_i64 oO oO;have e4:aN.wrap ((h:Int)+1)=(h:Int)+1:=wrap_i64 oO oO;have hij':(i:Int)<(j:Int):=oO;have wp:aN.wrap (((n-1:Nat):Int)-(h:Int))=((n-1-h:Nat):Int):=by rw[dA oO oO];omega
  obtain⟨g,eg⟩:∃g,g=n-1-h:=⟨_,rfl⟩;rw[<-eg]at wp;have gh:=rO (L:=l) (i:=h) oO;obtain⟨y,ey⟩:∃y,y=l.getD h fB:=⟨_,rfl⟩;rw[<-eR,<-ey]at gh;have gg:=rO (L:=l) (i:=g) oO;obtain⟨x,ex⟩:∃x,x=l.getD g fB:=⟨_,rfl⟩;rw[<-eR,<-ex]at gg;simp only[tR]at gh gg;have bh:h<N:=oO;have bg:g<N:=oO;have hcc:=aHG (Γ:=Γ) x y;obtain⟨v,ev⟩:∃v,v=aN.wrap (Tk.id x-Tk.id y):=⟨_,rfl⟩;rw[<-ev]at hcc;have hlv:gU x y=decide (v<0):=by rw[gU,ev]
  simp only[tR]at hcc;by_cases hv:v<0
  .have hp:p h=false:=by rw[ep];simp only;rw[<-eg,<-ey,<-ex,hlv];simp[hv]
   rw[aDX hij eh hp]at hbs;have uU:=eQ @hid @i0 @i1 @i2 @i3 @i4 @e0 @e1 (eQ @e2 @e3 @e4 @hij' @hv @wp @gh @gg (AW @bh @bg @hRl));refine cQ ?_;apply zN;refine bS ?_;refine aU ⟨λ ht=>zN ?_⟩;refine mN [.ret v] ?_;refine aU (zs ?_);refine bS ?_;refine aU ⟨λ ht=>zN ?_⟩;refine⟨(i,h,f),⟨hi1,by simp only;omega,by simp only;omega,by simp only;omega,hbs⟩,by simp only;omega,?_⟩;simp only;exact fH
  have hp:p h=true:=by rw[ep];simp only;rw[<-eg,<-ey,<-ex,hlv];simp[hv]
  rw[aDW hij eh hp]at hbs;have uU:=eQ @hid @i0 @i1 @i2 @i3 @i4 @e0 @e1 (eQ @e2 @e3 @e4 @hij' @hv @wp @gh @gg (AW @bh @bg @hRl));refine cQ ?_;apply zN;refine bS ?_;refine aU ⟨λ ht=>zN ?_⟩;refine mN [.ret v] ?_;refine aU (zs ?_);refine bS ?_;refine aU ⟨λ ht=>zN ?_⟩;refine⟨(h+1,j,f),⟨by simp only;omega,by simp only;omega,hi3,by simp only;omega,hbs⟩,by simp only;omega,?_⟩;simp only;rw[(oO:((h+1:Nat):Int)=(h:Int)+1)];exact fH
 have hij':¬(i:Int)<(j:Int):=oO;rw[UY hij]at hbs;have wen:aN.wrap ((n:Int)-(B:Int))=(en':Int):=by rw[dA oO oO];omega
 rw[hbs];have uU:=yA @hid @i0 @i1 @i2 @i3 @i4 @wen;refine cQ ?_;apply zN;refine bY rfl ?_;refine bY rfl ?_;(refine gL rfl [0,1,2,3,4,10,11,12,13,14,15,16,17,18,19,20,21,22,23,24,28,33,50,58,80,85,103,110,140,151,171,185,199,213] rfl rfl (λ K hK=>?_));simp-dsimp-implicitDefEqProofs (disch:=omega)only[go_sem,iN,hid,i0,i1,i2,i3,i4,wen,eq_self,↓reduceIte];(refine hK _ _ _ _ (λ hx=>?_));clear hx hK;simp-dsimp-implicitDefEqProofs (disch:=omega)only[go_sem,iN,hid,i0,i1,i2,i3,i4,wen,eq_self,↓reduceIte];clear K;refine gA rfl _ rfl (λ ht=>?_) (λ ht=>?_);.simp only[dTt]at ht;omega
 refine jU rfl ?_;refine cQ ?_;apply zN;refine bY rfl ?_;(refine gL rfl [0,1,2,3,4,10,11,12,13,14,15,16,17,18,19,20,21,22,23,24,28,33,50,58,80,85,103,110,140,151,171,185,199,213] rfl rfl (λ K hK=>?_));simp-dsimp-implicitDefEqProofs (disch:=omega)only[go_sem,iN,hid,i0,i1,i2,i3,i4,wen,eq_self,↓reduceIte];(refine hK _ _ _ _ (λ hx=>?_));clear hx hK;simp-dsimp-implicitDefEqProofs (disch:=omega)only[go_sem,iN,hid,i0,i1,i2,i3,i4,wen,eq_self,↓reduceIte];clear K;refine yU (X:=Unit) rfl [0,1,2,3,4,10,11,12,13,14,15,16,17,18,19,20,21,22,23,24,28,33,50,58,80,85,103,110,140,151,171,185,199,213] k (λ _=>[]) (λ _=>[(id,⟨8,true,l1.map tR⟩)]) (λ _=>True) ?_ ?_
 .by_cases q1:B<m
  .have q1':(B:Int)<(m:Int):=oO;by_cases q2:m<en';.have q2':(m:Int)<(en':Int):=oO;have hT:=hrot q1 q2;rw[<-eR]at hT;have uU:=qW @hid @i0 @i1 @i2 @i3 @i4 @q1' @q2';refine cQ ?_;apply zN;refine bS ?_;refine aU ⟨λ ht=>zN ?_⟩;refine lU [.gen (.tup []) k [(id,⟨8,true,R⟩)] [(id,⟨8,true,l1.map tR⟩)]] ?_;refine aU (zs ?_);refine⟨(),?_⟩;exact fH
   have q2':¬(m:Int)<(en':Int):=oO;have e:l1=l:=by rw[el1];exact if_neg λ h=>q2 h.2
   have uU:=qW @hid @i0 @i1 @i2 @i3 @i4 @q1' @q2';refine cQ ?_;apply zN;refine bS ?_;refine aU ⟨λ ht=>zN ?_⟩;refine⟨(),?_⟩;rw[e,<-eR];exact fH
  have q1':¬(B:Int)<(m:Int):=oO;have e:l1=l:=by rw[el1];exact if_neg λ h=>q1 h.1
  have uU:=yA @hid @i0 @i1 @i2 @i3 @i4 @q1';refine cQ ?_;apply zN;refine bS ?_;refine aU ⟨λ ht=>zN ?_⟩;refine⟨(),?_⟩;rw[e,<-eR];exact fH
 rintro _ _;refine yU (X:=Unit) rfl [0,1,2,3,4,10,11,12,13,14,15,16,17,18,19,20,21,22,23,24,28,33,50,58,80,85,103,110,140,151,171,185,199,213] k (λ _=>[]) (λ _=>[(id,⟨8,true,l2.map tR⟩)]) (λ _=>True) ?_ ?_
 .by_cases q1:a<B
  .have q1':(a:Int)<(B:Int):=oO;by_cases q2:B<mid
   .have q2':(B:Int)<(mid:Int):=oO;have hT:=hsy1 q1 q2;skip
    have uU:=qW @hid @i0 @i1 @i2 @i3 @i4 @q1' @q2';refine cQ ?_;apply zN;refine bS ?_;refine aU ⟨λ ht=>zN ?_⟩;refine lU [.gen (.tup []) k [(id,⟨8,true,l1.map tR⟩)] [(id,⟨8,true,l2.map tR⟩)]] ?_;refine aU (zs ?_);refine⟨(),?_⟩;exact fH
   have q2':¬(B:Int)<(mid:Int):=oO;have e:l2=l1:=by rw[el2];exact if_neg λ h=>q2 h.2
   have uU:=qW @hid @i0 @i1 @i2 @i3 @i4 @q1' @q2';refine cQ ?_;apply zN;refine bS ?_;refine aU ⟨λ ht=>zN ?_⟩;refine⟨(),?_⟩;rw[e];exact fH
  have q1':¬(a:Int)<(B:Int):=oO;have e:l2=l1:=by rw[el2];exact if_neg λ h=>q1 h.1
  have uU:=yA @hid @i0 @i1 @i2 @i3 @i4 @q1';refine cQ ?_;apply zN;refine bS ?_;refine aU ⟨λ ht=>zN ?_⟩;refine⟨(),?_⟩;rw[e];exact fH
 rintro _ _;by_cases q1:mid<en'
 .have q1':(mid:Int)<(en':Int):=oO;by_cases q2:en'<b
  .have q2':(en':Int)<(b:Int):=oO;have hT:=hsy2 q1 q2;skip
   have uU:=qW @hid @i0 @i1 @i2 @i3 @i4 @q1' @q2';refine cQ ?_;apply zN;refine bS ?_;refine aU ⟨λ ht=>zN ?_⟩;refine lU [.gen (.tup []) k [(id,⟨8,true,l2.map tR⟩)] [(id,⟨8,true,l3.map tR⟩)]] ?_;refine aU (zs ?_);exact⟨_,rfl,rfl⟩
  have q2':¬(en':Int)<(b:Int):=oO;have e:l3=l2:=by rw[el3];exact if_neg λ h=>q2 h.2
  have uU:=qW @hid @i0 @i1 @i2 @i3 @i4 @q1' @q2';refine cQ ?_;apply zN;refine bS ?_;refine aU ⟨λ ht=>zN ?_⟩;refine⟨_,rfl,rfl,?_⟩;rw[e];skip
 have q1':¬(mid:Int)<(en':Int):=oO;have e:l3=l2:=by rw[el3];exact if_neg λ h=>q1 h.1
 have uU:=yA @hid @i0 @i1 @i2 @i3 @i4 @q1';refine cQ ?_;apply zN;refine bS ?_;refine aU ⟨λ ht=>zN ?_⟩;refine⟨_,rfl,rfl,?_⟩;rw[e];skip
theorem aAR(k id:Nat)(hid:id<k):∀(f:Nat) (l:List Tk) (a m b:Nat),a<m->m<b->b<=l.length->b-a<=f->l.length<=100000→
 AM.Tr aA Γ 209 k [.sl id 0 l.length,a,m,b,.fn 69 []] [(id,⟨8,true,l.map tR⟩)]
  (λ k1 r1 H1=>k1=k/\r1= .tup []/\H1=[(id,⟨8,true,(rP fB gU f l a m b).map tR⟩)])
 |0,l,a,m,b,h1,h2,h3,h4,hl=>oO
 |f+1,l,a,m,b,h1,h2,h3,h4,hl=>by
  by_cases hA:m=a+1;.have h:=a2R (Γ:=Γ) l a m b hA h2 h3 hl k id hid;rw[rP,if_pos oO];exact h
  by_cases hB:b=m+1;.have h:=a2Q (Γ:=Γ) l a m b oO hB h3 hl k id hid;rw[rP,if_neg oO,if_pos oO];exact h
  exact a2P f l a m b oO oO h3 h4 hl k id hid λ l a m b h1 h2 h3 h4 hl=>aAR k id hid f l a m b h1 h2 h3 h4 hl
theorem aRC{l:List Tk}{a b:Nat}(h:b<=l.length):(CY fB gU l a b).length=l.length:=(xD h).length_eq
theorem aZS{l:List Tk}{q:Nat}(h:20*q<=l.length):(blk fB gU l q).length=l.length:=(NN h).length_eq
theorem aWO{l:List Tk}{s q:Nat}(hs:0<s)(h:2*s*q<=l.length):(VV fB gU s l q).length=l.length:=(LF hs h).length_eq
theorem aPB{l:List Tk}{s:Nat}(hs:0<s):(OM fB gU s l).length=l.length:=(QC hs).length_eq
theorem a2T(l:List Tk)(hl:l.length<=100000)(k id:Nat)(hid:id<k):
 AM.Tr aA Γ 127 k [.sl id 0 l.length,l.length,.fn 69 []] [(id,⟨8,true,l.map tR⟩)]
  (λ k1 r1 H1=>k1=k/\r1= .tup []/\H1=[(id,⟨8,true,(GE fB gU l).map tR⟩)]):=by
 have i0:¬id=k:=oO;have i4:∀q,id<k+q:=λ q=>oO;have i1:∀q,¬id=k+q:=λ q=>oO;have i2:¬k=id:=oO;have i3:∀q,¬k+q=id:=λ q=>oO;obtain⟨N,eN⟩:∃N,N=l.length:=⟨_,rfl⟩;rw[<-eN];refine iD Tryz.func127 rfl 63 rfl bB ?_;have kp:Kp [0,1,2,6,7,8,9,13,30,35,54] (λ i=>if k<=i then i-k+1 else 0):=vD;have uU:=qQ @hid @i0 @i1 @i2 @i3 @i4;refine bS ?_;refine aU (zs ?_);refine bE (X:=Nat) rfl [0,1,2,6,7,8,9,13,30,35,54] k (λ q=>[(7,(20*q:Nat)),(8,(20*(q+1):Nat))]) (λ q=>[(id,⟨8,true,(blk fB gU l q).map tR⟩)]) (λ q=>20*q<=N) (λ q=>N-20*q) 0 ?_ (aJ _) ?_;.rw[show blk fB gU l 0=l from rfl,show((20*0:Nat):Int)=0 from rfl,show((20*(0+1):Nat):Int)=20 from rfl];refine cQ ?_;apply zN;exact fH
 intro q hq;obtain⟨L,eL⟩:∃L,L=blk fB gU l q:=⟨_,rfl⟩;have hL:L.length=N:=by rw[eL,aZS oO,eN]
 have hnx:blk fB gU l (q+1)=CY fB gU L (20*q) (20*(q+1)):=by rw[blk,eL,Nat.mul_succ]
 rw[<-eL];obtain⟨A,eA⟩:∃A,A=20*q:=⟨_,rfl⟩;obtain⟨B,eB⟩:∃B,B=20*(q+1):=⟨_,rfl⟩;rw[<-eB,<-eA]at hnx;rw[<-eB,<-eA];by_cases hlt:B<=N
 .have hlt':(B:Int)<=(N:Int):=oO;have hT:=aRB (Γ:=Γ) L A B oO oO oO k id hid;rw[hL]at hT;obtain⟨C,eC⟩:∃C,C=B+20:=⟨_,rfl⟩;have wB:aN.wrap ((B:Int)+20)=(C:Int):=by rw[dA oO oO];omega
  have uU:=qW @hid @i0 @i1 @i2 @i3 @i4 @hlt' @wB;refine cQ ?_;apply zN;refine bS ?_;refine aU ⟨λ ht=>zN ?_⟩;refine lU [.gen (.tup []) k [(id,⟨8,true,L.map tR⟩)] [(id,⟨8,true,(CY fB gU L A B).map tR⟩)]] ?_;refine aU (zs ?_);refine bS ?_;refine aU (zs ?_);refine⟨q+1,oO,oO,?_⟩;rw[hnx,(oO:20*(q+1+1)=C),<-eB];exact fH
 have hlt':¬(B:Int)<=(N:Int):=oO;have hq20:q=N/20:=oO;have hT:=aRB (Γ:=Γ) L A N oO oO oO k id hid;rw[hL]at hT;obtain⟨L0,eL0⟩:∃L0,L0=CY fB gU L A N:=⟨_,rfl⟩;have hL0:L0.length=N:=by rw[eL0,aRC oO,hL]
 rw[<-eL0]at hT;have hst:GE fB gU l=wU fB gU N 20 L0:=by rw[GE,<-eN,<-hq20,<-eL,<-eA,eL0]
 rw[hst];have uU:=yA @hid @i0 @i1 @i2 @i3 @i4 @hlt';refine cQ ?_;apply zN;refine bS ?_;refine aU ⟨λ ht=>zN ?_⟩;refine lU [.gen (.tup []) k [(id,⟨8,true,L.map tR⟩)] [(id,⟨8,true,L0.map tR⟩)]] ?_;refine aU (zs ?_);refine bS ?_;refine aU (zs ?_);refine bE (X:=Nat×Nat×List Tk×Int×Int) rfl [0,1,2,6,7,8,9,13,30,35,54] k (λ x=>[(6,x.1),(7,x.2.2.2.1),(8,x.2.2.2.2)]) (λ x=>[(id,⟨8,true,x.2.2.1.map tR⟩)]) (λ x=>x.2.2.1.length=N/\0<x.1/\N<=x.1+x.2.1/\wU fB gU x.2.1 x.1 x.2.2.1=wU fB gU N 20 L0) (λ x=>x.2.1) (20,N,L0,(A:Int),(B:Int)) ?_ ⟨hL0,by simp only;omega,by simp only;omega,rfl⟩ ?_;.refine cQ ?_;apply zN;exact fH
 rintro⟨s,f,M,o7,o8⟩ ⟨hM,hs,hf,hps⟩;simp only at hM hs hf hps;simp only;by_cases hsN:s<N
 .obtain⟨f,rfl⟩:∃f',f=f'+1:=⟨f-1,oO⟩;rw[wU,if_pos (by rw[hM];exact hsN)]at hps;obtain⟨P,eP⟩:∃P,P=OM fB gU s M:=⟨_,rfl⟩;have hP:P.length=N:=by rw[eP,aPB hs,hM]
  obtain⟨d,ed⟩:∃d,d=2*s:=⟨_,rfl⟩;rw[<-eP,<-ed]at hps;have hsN':(s:Int)<(N:Int):=oO;have w2:aN.wrap (2*(s:Int))=(d:Int):=by rw[dA oO oO];omega
  have w3:aN.wrap ((s:Int)*2)=(d:Int):=by rw[dA oO oO];omega
  have uU:=eQ @hid @i0 @i1 @i2 @i3 @i4 @hsN' @w2 @w3;refine cQ ?_;apply zN;refine bS ?_;refine aU ⟨λ ht=>zN ?_⟩;refine bE (X:=Nat) rfl [0,1,2,6,7,8,9,13,30,35,54] k (λ q=>[(7,(d*q:Nat)),(8,(d*(q+1):Nat))]) (λ q=>[(id,⟨8,true,(VV fB gU s M q).map tR⟩)]) (λ q=>d*q<=N) (λ q=>N-d*q) 0 ?_ (aJ _) ?_;.rw[show VV fB gU s M 0=M from rfl,Nat.mul_zero,dV,bAM];refine cQ ?_;apply zN;exact fH
  clear hnx eL hL;intro q hq;obtain⟨L,eL⟩:∃L,L=VV fB gU s M q:=⟨_,rfl⟩;have hL:L.length=N:=by rw[eL,aWO hs (by rw[<-ed,hM];exact hq),hM]
  have hnx:VV fB gU s M (q+1)=rP fB gU N L (d*q) (d*q+s) (d*q+d):=by rw[VV,<-eL,hM,ed]
  obtain⟨A,eA⟩:∃A,A=d*q:=⟨_,rfl⟩;have hmul:d*(q+1)=A+d:=by rw[Nat.mul_succ,eA]
  rw[<-eA]at hnx hq;rw[hmul,<-eA,<-eL];obtain⟨B,eB⟩:∃B,B=A+d:=⟨_,rfl⟩;obtain⟨C,eC⟩:∃C,C=A+s:=⟨_,rfl⟩;rw[<-eB]at hnx hmul;rw[<-eC]at hnx;rw[<-eB];have wC:aN.wrap ((A:Int)+(s:Int))=(C:Int):=by rw[dA oO oO];omega
  by_cases hb:B<=N
  .have hb':(B:Int)<=(N:Int):=oO;have hT:=aAR (Γ:=Γ) k id hid N L A C B oO oO oO oO oO;rw[hL]at hT;obtain⟨D,eD⟩:∃D,D=B+d:=⟨_,rfl⟩;have hmul2:d*(q+1+1)=D:=by rw[Nat.mul_succ,hmul,eD]
   have wD:aN.wrap ((B:Int)+(d:Int))=(D:Int):=by rw[dA oO oO];omega
   have uU:=eQ @hid @i0 @i1 @i2 @i3 @i4 @hb' @w2 (AW @w3 @wC @wD);refine cQ ?_;apply zN;refine bS ?_;refine aU ⟨λ ht=>zN ?_⟩;refine lU [.gen (.tup []) k [(id,⟨8,true,L.map tR⟩)] [(id,⟨8,true,(rP fB gU N L A C B).map tR⟩)]] ?_;refine aU (zs ?_);refine bS ?_;refine aU (zs ?_);refine⟨q+1,by rw[hmul];omega,by rw[hmul];omega,?_⟩;rw[hnx,hmul2,hmul];exact fH
  have hb':¬(B:Int)<=(N:Int):=oO;have hqd:q=N/d:=(Nat.div_eq_of_lt_le (by rw[jW,<-eA];exact hq) (by rw[jW,hmul];omega)).symm;have hpass:P=if C<N then rP fB gU N L A C N else L:=by rw[eP,OM,hM,<-ed,<-hqd,<-eA,<-eC,<-eL]
  by_cases hc:C<N;.have hc':(C:Int)<(N:Int):=oO;have hT:=aAR (Γ:=Γ) k id hid N L A C N oO oO oO oO oO;rw[if_pos hc]at hpass;rw[<-hpass,hL]at hT;have uU:=eQ @hid @i0 @i1 @i2 @i3 @i4 @hb' @w2 (AW @w3 @wC @hc');refine cQ ?_;apply zN;refine bS ?_;refine aU ⟨λ ht ht=>zN ?_⟩;refine lU [.gen (.tup []) k [(id,⟨8,true,L.map tR⟩)] [(id,⟨8,true,P.map tR⟩)]] ?_;refine aU (zs ?_);refine bS ?_;refine aU (zs ?_);refine⟨(d,f,P,(A:Int),(B:Int)),⟨hP,by simp only;omega,by simp only;omega,hps⟩,by simp only;omega,?_⟩;simp only;exact fH
  have hc':¬(C:Int)<(N:Int):=oO;rw[if_neg hc]at hpass;have uU:=eQ @hid @i0 @i1 @i2 @i3 @i4 @hb' @w2 (AW @w3 @wC @hc');refine cQ ?_;apply zN;refine bS ?_;refine aU ⟨λ ht ht=>zN ?_⟩;refine⟨(d,f,P,(A:Int),(B:Int)),⟨hP,by simp only;omega,by simp only;omega,hps⟩,by simp only;omega,?_⟩;simp only;rw[hpass];exact fH
 have hsN':¬(s:Int)<(N:Int):=oO
 have hM':M=wU fB gU N 20 L0:=by
  rw[<-hps]
  cases f with
  |zero=>rfl
  |succ f=>rw[wU,if_neg (by rw[hM];exact hsN)]
 have uU:=yA @hid @i0 @i1 @i2 @i3 @i4 @hsN';refine cQ ?_;apply zN;refine bS ?_;refine aU ⟨λ ht=>zN ?_⟩;refine⟨_,rfl,rfl,?_⟩;rw[hM']
theorem SP(l:List Tk)(hl:l.length<=100000)(k id:Nat)(hid:id<k):
 AM.Tr aA Γ 68 k [.sl id 0 l.length,.fn 69 []] [(id,⟨8,true,l.map tR⟩)]
  (λ k1 r1 H1=>k1=k/\r1= .tup []/\H1=[(id,⟨8,true,(GE fB gU l).map tR⟩)]):=by
 have i0:¬id=k:=oO;have i4:∀q,id<k+q:=λ q=>oO;have i1:∀q,¬id=k+q:=λ q=>oO;have i2:¬k=id:=oO;have i3:∀q,¬k+q=id:=λ q=>oO;have hT:=a2T (Γ:=Γ) l hl k id hid;obtain⟨N,eN⟩:∃N,N=l.length:=⟨_,rfl⟩;rw[<-eN]at hT⊢
 refine iD Tryz.func68 rfl 9 rfl bB ?_;have kp:=fI k [0,1];have uU:=qQ @hid @i0 @i1 @i2 @i3 @i4;refine bS ?_;refine aU (zs ?_);refine lU [.gen (.tup []) k [(id,⟨8,true,l.map tR⟩)] [(id,⟨8,true,(GE fB gU l).map tR⟩)]] ?_;refine aU (zs ?_);exact⟨_,rfl,rfl⟩
end Go.Proofs.T
end
section
namespace Go.Proofs.T
open Go Go.AM Go.Proofs
def pA(s:St):LSt:=⟨s.cpus,s.credit,(aM s.ng).map λ g=>(s.par g,s.wt g),(aM s.nk).map s.clk,(aM s.nu).map s.cur,(aM s.nt).map s.tsk,(aM s.ns).map λ g=>(aM (s.nsp g)).map (s.sp g)⟩
theorem iY{α:Type}{n i:Nat}{f:Nat->α}{d:α}(h:i<n):((aM n).map f).getD i d=f i:=by simp[bD,h]
theorem aMY(s:St):VLe (.agg s.cells) (.agg (pA s).st.cells):=by
 have e1:(pA s).st.ng=s.ng:=by simp[pA,LSt.st]
 have e2:(pA s).st.nk=s.nk:=by simp[pA,LSt.st]
 have e3:(pA s).st.nu=s.nu:=by simp[pA,LSt.st]
 have e4:(pA s).st.nt=s.nt:=by simp[pA,LSt.st]
 have e5:(pA s).st.ns=s.ns:=by simp[pA,LSt.st]
 refine oA (.cons (aK _) (.cons (aK _) (.cons ?_ (.cons ?_ (.cons ?_ (.cons ?_ (.cons ?_ .nil)))))));.rw[e1];refine VLe.rd λ i hi=>?_;simp only[gf,pA,LSt.st];rw[iY hi]
 .rw[e2];refine VLe.rd λ i hi=>?_;simp only[kf,pA,LSt.st];rw[iY hi]
 .rw[e3];refine VLe.rd λ i hi=>?_;simp only[uf,pA,LSt.st];rw[iY hi]
 .rw[e4];refine VLe.rd λ i hi=>?_;simp only[tf,pA,LSt.st];rw[iY hi]
 rw[e5];refine VLe.rds λ i hi=> .cons ?_ .nil;have e6:(pA s).st.nsp i=s.nsp i:=by show(((pA s).sl.getD i []).length)=_;simp only[pA];rw[iY hi];simp
 rw[e6];refine VLe.rd λ c hc=>?_;have e7:(pA s).st.sp i c=s.sp i c:=by show((pA s).sl.getD i []).getD c default=_;simp only[pA];rw[iY hi,iY hc]
 simp only[sf,e7]
def TkR(t:Tk):Prop:=0<=t.mask/\t.mask<18446744073709551616/\0<=t.v/\t.v<=18446744073709551615/\0<=t.r
def SpR(x:Sp):Prop:=0<=x.v/\x.v<=18446744073709551615/\0<=x.r/\0<=x.floor/\x.floor<=18446744073709551615
structure PreW (s:St):Prop where
 sm:s.Small
 nt:s.nt<=200
 ns:s.ns<=12
 p1:∀g,g<s.ns->s.nsp g<=12
 c0:0<=s.credit
 k:Kinds s
 tv:∀i,0<=(s.tsk i).v
 f0:∀g c,0<=(s.sp g c).floor
 f1:∀g c,(s.sp g c).floor<=18446744073709551615
theorem PreW.pre {s:St}(h:PreW s):PreOk s:=⟨h.sm,h.ns,h.p1⟩
theorem PreW.tkr {s:St}(h:PreW s)(i:Nat):TkR (s.tsk i):=⟨h.k.wf.mask0 i,h.k.wf.mask1 i,h.tv i,h.k.wf.tv i,h.k.wf.tr i⟩
theorem PreW.spr {s:St}(h:PreW s)(g c:Nat):SpR (s.sp g c):=⟨h.k.v0 g c,h.k.wf.sv g c,h.k.wf.sr g c,h.f0 g c,h.f1 g c⟩
theorem VQ {s':St}(sm:s'.Small)(e4:s'.nt<=200)(e5:s'.ns<=12)(e6:∀g,g<s'.ns->s'.nsp g<=12)(e7:0<=s'.credit)(ht:∀i,TkR (s'.tsk i))(hs:∀g c,SpR (s'.sp g c)):PreW s':=
 ⟨sm,e4,e5,e6,e7,⟨⟨λ i=>(ht i).1,λ i=>(ht i).2.1,λ i=>(ht i).2.2.2.1,λ i=>(ht i).2.2.2.2,λ g c=>(hs g c).2.1,λ g c=>(hs g c).2.2.1⟩,λ g c=>(hs g c).1⟩,λ i=>(ht i).2.2.1,λ g c=>(hs g c).2.2.2.1,λ g c=>(hs g c).2.2.2.2⟩
end Go.Proofs.T
end
section
namespace Go.Proofs.T
open Go Go.AM Go.Proofs
variable{Γ:List (Nat×List AVal)}
attribute [local irreducible] gK del
attribute [local go_sem] tR
def IG(t:Nat->Tk)(n:Nat)(x:Int):Option Nat:=f0 (λ j=>(t j).id==x) n
def GY(t:Nat->Tk)(n:Nat)(x:Int):Tk:=match IG t n x with|none=>zT|some j=>t j
theorem YL{t:Nat->Tk}{n:Nat}{x:Int}(h:∀j,j<n->(t j).id≠x):IG t n x=none:=by
 unfold IG
 induction n with
 |zero=>rfl
 |succ n ih=>rw[f0,ih (λ j hj=>h j oO)];simp only;rw[if_neg (by simpa using h n oO)]
theorem aRQ{t:Nat->Tk}{n:Nat}{x:Int}{i:Nat}(hi:i<n)(h:∀j,j<i->(t j).id≠x)(he:(t i).id=x):IG t n x=some i:=by
 unfold IG
 induction n with
 |zero=>omega
 |succ n ih=>
  rw[f0];by_cases hin:i=n;.subst hin;have:f0 (λ j=>(t j).id==x) i=none:=YL h;rw[this];simp[he]
  rw[ih oO]
theorem aGT{t:Nat->Tk}{n:Nat}{x:Int}:(IG t n x).isSome=jI (λ j=>(t j).id==x) n:=by
 unfold IG
 induction n with
 |zero=>rfl
 |succ n ih=>
  rw[f0,jI,<-ih]
  cases f0 (λ j=>(t j).id==x) n with
  |some j=>rfl
  |none=>simp only[lA,FW];split<;>simp_all
theorem AJ(n:Nat)(hn:n<=100000)(t:Nat->Tk)(x:Int):AM.Pure aA Γ 50 [.rd 8 n (λ i=>tR (t i)),x] (.tup [.agg (tR (GY t n x)),.lit (.bool (IG t n x).isSome)]):=by
 refine aZ Tryz.func50 rfl 25 rfl bB rfl λ k=>?_;have kp:=fI k [0,1,4,5,6,10,19];refine wl ?_;refine aU (zs ?_);refine bE (X:=Nat) rfl [0,1,4,5,6,10,19] (k+1) (λ i=>[(6,i)]) (λ i=>[(k,⟨8,true,[[(0:Int),(0:Int),(0:Int),(0:Int),.lit (.int .u64 0),false,.lit (.int .u64 0),.lit (.int .u32 0)]]⟩)]) (λ i=>i<=n/\∀j,j<i->(t j).id≠x) (λ i=>n-i) 0 ?_ ⟨aJ _,λ j hj=>absurd hj (bJ _)⟩ ?_;.refine rR ?_;apply zN;exact fW
 rintro i ⟨hi,hall⟩;refine rR ?_;apply zN;refine wl ?_;refine wM ⟨λ ht ht=>zN ?_⟩ ⟨λ ht ht=>zN ?_⟩ ⟨λ ht=>zN ?_⟩;.refine cR (zN ?_);have h:=aRQ (t:=t) (n:=n) (x:=x) oO hall (by assumption);rw[GY,h];exact aK _
 .refine⟨i+1,⟨oO,λ j hj=>?_⟩,oO,?_⟩
  .by_cases he:j=i;.subst he;assumption
   exact hall j oO
  exact fW
 have hin:i=n:=oO;subst hin;refine cR (zN ?_);rw[GY,YL hall];exact aK _
end Go.Proofs.T
end
