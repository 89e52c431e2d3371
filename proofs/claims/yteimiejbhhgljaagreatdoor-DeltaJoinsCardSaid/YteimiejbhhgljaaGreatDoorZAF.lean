import Derived.Test.YteimiejbhhgljaaGreatDoorZAE
import Derived.ChangeArms
import Derived.DataReads
import Derived.Carry
import Derived.ProofKit
import Derived.LaidMore
import Derived.OpenShut
import Derived.Stop.Joined
import Derived.Lib.LaidTab
set_option linter.unusedVariables false
set_option linter.unusedSimpArgs false
set_option maxHeartbeats 0
set_option maxRecDepth 100000
open Array renaming ext->aIG,getD_eq_getD_getElem?->aI,getElem?_eq_getElem->aQ,getElem?_eq_none->iD,getElem?_toList->bF
open Bool renaming and_eq_true->aH,and_true->iC,false->aE,false_eq_true->aS,false_or->AE,true->aB,true_or->AD
open List renaming all_cons->fU,all_eq_true->aW,all_nil->AA,getD->oH,getD_eq_getElem?_getD->aR,getElem?_append_left->gP,getElem?_append_right->iK,getElem?_eq_getElem->aJ,getElem?_eq_some_iff->aK,getElem_mem->JR,length_append->bM,length_map->cX,map->rS,map_append->aM,map_cons->bI,map_map->jM,map_nil->bQ,map_toArray->yH,mem_map->dB,mem_range->dK,range->aN,replicate->bE
open Nat renaming add_assoc->gD,add_sub_cancel->a4V,add_sub_cancel_left->lE,le_refl->aF,lt_of_lt_of_le->oD,mul_one->HW,sub_self->RX,zero_add->fH,zero_mul->qW
open Option renaming bind_eq_some_iff->cE,bind_some->bNV,getD_some->aLU,isSome_iff_exists->fS,isSome_none->rQ,map_eq_none_iff->dO,map_eq_some_iff->aG,none->aC,some->aA
open Go.Result renaming andThen_ok->bG
open Go.Sem renaming run_bind->bN,run_pure->dE
section
namespace Go.Proofs.T
open Go Go.AM Go.Proofs
variable{Γ:dL}
instance:Inhabited Tk:=⟨⟨0,0,0,0,0,aE,0,0⟩⟩
instance:Inhabited Sp:=⟨⟨0,0,0⟩⟩
structure LSt where
 cpus:Int
 credit:Int
 gl:List (Int×Int)
 kl:List Int
 ul:List Int
 tl:List Tk
 sl:List (List Sp)
def LSt.st (L:LSt):St:=⟨L.cpus,L.credit,L.gl.length,λ i=>(L.gl.getD i (0,0)).1,λ i=>(L.gl.getD i (0,0)).2,L.kl.length,λ i=>L.kl.getD i 0,L.ul.length,λ i=>L.ul.getD i 0,L.tl.length,λ i=>L.tl.getD i default,
 L.sl.length,λ g=>(L.sl.getD g []).length,λ g c=>(L.sl.getD g []).getD c default⟩
def LSt.sp (L:LSt)(g c:Nat):Sp:=(L.sl.getD g []).getD c default
def LSt.par (L:LSt)(g:Nat):Int:=(L.gl.getD g (0,0)).1
def LSt.wt (L:LSt)(g:Nat):Int:=(L.gl.getD g (0,0)).2
def LSt.tsk (L:LSt)(i:Nat):Tk:=L.tl.getD i default
def LSt.clk (L:LSt)(c:Nat):Int:=L.kl.getD c 0
def LSt.cur (L:LSt)(c:Nat):Int:=L.ul.getD c 0
def tkc(k:Tk):List AVal:=[.lit (.int .i64 k.id),.lit (.int .i64 k.group),.lit (.int .i64 k.weight),.lit (.int .i64 k.cpu),.lit (.int .u64 k.mask),.lit (.bool k.ready),.lit (.int .u64 k.v),.lit (.int .u32 k.r)]
def spc(k:Sp):List AVal:=[.lit (.int .u64 k.v),.lit (.int .u32 k.r),.lit (.int .u64 k.floor)]
def glc(g:Int×Int):List AVal:=[.lit (.int .i64 g.1),.lit (.int .i64 g.2)]
def inc(n:Int):List AVal:=[.lit (.int .i64 n)]
def QT(L:LSt):List (List AVal):=L.gl.map glc
def RG(L:LSt):List (List AVal):=L.kl.map inc
def KW(L:LSt):List (List AVal):=L.ul.map inc
def oJ(L:LSt):List (List AVal):=L.tl.map tkc
def BB(L:LSt)(g:Nat):List (List AVal):=(L.sl.getD g []).map spc
def ouF(m:Nat)(L:LSt)(g:Nat):List AVal:=[.sl (m+6+g) 0 (L.sl.getD g []).length]
def GD(m:Nat)(L:LSt):List (List AVal):=(aN L.sl.length).map (ouF m L)
def stc(m tk:Nat)(L:LSt):List AVal:=[.lit (.int .i64 L.cpus),.lit (.int .u64 L.credit),.sl (m+1) 0 L.gl.length,.sl (m+2) 0 L.kl.length,.sl (m+3) 0 L.ul.length,.sl tk 0 L.tl.length,.sl (m+5) 0 L.sl.length]
def fG(m tk:Nat)(L:LSt):List AVal:=[.lit (.int .i64 L.cpus),.lit (.int .u64 L.credit),.sl (m+1) 0 L.gl.length,.sl (m+2) 0 L.kl.length,.sl (m+3) 0 L.ul.length,.sl tk 0 L.tl.length,.sl (m+5) 0 L.sl.length,.lit (.bool aB)]
def LH(m tk:Nat)(L:LSt):aO:=(m+1,⟨2,aB,QT L⟩)::(m+2,⟨1,aB,RG L⟩)::(m+3,⟨1,aB,KW L⟩)::(m+5,⟨1,aE,GD m L⟩)::(tk,⟨8,aB,oJ L⟩)::mE (m+6) 3 L.sl.length (BB L)
def MH(m tk:Nat)(L:LSt):aO:=(m,⟨8,aE,[fG m tk L]⟩)::LH m tk L
theorem TN{m s n g:Nat}{R:Nat->List (List AVal)}(h:g<n):AM.look (mE (m+6) s n R) (m+(6+g))=aA ⟨s,aB,R g⟩:=by rw[<-gD];exact uV h
theorem aMT{m s n g:Nat}{R:Nat->List (List AVal)}{rows:List (List AVal)}(h:g<n):xF (mE (m+6) s n R) (m+(6+g)) ⟨s,aB,rows⟩=mE (m+6) s n (λ j=>if j=g then rows else R j):=by rw[<-gD];exact NK h
attribute [go_sem] TN aMT
theorem MF(L:LSt):(QT L).length=L.gl.length:=cX _
theorem MC(L:LSt):(RG L).length=L.kl.length:=cX _
theorem FP(L:LSt):(KW L).length=L.ul.length:=cX _
theorem tN(L:LSt):(oJ L).length=L.tl.length:=cX _
theorem aJC(m:Nat)(L:LSt):(GD m L).length=L.sl.length:=by simp[GD]
theorem CR(L:LSt)(g:Nat):(BB L g).length=(L.sl.getD g []).length:=cX _
theorem WV{L:LSt}{i:Nat}(h:i<L.gl.length):(QT L)[i]? =aA [.lit (.int .i64 (L.par i)),.lit (.int .i64 (L.wt i))]:=by simp[QT,h,oH,glc,LSt.par,LSt.wt]
theorem WN{L:LSt}{i:Nat}(h:i<L.kl.length):(RG L)[i]? =aA [.lit (.int .i64 (L.clk i))]:=by simp[RG,h,oH,inc,LSt.clk]
theorem LN{L:LSt}{i:Nat}(h:i<L.ul.length):(KW L)[i]? =aA [.lit (.int .i64 (L.cur i))]:=by simp[KW,h,oH,inc,LSt.cur]
theorem wH{L:LSt}{i:Nat}(h:i<L.tl.length):(oJ L)[i]? =aA (tkc (L.tsk i)):=by simp[oJ,h,oH,LSt.tsk]
theorem aJD{m:Nat}{L:LSt}{i:Nat}(h:i<L.sl.length):(GD m L)[i]? =aA [.sl (m+6+i) 0 (L.sl.getD i []).length]:=by simp[GD,h,ouF]
theorem VO{L:LSt}{g i:Nat}(h:i<(L.sl.getD g []).length):(BB L g)[i]? =aA (spc (L.sp g i)):=by
 unfold BB LSt.sp;generalize L.sl.getD g []=l at*
 simp[h,oH]
theorem aJE{m k:Nat}{L:LSt}(h:m+6+L.sl.length<=k):((GD m L).all λ row=>row.all (iM (jS k)))=aB:=by rw[aW];intro row hrow;simp only[GD,dB,dK]at hrow;obtain⟨g,hg,rfl⟩:=hrow;simp only[ouF,fU,AA,iM,iC,jS,dTt];omega
attribute [go_sem] tkc spc MF MC FP tN aJC CR WV WN LN wH aJD VO aJE fG
theorem nY{m tk:Nat}{L:LSt}{i:Nat}(h:eQ (MH m tk L) i=aB):i=m\/i=m+1\/i=m+2\/i=m+3\/i=m+5\/i=tk\/(m+6<=i/\i<m+6+L.sl.length):=by
 simp only[eQ,MH,LH,AM.look]at h;repeat'(split at h;(· omega))
 obtain⟨B,hB⟩:=fS.1 h;have:=IZ hB;omega
theorem HX{m tk:Nat}{L:LSt}:oM (eQ (MH m tk L)) (MH m tk L)=aB:=by
 have hk:∀i,i=m\/i=m+1\/i=m+2\/i=m+3\/i=m+5\/i=tk\/(m+6<=i/\i<m+6+L.sl.length)->eQ (MH m tk L) i=aB:=λ i hi=>by
  simp only[eQ,MH,LH,AM.look];repeat' split
  all_goals(first|rfl|skip)
  obtain⟨g,rfl⟩:∃g,i=m+6+g:=⟨i-(m+6),oO⟩;rw[uV oO];rfl
 have hfam:∀(p:Nat->Bool) (n f:Nat) (R:Nat->List (List AVal)),(∀g,g<n->p (f+g)=aB)->oM p (mE f 3 n R)=aB:=by
  intro p n
  induction n with
  |zero=>intros;rfl
  |succ n ih=>intro f R h;simp only[mE,oM,fU,AD,iC,aH];refine⟨by have:=h 0 oO;simpa using this,ih (f+1) _ (λ g hg=>by have:=h (g+1) oO;rw[<-this];congr 1;omega)⟩
 generalize hp:eQ (MH m tk L)=p at*
 have h0:=hk m oO;have h1:=hk (m+1) oO;have h2:=hk (m+2) oO;have h3:=hk (m+3) oO;have h5:=hk (m+5) oO;have h6:=hk tk oO;have hf:=hfam p L.sl.length (m+6) (BB L) (λ g hg=>hk _ oO);have hou:((GD m L).all λ row=>row.all (iM p))=aB:=by rw[aW];intro row hrow;simp only[GD,dB,dK]at hrow;obtain⟨g,hg,rfl⟩:=hrow;simp only[ouF,fU,AA,iM,iC];exact hk _ oO
 have e:oM p (MH m tk L)=aB:=by simp only[oM]at hf;simp[oM,MH,LH,fG,iM,h0,h1,h2,h3,h5,h6,hf,hou]
 exact e
theorem aJV{m tk:Nat}{L:LSt}:AM.look (MH m tk L) m=aA ⟨8,aE,[fG m tk L]⟩:=by simp[MH,AM.look]
attribute [go_sem] HX aJV
theorem fL{m tk k:Nat}{L:LSt}(h1:m+6+L.sl.length<=tk)(h2:tk<k):oM (jS k) (MH m tk L)=aB:=by have hf:=zR (s:=3) (R:=BB L) (oO:m+6+L.sl.length<=k);have ho:=aJE (L:=L) (m:=m) (oO:m+6+L.sl.length<=k);simp only[oM]at hf;simp only[oM,MH,LH,fG,fU,AA,iM,jS,hf,AD,AE,iC,aH,dTt];exact⟨⟨oO,trivial,trivial,oO,oO,oO,oO,oO⟩,oO,oO,oO,⟨oO,ho⟩,oO,hf⟩
end Go.Proofs.T
end
section
namespace Go.AM
open Go
section
variable{P:Program}{kb:Nat}{k:Nat}{fr:Fr}{H:aO}
theorem aYQ (id n:Nat){s:Nat}{p:Bool}{rows:List (List AVal)}(hB:AM.look H id=aA ⟨s,p,rows⟩):Mv kb k fr H k fr (xF H id ⟨s,p,rows.take n⟩):=λ hkb=>⟨hkb,λ Γ nt A0 w G ρ ac hA hi=>by
 refine⟨G,ρ,⟨⟨λ i h=>?_,λ i B' A h=>?_,hi.rel.inj,hi.rel.ro,hi.rel.glob⟩,hi.size,hi.defers,hi.frm⟩,kQ _ _ _ _⟩
 .simp only[bK,dO,DD]at h;split at h;.cases h
  exact hi.rel.dom i (by simp[bK,h])
 simp only[bK,aG,DD]at h;obtain⟨B1,h,he⟩:=h;cases he;split at h;.rename_i e;subst e;cases h;obtain⟨h1,b,h2,h3,⟨⟨C,ty,hC,hrows⟩,hlen⟩⟩:=hi.rel.blk i ⟨s,p,rows⟩ (kS A0 kb k) (by simp[bK,hB]);exact⟨h1,b,h2,h3,⟨⟨C,ty,hC,λ r row c v h5 h6=>hrows r row c v (AX h5).2 h6⟩,λ r row h5=>hlen r row (AX h5).2⟩⟩
 exact hi.rel.blk i _ _ (by simp[bK,h])⟩
end
section
variable{P:Program}{Γ:dL}{o:Oper}{ev:Operand->Option AVal}{get:Nat->Option Blk}{k:Nat}
theorem OX{out:Out}(h:Good P Γ o (λ x=>(ev x).map deS) get k out):Good P Γ o ev get k out:=by obtain⟨h1,h2,h3⟩:=h;refine⟨λ w G ρ H A a hr hA hf hrd hop next Q hn=>h1 w G ρ H A a hr hA hf hrd (λ x hx v hv=>?_) next Q hn,h2,h3⟩;simp only[aG]at hv;obtain⟨u,hu,rfl⟩:=hv;exact PQ (hop x hx u hu)
theorem a4J{out:Out}(h:AT P Γ o (λ x=>(ev x).map deS) get k=aA out):Good P Γ o ev get k out:=OX (sM h)
theorem DF{x:Operand}{t id r n c:Nat}{B:Blk}(ho:o.op= .call {callee:= .builtin .len,args:= #[x],argTypes:= #[t]})(ht:fX P t=aB)(hx:ev x=aA (.slc id r n c))(hB:get id=aA B):
 Good P Γ o ev get k ⟨.lit (.int .i64 n),k,[],[id]⟩:=
 a4J (by simp[AT,ho,aCU,yQ,hx,deS,hB,ht,mY])
theorem UT{t s s' by' id r n c:Nat}{x y:Operand}{v:AVal}{zrow:List AVal}{rows:List (List AVal)}{p:Bool}{ids:List Nat}{B:Blk}(ho:o.op= .call {callee:= .builtin .append,args:= #[x,y],argTypes:= #[t,t]})(hz:gV P t=aA (s,by',zrow))
 (hx:ev x=aA (.slc id r n c)) (hB:get id=aA B) (hy:ev y=aA v) (hs:SrcA get (deS v) s' 0 rows p ids):
 Good P Γ o ev get k ⟨.slc id r n c,k,[],id::ids⟩:=by
 refine⟨cF λ w G ρ H A a hr hrd hop=>?_,NQ hB hs.some,aF _⟩;have hvx:=hop x (by simp[ho,Op.operands,Call.operands]) _ hx;have hvy:=PQ (hop y (by simp[ho,Op.operands,Call.operands]) _ hy)
 have hxs:∃base n cap,a.eval x= .slice base n cap/\n<=cap:=by
  generalize a.eval x=cv at hvx;obtain⟨B',A',h2,hH,_⟩:=hrd id sS;obtain⟨_,b,hb,_⟩:=hr.blk id B' A' hH
  cases hvx with
  |dangc _ hn=>rw[hb]at hn;cases hn
  |slc _ _ _ _ h5=>exact⟨_,_,_,rfl,h5⟩
 have hys:∃q c,a.eval y= .slice q 0 c:=by
  generalize a.eval y=cv at hvy;generalize hu:deS v=u at hvy hs
  cases hs with
  |nil=>cases hvy;exact⟨_,_,rfl⟩
  |rd=>cases hvy with
   |rd0=>exact⟨_,_,rfl⟩
   |rd=>exact⟨_,_,rfl⟩
  |sl hB hle=>
   rename_i id r B;obtain⟨B',A',h2,hH,_⟩:=hrd id sS;obtain⟨_,b,hb,_⟩:=hr.blk id B' A' hH
   cases hvy with
   |dangs _ hn=>rw[hb]at hn;cases hn
   |sl=>exact⟨_,_,rfl⟩
   |sl0=>exact⟨_,_,rfl⟩
 obtain⟨base,n,cap,ex,hcap⟩:=hxs;obtain⟨q,c,ey⟩:=hys;unfold gV at hz;split at hz
 .rename_i e he;split at hz;.rename_i i hi;rw[ex]at hvx;refine⟨.slice base n cap,?_,hvx⟩;have:=JY (P:=P) w t o.type e i he hi base q n cap c hcap;simp only[execOp,ho,resolve,invoke,builtin,yH,bI,bQ,ex,ey,bN,dE,bG,this]
  cases hz
 cases hz
theorem jX{t id r n c r' n' c':Nat}{x:Operand}{lo hi:Option Operand}{B:Blk}{l h:Int}(ho:o.op= .slice t x lo hi aC)(hB:get id=aA B)(ht:CC P t=aA B.sz)(hx:ev x=aA (.slc id r n c))
 (hl:bound ev lo 0=aA l) (hh:bound ev hi n=aA h) (h0:0<=l) (h1:l<=h) (h2:h<=c) (e1:r+l.toNat=r') (e2:h.toNat-l.toNat=n') (e3:c-l.toNat=c'):Good P Γ o ev get k ⟨.slc id r' n' c',k,[],[id]⟩:=by subst e1;subst e2;subst e3;exact aRK ho hB ht hx hl hh h0 h1 h2
theorem aCV{x y:Operand}{t id n c m s by' nm:Nat}{zrow:List AVal}{B:Blk}{v:AVal}{rows:List (List AVal)}{p q:Bool}{ids:List Nat}
 (ho:o.op= .call {callee:= .builtin .append,args:= #[x,y],argTypes:= #[t,t]}) (hz:gV P t=aA (s,by',zrow)) (hx:ev x=aA (.slc id 0 n c)) (hB:get id=aA B) (hBs:B.sz=s) (hy:ev y=aA v) (hs:SrcA get (deS v) s m rows p ids)
 (hone:(rows.all λ row=>row.all one)=aB) (hm:0<m) (hroom:n+m<=c) (hr:n<=B.rows.length) (e1:n+m=nm) (e2:(B.pure&&p)=q):
 Good P Γ o ev get k ⟨.slc id 0 nm c,k,[(id,aA ⟨B.sz,q,gC B.rows rows n⟩)],id::ids⟩:=by subst e1;subst e2;exact aHM ho hz hx hB hBs hy hs hone hm hroom hr
theorem CE{x:Operand}{t id r n c s by':Nat}{zrow:List AVal}{B:Blk}{q:Bool}
 (ho:o.op= .call {callee:= .builtin .clear,args:= #[x],argTypes:= #[t]}) (hz:gV P t=aA (s,by',zrow)) (hz1:zrow.all one=aB) (hx:ev x=aA (.slc id r n c)) (hB:get id=aA B) (hBs:B.sz=s) (hn0:0<n) (hr:r+n<=B.rows.length) (e:(B.pure&&aB)=q):
 Good P Γ o ev get k ⟨.junk,k,[(id,aA ⟨B.sz,q,gC B.rows (bE n zrow) r⟩)],[id]⟩:=by subst e;exact aHC ho hz hz1 hx hB hBs hn0 hr
theorem dV{id:Nat}{B:Blk}{H:aO}:AM.look ((id,B)::H) id=aA B:=by simp only[AM.look,↓reduceIte]
end
def Dec(w:World)(G:Nat->Prop)(vs:List AVal)(cs:List Value):Prop:=
 vs.length=cs.length/\∀(j:Nat) (v:AVal),vs[j]? =aA v->∃c,cs[j]? =aA c/\V w G bS cI v c
section
variable{H:Type}{enc:TypeId×Value->H}{P:Program}{w:World}{base:Nat}{sp:Nat->Bool}{held:Bool}{fuel:Nat}{t:TypeId}{cs:List Value}{x:DataW H×List MemPlace}{G:Nat->Prop}
theorem Dec.one {v:AVal}{c:Value}(h:V w G bS cI v c):Dec w G [v] [c]:=⟨rfl,λ j u hj=>by
 match j with
 |0=>cases hj;exact⟨c,rfl,h⟩
 |j+1=>simp at hj⟩
theorem Dec.app {a b:List AVal}{c d:List Value}(h:Dec w G a c)(k:Dec w G b d):Dec w G (a++b) (c++d):=by
 refine⟨by rw[bM,bM,h.1,k.1],λ j v hj=>?_⟩;by_cases hlt:j<a.length;.rw[gP hlt]at hj;obtain⟨e,he,hv⟩:=h.2 j v hj;exact⟨e,by rw[gP (by rw[<-h.1];exact hlt)];exact he,hv⟩
 rw[iK oO]at hj;obtain⟨e,he,hv⟩:=k.2 _ v hj;exact⟨e,by rw[iK (by rw[<-h.1];omega),<-h.1];exact he,hv⟩
theorem pE{k:IntKind}(ht:P.underlying t=aA (.int k))(h:DataW.trod enc P w base sp held fuel t cs=aA x):∃n,Dec w G [.lit (.int k n)] cs/\(Lit.int k n).wf=aB:=by obtain⟨n,rfl,_,hw⟩:=DataW.trod_int ht h;exact⟨n,.one .lit,hw⟩
theorem a4N(a:Addr)(i j:Nat)(h:a.spot=aC):(a.add i).add j=⟨a.block,a.off+i+j,aC⟩:=by unfold Addr.add;cases a;simp only at h;subst h;by_cases hi:i=0<;>by_cases hj:j=0<;>simp[hi,hj]
theorem aOU{e:TypeId}{α:Type}(F:α->List AVal)(Q:α->Prop)(a0:α)(h0:Q a0){sz:Nat}(hsz:0<sz)(ht:P.underlying t=aA (.slice e))(he:P.cellsOf e=sz)
 (hG:∀b,b<w.heap.size->G b)
 (hel:∀(n:Nat) (cs:List Value) (y:DataW H×List MemPlace),cs.length=sz->DataW.trod enc P w base sp held n e cs=aA y->∃a,Q a/\Dec w G (F a) cs)
 (h:DataW.trod enc P w base sp held fuel t cs=aA x):∃(n:Nat) (f:Nat->α),(∀i,Q (f i))/\Dec w G [.rd sz n (λ i=>F (f i))] cs:=by
 rcases DataW.trod_slice ht h with⟨rfl,_⟩|⟨a,len,cap,elems,rest,n,_,rfl,_,hb,hl,hm,hlen,hels,_,_⟩;.exact⟨0,λ _=>a0,λ _=>h0,.one .rd0⟩
 by_cases hz:len=0;.subst hz;exact⟨0,λ _=>a0,λ _=>h0,.one .rd0⟩
 rw[he]at hels;have each:∀i,i<len->∃ci y,w.cells? base (a.add (i*sz)) sz=aA ci/\DataW.trod enc P w base sp held n e ci=aA y:=λ i hi=>by have h1:=hels i hi;rw[aJ oO,cE]at h1;obtain⟨ci,h2,h3⟩:=h1;exact⟨ci,_,h2,h3⟩
 have each':∀i,∃(ci:List Value) (q:α),Q q/\(i<len->w.cells? base (a.add (i*sz)) sz=aA ci/\Dec w G (F q) ci):=λ i=>by
  by_cases hi:i<len;.obtain⟨ci,y,h1,h2⟩:=each i hi;obtain⟨q,h3,h4⟩:=hel n ci y (World.cells?_some h1).2.1 h2;exact⟨ci,q,h3,λ _=>⟨h1,h4⟩⟩
  exact⟨[],a0,h0,λ h=>absurd h hi⟩
 let ci:=λ i=>Classical.choose (each' i);let f:=λ i=>Classical.choose (Classical.choose_spec (each' i));have hf:∀i,Q (f i)/\(i<len->w.cells? base (a.add (i*sz)) sz=aA (ci i)/\Dec w G (F (f i)) (ci i)):=λ i=>Classical.choose_spec (Classical.choose_spec (each' i))
 have hspot:a.spot=aC:=by
  have h1:=(World.cells?_some ((hf 0).2 oO).1);have h2:=h1.2.2 0 hsz;rw[qW]at h2;have h3:a.add 0=a:=by simp[Addr.add]
  rw[h3,h3,aJ (by rw[h1.2.1];exact hsz)]at h2;unfold World.cell? at h2
  cases hs:a.spot with
  |none=>rfl
  |some s=>rw[hs]at h2;split at h2<;>simp at h2
 have hcell:∀i j,i<len->j<sz->w.cell? ⟨a.block,a.off+i*sz+j,aC⟩=(ci i)[j]? :=λ i j hi hj=>by have h1:=(World.cells?_some ((hf i).2 hi).1).2.2 j hj;rwa [a4N a _ _ hspot]at h1
 have hcl:∀i,i<len->(ci i).length=sz:=λ i hi=>(World.cells?_some ((hf i).2 hi).1).2.1;have hFl:∀i,i<len->(F (f i)).length=sz:=λ i hi=>by rw[((hf i).2 hi).2.1,hcl i hi]
 have hblk:a.block<w.heap.size:=by
  have h1:=hcell 0 0 oO hsz;rw[aJ (by rw[hcl 0 oO];exact hsz)]at h1;by_cases hb:a.block<w.heap.size;.exact hb
  unfold World.cell? at h1;simp only at h1;rw[iD oO]at h1;cases h1
 refine⟨len,f,λ i=>(hf i).1,.one ?_⟩;have ea:a=⟨a.block,a.off,aC⟩:=by cases a;simp only at hspot;rw[hspot]
 rw[ea];refine .rd (λ i j=>(ci i).getD j undef) (hG _ hblk) hl oO hFl (λ i j v hi hj=>?_) (λ i j v hi hj=>?_)
 .obtain⟨c,h1,h2⟩:=((hf i).2 hi).2.2 j v hj;have hj':j<sz:=by rw[<-hcl i hi];exact(aK.1 h1).1
  rw[hcell i j hi hj',h1];simp[aR,h1]
 obtain⟨c,h1,h2⟩:=((hf i).2 hi).2.2 j v hj;simp only[aR,h1,aLU];exact h2
theorem a4Q {vs:List AVal}{cs:Array Value}{ρ:cY}{A:bZ}(h:Dec w G vs cs.toList):V w G ρ A (.agg vs) (.agg cs):=by
 have h1:V w G bS cI (.agg vs) (.agg cs):= .agg (by rw[h.1];simp) λ j v hj=>by
  obtain⟨c,h2,h3⟩:=h.2 j v hj;have:cs.getD j undef=c:=by rw[bF]at h2;simp[aI,h2]
  rw[this];exact h3
 exact h1.mono (λ _ h=>h) (λ _ _=>rfl) (λ _ _=>rfl) (λ _ h=>h.elim) (λ _ h=>h.elim)
end
end Go.AM
end
section
namespace Go.AM
open Go Go.RowKit
theorem EI{w w':World}(h:Below w.heap.size w w')(may:MemPlace->Prop):w.keptBut w' may:=by
 refine⟨h.os,h.output,λ i hi=>?_⟩;rw[h.block i hi]
 cases w.heap[i]? with
 |none=>rfl
 |some o=>cases o<;>simp
def GlobIs(w:World)(G:Nat->Prop)(g:Nat)(cells:List AVal):Prop:=
 V w G bS cI (.rp cells) (.pointer (aA ⟨g,0,aC⟩))/\G g/\∃C ty x,w.heap[g]? =aA (.cells C ty x)/\C.size=cells.length
theorem mC{P:Program}{Γ:dL}{f:FuncId}{vs:List AVal}{r:AVal}(hn:vs.all (bd λ _=>aE)=aB)
 (h:∀w G args,(∀g cells,look Γ g=aA cells->GlobIs w G g cells)->Vs w G bS cI vs args→
   Calls P f args w λ e w'=>∃cv,e= .returned cv/\Below w.heap.size w w'/\V w' (λ b=>G b\/(w.heap.size<=b/\b<w'.heap.size)) bS cI r cv):Pure P Γ f vs r:=λ k=>by
 intro A hA w G ρ cargs hr hvs
 have hρ:ρ=bS:=funext λ id=>hr.dom id rfl
 subst hρ
 have hv':Vs w G bS cI vs cargs:=⟨hvs.1,λ j u hj=>
  (aDF (hvs.2 j u hj) (iT hn hj)).mono (λ _ h=>h) (λ _ _=>rfl) (λ _ _=>rfl) (λ i hi=>by simp at hi) (λ _ _=> .inr rfl)⟩
 refine(h w G cargs hr.glob hv').mono ?_
 rintro e w' ⟨cv,rfl,hb,hv1⟩
 have hst:Step (lC k) w G bS w' (λ b=>G b\/(w.heap.size<=b/\b<w'.heap.size)) bS:=
  ⟨hb.size,λ b hlt _=>hb.block b hlt,λ b hlt=>shp_of (hb.block b hlt),λ _ h=> .inl h,λ b h=>h.elim .inl (λ h=> .inr (.inr h.1)),λ _ h=> .inl h,λ _ _=> .inr rfl,hb.os,hb.tape,hb.output⟩
 exact⟨cv,_,bS,k,r,[],rfl,⟨rfl,rfl,rfl⟩,aF _,
  ⟨λ _ _=>rfl,λ id B A' hid=>by simp[bK,look]at hid,hr.inj,λ b hb'=>hb'.elim (λ h=>oD (hr.ro b h) hb.size) (λ h=>h.2),JB hr hst⟩,
  hv1.mono (λ _ h=>h) (λ _ _=>rfl) (λ _ _=>rfl) (λ _ h=>h.elim) (λ _ _=> .inr rfl),hst⟩
theorem GlobIs.cell {w:World}{G:Nat->Prop}{g:Nat}{cells:List AVal}(h:GlobIs w G g cells){j:Nat}{v:Value}(hj:cells[j]? =aA (.lit v)):w.cell? ⟨g,j,aC⟩=aA v:=by
 obtain⟨hv,_⟩:=h
 cases hv with
 |rp gg hG hc hV=>have h1:=hc j _ hj;have h2:=hV j _ hj;rw[fH]at h1;rw[h1];cases h2;rfl
theorem GlobIs.tab {P:Program}{w:World}{G:Nat->Prop}{g:Nat}{name:String}{k:IntKind}{zs:List Int}(hg:P.globalNamed name=aA g)(h:GlobIs w G g (zs.map λ z=> .lit (.int k z))):Lib.TabIs P w name k zs:=by
 have hc:=λ j (v:Value)=>h.cell (j:=j) (v:=v);obtain⟨_,_,C,ty,x,h3,h4⟩:=h;unfold Lib.TabIs World.var?;rw[hg,bNV,h3];refine congrArg aA (aIG (by simpa using h4) λ i h1 h2=>?_);have hi:i<zs.length:=by simpa using h2
 have:=hc i (.int k zs[i]) (by simp[hi]);unfold World.cell? at this;simp only[h3,rQ,aS,if_false]at this;rw[aQ h1]at this;simpa using this
theorem V_lit{w:World}{G:Nat->Prop}{ρ:cY}{A:bZ}{u cv:Value}(h:V w G ρ A (.lit u) cv):cv=u:=by cases h;rfl
theorem aHW{w:World}{G:Nat->Prop}{ρ:cY}{A:bZ}{u:Value}{cs:Array Value}(h:Vs w G ρ A [.lit u] cs):cs= #[u]:=by
 obtain⟨h1,h2⟩:=h;have e:=V_lit (h2 0 _ rfl);have hs:cs.size=1:=by simpa using h1.symm
 refine aIG (by simp[hs]) λ i hi hj=>?_;have:i=0:=oO;subst this;rw[aI,aQ hi]at e;simpa using e
theorem YA{w:World}{G:Nat->Prop}{ρ:cY}{A:bZ}{u v:Value}{cs:Array Value}(h:Vs w G ρ A [.lit u,.lit v] cs):cs= #[u,v]:=by
 obtain⟨h1,h2⟩:=h;have e:=V_lit (h2 0 _ rfl);have e':=V_lit (h2 1 _ rfl);have hs:cs.size=2:=by simpa using h1.symm
 refine aIG (by simp[hs]) λ i hi hj=>?_;rw[aI]at e e';have:i=0\/i=1:=oO;rcases this with rfl|rfl;.rw[aQ hi]at e;simpa using e
 rw[aQ hi]at e';simpa using e'
end Go.AM
end
section
namespace Go.AM
open Go
section
variable{P:Program}{Γ:dL}
theorem HRel.fz {w:World}{G:Nat->Prop}{ρ:cY}{H:lU}{A:bZ}(hr:HRel Γ w G ρ H):HRel Γ w (λ b=>G b\/mZ ρ b) bS (bK [] A):=
 ⟨λ _ _=>rfl,λ id B A' hid=>(by simp[bK,look]at hid),λ i j b s t h=>(by cases h),λ b hb=>hb.elim (hr.ro b) (λ h=>hr.owned_lt h),λ g cells hg=>by obtain⟨h1,h2,h3⟩:=hr.glob g cells hg;exact⟨h1.mono (λ _ h=> .inl h) (λ _ _=>rfl) (λ _ _=>rfl) (λ _ h=>h) (λ _ h=>h.elim),.inl h2,h3⟩⟩
theorem aYP{kb k:Nat}{fr fr':Fr}{H:aO}(h:∀t v,look fr' t=aA v->∃u,look fr t=aA u/\VLe u v):Mv kb k fr H k fr' H:=λ hk=>⟨hk,λ Γ nt A0 w G ρ a hA hi=>
 ⟨G,ρ,⟨hi.rel,hi.size,hi.defers,λ t v hv=>by obtain⟨u,hu,hle⟩:=h t v hv;exact hle _ _ _ _ _ (hi.frm t u hu)⟩,kQ _ _ _ _⟩⟩
theorem aYL{f:FuncId}{args args':List AVal}{r:AVal}(h:Pure P Γ f args' r)(hle:VLes args args'):Pure P Γ f args r:=λ k A hA w G ρ cargs h1 h2=>
 h k A hA w G ρ cargs h1 ⟨by rw[←(hle.spec).1];exact h2.1,λ j v hj=>by
  obtain⟨e1,e2⟩:=hle.spec;have hlt:j<args.length:=by have:=(aK.1 hj).1;omega
  exact e2 j _ v (aJ hlt) hj _ _ _ _ _ (h2.2 j _ (aJ hlt))⟩
theorem aYK{f:FuncId}{fn:Func}{args:List AVal}{r:AVal}(hf:P.funcs[f]? =aA fn)(hb:fn.body.isSome=aB)(nt:Nat)(hnt:fn.ntmps=nt)(hn:args.length<=nt)(ha:args.all (bd λ _=>aE)=aB)(hr:bd (λ _=>aE) r=aB)
 (h:W P Γ nt 0 (hY (gN fn) []) (EQ P fn (λ _ r1 _=>VLe r1 r)) 0 (vS 0 args) []):Pure P Γ f args r:=λ k=>by
 have hT:=cN hf hb nt hnt hn h
 intro A hA w G ρ cargs hr0 hvs
 have hρ:ρ=bS:=funext λ id=>hr0.dom id rfl
 subst hρ
 have hno:∀w1 G1 ρ1 A1 A2 u cu,V w1 G1 ρ1 A1 u cu->bd (λ _=>aE) u=aB->V w1 G1 ρ1 A2 u cu:=λ w1 G1 ρ1 A1 A2 u cu h hb=>
  (aDF h hb).mono (λ _ h=>h) (λ _ _=>rfl) (λ _ _=>rfl) (λ i hi=>by simp at hi) (λ _ _=> .inr rfl)
 refine(hT cI (λ i hi=>hi.elim) w G bS cargs ⟨λ _ _=>rfl,λ id B A' hid=>by simp[bK,look]at hid,hr0.inj,hr0.ro,hr0.glob⟩ ⟨hvs.1,λ j u hj=>hno _ _ _ _ _ _ _ (hvs.2 j u hj) (iT ha hj)⟩).mono ?_
 rintro e w' ⟨cv,G',ρ',k1,r1,H1,rfl,hle,hk1,hrel1,hv1,hst⟩
 refine⟨cv,λ b=>G' b\/mZ ρ' b,bS,k,r,[],rfl,⟨rfl,rfl,rfl⟩,aF _,hrel1.fz,?_,⟨hst.size,hst.keep,hst.shape,λ b hb=> .inl (hst.g b hb),λ b hb=>hb.elim (hst.g' b) (λ h=> .inr (hst.own b h)),λ b ⟨_,_,h⟩=>(by cases h),λ id _=> .inl rfl,hst.os,hst.tape,hst.output⟩⟩
 exact(aDF (hle _ _ _ _ _ hv1) hr).mono (λ _ h=> .inl h) (λ _ _=>rfl) (λ _ _=>rfl) (λ i hi=>by simp at hi) (λ i hi=>by simp at hi)
end
end Go.AM
end
