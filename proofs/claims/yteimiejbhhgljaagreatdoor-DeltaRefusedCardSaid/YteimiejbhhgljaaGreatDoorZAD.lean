import Derived.Test.YteimiejbhhgljaaGreatDoorZAC
import Derived.ChangeArms
import Derived.DataReads
import Derived.Carry
import Derived.ProofKit
import Derived.LaidMore
import Derived.OpenShut
import Derived.Stop.Joined
import Derived.Lib.LaidTab
set_option linter.unusedVariables false
set_option linter.defProp false
set_option linter.unusedSimpArgs false
set_option maxHeartbeats 0
set_option maxRecDepth 100000
open Go.AM.AVal renaming lit->aD
open Array renaming ext->aJX,getD_eq_getD_getElem?->aM,getElem?_eq_getElem->aW,getElem?_eq_none->iS,getElem?_toList->bH
open Bool renaming and_eq_true->aO,and_true->iE,false->aF,false_eq_true->bP,false_or->BP,true->aB,true_or->BO
open Go.IntKind renaming i64->aH,u32->aT,u64->aI
open List renaming all_cons->gI,all_eq_true->aY,all_nil->BK,getD->oZ,getD_eq_getElem?_getD->aU,getElem?_append_left->gN,getElem?_append_right->iY,getElem?_eq_getElem->aN,getElem?_eq_some_iff->aL,getElem_mem->zY,length_append->bT,length_map->dG,map->tB,map_append->aQ,map_cons->bN,map_map->kT,map_nil->bV,map_toArray->uA,mem_map->dM,mem_range->dX,range->aR,replicate->bI
open Nat renaming add_assoc->gM,add_sub_cancel->a7O,add_sub_cancel_left->kJ,le_refl->aJ,lt_of_lt_of_le->oW,mul_one->JK,sub_self->TT,zero_add->eQ,zero_mul->rT
open Option renaming bind_eq_some_iff->cJ,bind_some->bVF,getD_some->LB,isSome_iff_exists->fU,isSome_none->sZ,map_eq_none_iff->dL,map_eq_some_iff->aK,none->aC,some->aA
open Go.Result renaming andThen_ok->bJ
open Go.Sem renaming run_bind->bS,run_pure->dO
open Go.Value renaming bool->bC,int->aE
section
namespace Go.Proofs.T
open Go Go.AM Go.Proofs
variable{g i k m tk:Nat}{R:Nat->List (List AVal)}
variable{Γ:dW}
instance:Inhabited Tk:=⟨⟨0,0,0,0,0,aF,0,0⟩⟩
instance:Inhabited Sp:=⟨⟨0,0,0⟩⟩
structure LSt where
 cpus:Int
 credit:Int
 gl:List (Int×Int)
 kl:List Int
 ul:List Int
 tl:List Tk
 sl:List (List Sp)
variable{L:LSt}
def LSt.st (L:LSt):St:=⟨L.cpus,L.credit,L.gl.length,λ i=>(L.gl.getD i (0,0)).1,λ i=>(L.gl.getD i (0,0)).2,L.kl.length,λ i=>L.kl.getD i 0,L.ul.length,λ i=>L.ul.getD i 0,L.tl.length,λ i=>L.tl.getD i default,
 L.sl.length,λ g=>(L.sl.getD g []).length,λ g c=>(L.sl.getD g []).getD c default⟩
def LSt.sp (L:LSt)(g c:Nat):Sp:=(L.sl.getD g []).getD c default
def LSt.par (L:LSt)(g:Nat):Int:=(L.gl.getD g (0,0)).1
def LSt.wt (L:LSt)(g:Nat):Int:=(L.gl.getD g (0,0)).2
def LSt.tsk (L:LSt)(i:Nat):Tk:=L.tl.getD i default
def LSt.clk (L:LSt)(c:Nat):Int:=L.kl.getD c 0
def LSt.cur (L:LSt)(c:Nat):Int:=L.ul.getD c 0
def tkc(k:Tk):List AVal:=[aD (aE aH k.id),aD (aE aH k.group),aD (aE aH k.weight),aD (aE aH k.cpu),aD (aE aI k.mask),aD (bC k.ready),aD (aE aI k.v),aD (aE aT k.r)]
def spc(k:Sp):List AVal:=[aD (aE aI k.v),aD (aE aT k.r),aD (aE aI k.floor)]
def glc(g:Int×Int):List AVal:=[aD (aE aH g.1),aD (aE aH g.2)]
def inc(n:Int):List AVal:=[aD (aE aH n)]
def SP(L:LSt):List (List AVal):=L.gl.map glc
def TE(L:LSt):List (List AVal):=L.kl.map inc
def MP(L:LSt):List (List AVal):=L.ul.map inc
def pB(L:LSt):List (List AVal):=L.tl.map tkc
def CP(L:LSt)(g:Nat):List (List AVal):=(L.sl.getD g []).map spc
def ouF(m:Nat)(L:LSt)(g:Nat):List AVal:=[.sl (m+6+g) 0 (L.sl.getD g []).length]
def HT(m:Nat)(L:LSt):List (List AVal):=(aR L.sl.length).map (ouF m L)
def stc(m tk:Nat)(L:LSt):List AVal:=[aD (aE aH L.cpus),aD (aE aI L.credit),.sl (m+1) 0 L.gl.length,.sl (m+2) 0 L.kl.length,.sl (m+3) 0 L.ul.length,.sl tk 0 L.tl.length,.sl (m+5) 0 L.sl.length]
def fS(m tk:Nat)(L:LSt):List AVal:=[aD (aE aH L.cpus),aD (aE aI L.credit),.sl (m+1) 0 L.gl.length,.sl (m+2) 0 L.kl.length,.sl (m+3) 0 L.ul.length,.sl tk 0 L.tl.length,.sl (m+5) 0 L.sl.length,aD (bC aB)]
def LH(m tk:Nat)(L:LSt):aS:=(m+1,⟨2,aB,SP L⟩)::(m+2,⟨1,aB,TE L⟩)::(m+3,⟨1,aB,MP L⟩)::(m+5,⟨1,aF,HT m L⟩)::(tk,⟨8,aB,pB L⟩)::nA (m+6) 3 L.sl.length (CP L)
def MH(m tk:Nat)(L:LSt):aS:=(m,⟨8,aF,[fS m tk L]⟩)::LH m tk L
def VA{s n:Nat}(h:g<n):AM.look (nA (m+6) s n R) (m+(6+g))=aA ⟨s,aB,R g⟩:=by rw[<-gM];exact wE h
def aPB{s n:Nat}{rows:List (List AVal)}(h:g<n):yL (nA (m+6) s n R) (m+(6+g)) ⟨s,aB,rows⟩=nA (m+6) s n (λ j=>if j=g then rows else R j):=by rw[<-gM];exact PH h
attribute [go_sem] VA aPB
def OB(L:LSt):(SP L).length=L.gl.length:=dG _
def NY(L:LSt):(TE L).length=L.kl.length:=dG _
def HB(L:LSt):(MP L).length=L.ul.length:=dG _
def uX(L:LSt):(pB L).length=L.tl.length:=dG _
def aKW(m:Nat)(L:LSt):(HT m L).length=L.sl.length:=by simp[HT]
def EG(L:LSt)(g:Nat):(CP L g).length=(L.sl.getD g []).length:=dG _
def YP(h:i<L.gl.length):(SP L)[i]? =aA [aD (aE aH (L.par i)),aD (aE aH (L.wt i))]:=by simp[SP,h,oZ,glc,LSt.par,LSt.wt]
def YH(h:i<L.kl.length):(TE L)[i]? =aA [aD (aE aH (L.clk i))]:=by simp[TE,h,oZ,inc,LSt.clk]
def NC(h:i<L.ul.length):(MP L)[i]? =aA [aD (aE aH (L.cur i))]:=by simp[MP,h,oZ,inc,LSt.cur]
def xN(h:i<L.tl.length):(pB L)[i]? =aA (tkc (L.tsk i)):=by simp[pB,h,oZ,LSt.tsk]
def aKX(h:i<L.sl.length):(HT m L)[i]? =aA [.sl (m+6+i) 0 (L.sl.getD i []).length]:=by simp[HT,h,ouF]
def XE(h:i<(L.sl.getD g []).length):(CP L g)[i]? =aA (spc (L.sp g i)):=by
 unfold CP LSt.sp;generalize L.sl.getD g []=l at*
 simp[h,oZ]
def aKY(h:m+6+L.sl.length<=k):((HT m L).all λ row=>row.all (iL (kC k)))=aB:=by rw[aY];intro row hrow;simp only[HT,dM,dX]at hrow;obtain⟨g,hg,rfl⟩:=hrow;simp only[ouF,gI,BK,iL,iE,kC,dTt];omega
attribute [go_sem] tkc spc OB NY HB uX aKW EG YP YH NC xN aKX XE aKY fS
def oT(h:fN (MH m tk L) i=aB):i=m\/i=m+1\/i=m+2\/i=m+3\/i=m+5\/i=tk\/(m+6<=i/\i<m+6+L.sl.length):=by
 simp only[fN,MH,LH,AM.look]at h;repeat'(split at h;(· omega))
 obtain⟨B,hB⟩:=fU.1 h;have:=KJ hB;omega
def JL:oU (fN (MH m tk L)) (MH m tk L)=aB:=by
 have hk:∀i,i=m\/i=m+1\/i=m+2\/i=m+3\/i=m+5\/i=tk\/(m+6<=i/\i<m+6+L.sl.length)->fN (MH m tk L) i=aB:=λ i hi=>by
  simp only[fN,MH,LH,AM.look];repeat' split
  all_goals(first|rfl|skip)
  obtain⟨g,rfl⟩:∃g,i=m+6+g:=⟨i-(m+6),oO⟩;rw[wE oO];rfl
 have hfam:∀(p:Nat->Bool) (n f:Nat) (R:Nat->List (List AVal)),(∀g,g<n->p (f+g)=aB)->oU p (nA f 3 n R)=aB:=by
  intro p n
  induction n with
  |zero=>intros;rfl
  |succ n ih=>intro f R h;simp only[nA,oU,gI,BO,iE,aO];refine⟨by have:=h 0 oO;simpa using this,ih (f+1) _ (λ g hg=>by have:=h (g+1) oO;rw[<-this];congr 1;omega)⟩
 generalize hp:fN (MH m tk L)=p at*
 have h0:=hk m oO;have h1:=hk (m+1) oO;have h2:=hk (m+2) oO;have h3:=hk (m+3) oO;have h5:=hk (m+5) oO;have h6:=hk tk oO;have hf:=hfam p L.sl.length (m+6) (CP L) (λ g hg=>hk _ oO);have hou:((HT m L).all λ row=>row.all (iL p))=aB:=by rw[aY];intro row hrow;simp only[HT,dM,dX]at hrow;obtain⟨g,hg,rfl⟩:=hrow;simp only[ouF,gI,BK,iL,iE];exact hk _ oO
 have e:oU p (MH m tk L)=aB:=by simp only[oU]at hf;simp[oU,MH,LH,fS,iL,h0,h1,h2,h3,h5,h6,hf,hou]
 exact e
def aLQ:AM.look (MH m tk L) m=aA ⟨8,aF,[fS m tk L]⟩:=by simp[MH,AM.look]
attribute [go_sem] JL aLQ
def fX(h1:m+6+L.sl.length<=tk)(h2:tk<k):oU (kC k) (MH m tk L)=aB:=by have hf:=BD (s:=3) (R:=CP L) (oO:m+6+L.sl.length<=k);have ho:=aKY (L:=L) (m:=m) (oO:m+6+L.sl.length<=k);simp only[oU]at hf;simp only[oU,MH,LH,fS,gI,BK,iL,kC,hf,BO,BP,iE,aO,dTt];exact⟨⟨oO,trivial,trivial,oO,oO,oO,oO,oO⟩,oO,oO,oO,⟨oO,ho⟩,oO,hf⟩
end Go.Proofs.T
end
section
namespace Go.AM
open Go
variable{v:AVal}{B:Blk}{p q:Bool}{k:IntKind}{vs zrow:List AVal}{by' c id n r s t:Nat}{x y:Operand}{e:TypeId}
section
variable{P:Program}{kb:Nat}{k:Nat}{fr:Fr}{H:aS}
def a1C(id n:Nat){rows:List (List AVal)}(hB:AM.look H id=aA ⟨s,p,rows⟩):Mv kb k fr H k fr (yL H id ⟨s,p,rows.take n⟩):=λ hkb=>⟨hkb,λ Γ nt A0 w G ρ ac hA hi=>by
 refine⟨G,ρ,⟨⟨λ i h=>?_,λ i B' A h=>?_,hi.rel.inj,hi.rel.ro,hi.rel.glob⟩,hi.size,hi.defers,hi.frm⟩,lF _ _ _ _⟩
 .simp only[bK,dL,ER]at h;split at h;.cases h
  exact hi.rel.dom i (by simp[bK,h])
 simp only[bK,aK,ER]at h;obtain⟨B1,h,he⟩:=h;cases he;split at h;.rename_i e;subst e;cases h;obtain⟨h1,b,h2,h3,⟨⟨C,ty,hC,hrows⟩,hlen⟩⟩:=hi.rel.blk i ⟨s,p,rows⟩ (kI A0 kb k) (by simp[bK,hB]);exact⟨h1,b,h2,h3,⟨⟨C,ty,hC,λ r row c v h5 h6=>hrows r row c v (CK h5).2 h6⟩,λ r row h5=>hlen r row (CK h5).2⟩⟩
 exact hi.rel.blk i _ _ (by simp[bK,h])⟩
end
section
variable{P:Program}{Γ:dW}{o:Oper}{ev:Operand->Option AVal}{get:Nat->Option Blk}{k:Nat}
def QR{out:Out}(h:Good P Γ o (λ x=>(ev x).map deS) get k out):Good P Γ o ev get k out:=by obtain⟨h1,h2,h3⟩:=h;refine⟨λ w G ρ H A a hr hA hf hrd hop next Q hn=>h1 w G ρ H A a hr hA hf hrd (λ x hx v hv=>?_) next Q hn,h2,h3⟩;simp only[aK]at hv;obtain⟨u,hu,rfl⟩:=hv;exact IV (hop x hx u hu)
def a7B{out:Out}(h:CH P Γ o (λ x=>(ev x).map deS) get k=aA out):Good P Γ o ev get k out:=QR (tV h)
def ES(ho:o.op= .call {callee:= .builtin .len,args:= #[x],argTypes:= #[t]})(ht:gK P t=aB)(hx:ev x=aA (.slc id r n c))(hB:get id=aA B):
 Good P Γ o ev get k ⟨.lit (.int .i64 n),k,[],[id]⟩:=
 a7B (by simp[CH,ho,aEN,AJ,hx,deS,hB,ht,nS])
def WJ{s':Nat}{rows:List (List AVal)}{ids:List Nat}(ho:o.op= .call {callee:= .builtin .append,args:= #[x,y],argTypes:= #[t,t]})(hz:iD P t=aA (s,by',zrow))
 (hx:ev x=aA (.slc id r n c)) (hB:get id=aA B) (hy:ev y=aA v) (hs:SrcA get (deS v) s' 0 rows p ids):
 Good P Γ o ev get k ⟨.slc id r n c,k,[],id::ids⟩:=by
 refine⟨cL λ w G ρ H A a hr hrd hop=>?_,HM hB hs.some,aJ _⟩;have hvx:=hop x pC _ hx;have hvy:=IV (hop y pC _ hy)
 have hxs:∃base n cap,a.eval x= .slice base n cap/\n<=cap:=by
  generalize a.eval x=cv at hvx;obtain⟨B',A',h2,hH,_⟩:=hrd id sS;obtain⟨_,b,hb,_⟩:=hr.blk id B' A' hH
  cases hvx with
  |dangc _ hn=>rw[hb]at hn;cases hn
  |slc _ _ _ _ h5=>exact⟨_,_,_,rfl,h5⟩
 have hys:∃q c,a.eval y= .slice q 0 c:=by
  generalize a.eval y=cv at hvy;generalize hu:deS v=u at hvy hs
  cases hs with
  |nil=>cases hvy;exact⟨_,_,rfl⟩
  |rd=>cases hvy with
   |rd0=>exact⟨_,_,rfl⟩
   |rd=>exact⟨_,_,rfl⟩
  |sl hB hle=>
   rename_i id r B;obtain⟨B',A',h2,hH,_⟩:=hrd id sS;obtain⟨_,b,hb,_⟩:=hr.blk id B' A' hH
   cases hvy with
   |dangs _ hn=>rw[hb]at hn;cases hn
   |sl=>exact⟨_,_,rfl⟩
   |sl0=>exact⟨_,_,rfl⟩
 obtain⟨base,n,cap,ex,hcap⟩:=hxs;obtain⟨q,c,ey⟩:=hys;unfold iD at hz;split at hz
 .rename_i e he;split at hz;.rename_i i hi;rw[ex]at hvx;refine⟨.slice base n cap,?_,hvx⟩;have:=LN (P:=P) w t o.type e i he hi base q n cap c hcap;simp only[execOp,ho,resolve,invoke,builtin,uA,bN,bV,ex,ey,bS,dO,bJ,this]
  cases hz
 cases hz
def kP{r' n' c':Nat}{lo hi:Option Operand}{l h:Int}(ho:o.op= .slice t x lo hi aC)(hB:get id=aA B)(ht:DQ P t=aA B.sz)(hx:ev x=aA (.slc id r n c))
 (hl:bound ev lo 0=aA l) (hh:bound ev hi n=aA h) (h0:0<=l) (h1:l<=h) (h2:h<=c) (e1:r+l.toNat=r') (e2:h.toNat-l.toNat=n') (e3:c-l.toNat=c'):Good P Γ o ev get k ⟨.slc id r' n' c',k,[],[id]⟩:=by subst e1;subst e2;subst e3;exact aTO ho hB ht hx hl hh h0 h1 h2
def jH{m nm:Nat}{rows:List (List AVal)}{ids:List Nat}
 (ho:o.op= .call {callee:= .builtin .append,args:= #[x,y],argTypes:= #[t,t]}) (hz:iD P t=aA (s,by',zrow)) (hx:ev x=aA (.slc id 0 n c)) (hB:get id=aA B) (hBs:B.sz=s) (hy:ev y=aA v) (hs:SrcA get (deS v) s m rows p ids)
 (hone:(rows.all λ row=>row.all one)=aB) (hm:0<m) (hroom:n+m<=c) (hr:n<=B.rows.length) (e1:n+m=nm) (e2:(B.pure&&p)=q):
 Good P Γ o ev get k ⟨.slc id 0 nm c,k,[(id,aA ⟨B.sz,q,gH B.rows rows n⟩)],id::ids⟩:=by subst e1;subst e2;exact aJD ho hz hx hB hBs hy hs hone hm hroom hr
def DS
 (ho:o.op= .call {callee:= .builtin .clear,args:= #[x],argTypes:= #[t]}) (hz:iD P t=aA (s,by',zrow)) (hz1:zrow.all one=aB) (hx:ev x=aA (.slc id r n c)) (hB:get id=aA B) (hBs:B.sz=s) (hn0:0<n) (hr:r+n<=B.rows.length) (e:(B.pure&&aB)=q):
 Good P Γ o ev get k ⟨.junk,k,[(id,aA ⟨B.sz,q,gH B.rows (bI n zrow) r⟩)],[id]⟩:=by subst e;exact aIT ho hz hz1 hx hB hBs hn0 hr
def fI{H:aS}:AM.look ((id,B)::H) id=aA B:=by simp only[AM.look,↓reduceIte]
end
def Dec(w:World)(G:Nat->Prop)(vs:List AVal)(cs:List Value):Prop:=
 vs.length=cs.length/\∀(j:Nat) (v:AVal),vs[j]? =aA v->∃c,cs[j]? =aA c/\V w G bX cQ v c
section
variable{H:Type}{enc:TypeId×Value->H}{P:Program}{w:World}{base:Nat}{sp:Nat->Bool}{held:Bool}{fuel:Nat}{t:TypeId}{cs:List Value}{x:DataW H×List MemPlace}{G:Nat->Prop}
def Dec.one{c:Value}(h:V w G bX cQ v c):Dec w G [v] [c]:=⟨rfl,λ j u hj=>by
 match j with
 |0=>cases hj;exact⟨c,rfl,h⟩
 |j+1=>simp at hj⟩
def Dec.app {a b:List AVal}{c d:List Value}(h:Dec w G a c)(k:Dec w G b d):Dec w G (a++b) (c++d):=by
 refine⟨by rw[bT,bT,h.1,k.1],λ j v hj=>?_⟩;by_cases hlt:j<a.length;.rw[gN hlt]at hj;obtain⟨e,he,hv⟩:=h.2 j v hj;exact⟨e,by rw[gN (by rw[<-h.1];exact hlt)];exact he,hv⟩
 rw[iY oO]at hj;obtain⟨e,he,hv⟩:=k.2 _ v hj;exact⟨e,by rw[iY (by rw[<-h.1];omega),<-h.1];exact he,hv⟩
def qC(ht:P.underlying t=aA (.int k))(h:DataW.trod enc P w base sp held fuel t cs=aA x):∃n,Dec w G [.lit (.int k n)] cs/\(Lit.int k n).wf=aB:=by obtain⟨n,rfl,_,hw⟩:=DataW.trod_int ht h;exact⟨n,.one .lit,hw⟩
def a7F(a:Addr)(i j:Nat)(h:a.spot=aC):(a.add i).add j=⟨a.block,a.off+i+j,aC⟩:=by unfold Addr.add;cases a;simp only at h;subst h;by_cases hi:i=0<;>by_cases hj:j=0<;>simp[hi,hj]
def aRC{α:Type}(F:α->List AVal)(Q:α->Prop)(a0:α)(h0:Q a0){sz:Nat}(hsz:0<sz)(ht:P.underlying t=aA (.slice e))(he:P.cellsOf e=sz)
 (hG:∀b,b<w.heap.size->G b)
 (hel:∀(n:Nat) (cs:List Value) (y:DataW H×List MemPlace),cs.length=sz->DataW.trod enc P w base sp held n e cs=aA y->∃a,Q a/\Dec w G (F a) cs)
 (h:DataW.trod enc P w base sp held fuel t cs=aA x):∃(n:Nat) (f:Nat->α),(∀i,Q (f i))/\Dec w G [.rd sz n (λ i=>F (f i))] cs:=by
 rcases DataW.trod_slice ht h with⟨rfl,_⟩|⟨a,len,cap,elems,rest,n,_,rfl,_,hb,hl,hm,hlen,hels,_,_⟩;.exact⟨0,λ _=>a0,λ _=>h0,.one .rd0⟩
 by_cases hz:len=0;.subst hz;exact⟨0,λ _=>a0,λ _=>h0,.one .rd0⟩
 rw[he]at hels;have each:∀i,i<len->∃ci y,w.cells? base (a.add (i*sz)) sz=aA ci/\DataW.trod enc P w base sp held n e ci=aA y:=λ i hi=>by have h1:=hels i hi;rw[aN oO,cJ]at h1;obtain⟨ci,h2,h3⟩:=h1;exact⟨ci,_,h2,h3⟩
 have each':∀i,∃(ci:List Value) (q:α),Q q/\(i<len->w.cells? base (a.add (i*sz)) sz=aA ci/\Dec w G (F q) ci):=λ i=>by
  by_cases hi:i<len;.obtain⟨ci,y,h1,h2⟩:=each i hi;obtain⟨q,h3,h4⟩:=hel n ci y (World.cells?_some h1).2.1 h2;exact⟨ci,q,h3,λ _=>⟨h1,h4⟩⟩
  exact⟨[],a0,h0,λ h=>absurd h hi⟩
 let ci:=λ i=>Classical.choose (each' i);let f:=λ i=>Classical.choose (Classical.choose_spec (each' i));have hf:∀i,Q (f i)/\(i<len->w.cells? base (a.add (i*sz)) sz=aA (ci i)/\Dec w G (F (f i)) (ci i)):=λ i=>Classical.choose_spec (Classical.choose_spec (each' i))
 have hspot:a.spot=aC:=by
  have h1:=(World.cells?_some ((hf 0).2 oO).1);have h2:=h1.2.2 0 hsz;rw[rT]at h2;have h3:a.add 0=a:=by simp[Addr.add]
  rw[h3,h3,aN (by rw[h1.2.1];exact hsz)]at h2;unfold World.cell? at h2
  cases hs:a.spot with
  |none=>rfl
  |some s=>rw[hs]at h2;split at h2<;>simp at h2
 have hcell:∀i j,i<len->j<sz->w.cell? ⟨a.block,a.off+i*sz+j,aC⟩=(ci i)[j]? :=λ i j hi hj=>by have h1:=(World.cells?_some ((hf i).2 hi).1).2.2 j hj;rwa [a7F a _ _ hspot]at h1
 have hcl:∀i,i<len->(ci i).length=sz:=λ i hi=>(World.cells?_some ((hf i).2 hi).1).2.1;have hFl:∀i,i<len->(F (f i)).length=sz:=λ i hi=>by rw[((hf i).2 hi).2.1,hcl i hi]
 have hblk:a.block<w.heap.size:=by
  have h1:=hcell 0 0 oO hsz;rw[aN (by rw[hcl 0 oO];exact hsz)]at h1;by_cases hb:a.block<w.heap.size;.exact hb
  unfold World.cell? at h1;simp only at h1;rw[iS oO]at h1;cases h1
 refine⟨len,f,λ i=>(hf i).1,.one ?_⟩;have ea:a=⟨a.block,a.off,aC⟩:=by cases a;simp only at hspot;rw[hspot]
 rw[ea];refine .rd (λ i j=>(ci i).getD j undef) (hG _ hblk) hl oO hFl (λ i j v hi hj=>?_) (λ i j v hi hj=>?_)
 .obtain⟨c,h1,h2⟩:=((hf i).2 hi).2.2 j v hj;have hj':j<sz:=by rw[<-hcl i hi];exact(aL.1 h1).1
  rw[hcell i j hi hj',h1];simp[aU,h1]
 obtain⟨c,h1,h2⟩:=((hf i).2 hi).2.2 j v hj;simp only[aU,h1,LB];exact h2
def a7J{cs:Array Value}{ρ:dH}{A:cF}(h:Dec w G vs cs.toList):V w G ρ A (.agg vs) (.agg cs):=by
 have h1:V w G bX cQ (.agg vs) (.agg cs):= .agg (by rw[h.1];simp) λ j v hj=>by
  obtain⟨c,h2,h3⟩:=h.2 j v hj;have:cs.getD j undef=c:=by rw[bH]at h2;simp[aM,h2]
  rw[this];exact h3
 exact h1.mono (λ _ h=>h) (λ _ _=>rfl) (λ _ _=>rfl) (λ _ h=>h.elim) (λ _ h=>h.elim)
end
end Go.AM
end
section
namespace Go.AM
open Go Go.RowKit
variable{cs:Array Value}{k:IntKind}{vs:List AVal}{g:Nat}{G:Nat->Prop}{P:Program}{name:String}{u v:Value}{w:World}{A:cF}{ρ:dH}
def TF{w':World}(h:Below w.heap.size w w')(may:MemPlace->Prop):w.keptBut w' may:=by
 refine⟨h.os,h.output,λ i hi=>?_⟩;rw[h.block i hi]
 cases w.heap[i]? with
 |none=>rfl
 |some o=>cases o<;>simp
def GlobIs(w:World)(G:Nat->Prop)(g:Nat)(cells:List AVal):Prop:=
 V w G bX cQ (.rp cells) (.pointer (aA ⟨g,0,aC⟩))/\G g/\∃C ty x,w.heap[g]? =aA (.cells C ty x)/\C.size=cells.length
def mV{Γ:dW}{f:FuncId}{r:AVal}(hn:vs.all (bd λ _=>aF)=aB)
 (h:∀w G args,(∀g cells,look Γ g=aA cells->GlobIs w G g cells)->Vs w G bX cQ vs args→
   Calls P f args w λ e w'=>∃cv,e= .returned cv/\Below w.heap.size w w'/\V w' (λ b=>G b\/(w.heap.size<=b/\b<w'.heap.size)) bX cQ r cv):Pure P Γ f vs r:=λ k=>by
 intro A hA w G ρ cargs hr hvs
 have hρ:ρ=bX:=funext λ id=>hr.dom id rfl
 subst hρ
 have hv':Vs w G bX cQ vs cargs:=⟨hvs.1,λ j u hj=>
  (aEX (hvs.2 j u hj) (iR hn hj)).mono (λ _ h=>h) (λ _ _=>rfl) (λ _ _=>rfl) (λ i hi=>by simp at hi) (λ _ _=> .inr rfl)⟩
 refine(h w G cargs hr.glob hv').mono ?_
 rintro e w' ⟨cv,rfl,hb,hv1⟩
 have hst:Step (lX k) w G bX w' (λ b=>G b\/(w.heap.size<=b/\b<w'.heap.size)) bX:=
  ⟨hb.size,λ b hlt _=>hb.block b hlt,λ b hlt=>shp_of (hb.block b hlt),λ _ h=> .inl h,λ b h=>h.elim .inl (λ h=> .inr (.inr h.1)),λ _ h=> .inl h,λ _ _=> .inr rfl,hb.os,hb.tape,hb.output⟩
 exact⟨cv,_,bX,k,r,[],rfl,⟨rfl,rfl,rfl⟩,aJ _,
  ⟨λ _ _=>rfl,λ id B A' hid=>by simp[bK,look]at hid,hr.inj,λ b hb'=>hb'.elim (λ h=>oW (hr.ro b h) hb.size) (λ h=>h.2),KM hr hst⟩,
  hv1.mono (λ _ h=>h) (λ _ _=>rfl) (λ _ _=>rfl) (λ _ h=>h.elim) (λ _ _=> .inr rfl),hst⟩
def GlobIs.cell{cells:List AVal}(h:GlobIs w G g cells){j:Nat}(hj:cells[j]? =aA (.lit v)):w.cell? ⟨g,j,aC⟩=aA v:=by
 obtain⟨hv,_⟩:=h
 cases hv with
 |rp gg hG hc hV=>have h1:=hc j _ hj;have h2:=hV j _ hj;rw[eQ]at h1;rw[h1];cases h2;rfl
def GlobIs.tab{zs:List Int}(hg:P.globalNamed name=aA g)(h:GlobIs w G g (zs.map λ z=> .lit (.int k z))):Lib.TabIs P w name k zs:=by
 have hc:=λ j (v:Value)=>h.cell (j:=j) (v:=v);obtain⟨_,_,C,ty,x,h3,h4⟩:=h;unfold Lib.TabIs World.var?;rw[hg,bVF,h3];refine congrArg aA (aJX (by simpa using h4) λ i h1 h2=>?_);have hi:i<zs.length:=by simpa using h2
 have:=hc i (.int k zs[i]) (by simp[hi]);unfold World.cell? at this;simp only[h3,sZ,bP,if_false]at this;rw[aW h1]at this;simpa using this
def V_lit{cv:Value}(h:V w G ρ A (.lit u) cv):cv=u:=by cases h;rfl
def aJO(h:Vs w G ρ A [.lit u] cs):cs= #[u]:=by
 obtain⟨h1,h2⟩:=h;have e:=V_lit (h2 0 _ rfl);have hs:cs.size=1:=by simpa using h1.symm
 refine aJX (by simp[hs]) λ i hi hj=>?_;have:i=0:=oO;subst this;rw[aM,aW hi]at e;simpa using e
def ZX(h:Vs w G ρ A [.lit u,.lit v] cs):cs= #[u,v]:=by
 obtain⟨h1,h2⟩:=h;have e:=V_lit (h2 0 _ rfl);have e':=V_lit (h2 1 _ rfl);have hs:cs.size=2:=by simpa using h1.symm
 refine aJX (by simp[hs]) λ i hi hj=>?_;rw[aM]at e e';have:i=0\/i=1:=oO;rcases this with rfl|rfl;.rw[aW hi]at e;simpa using e
 rw[aW hi]at e';simpa using e'
end Go.AM
end
section
namespace Go.AM
open Go
variable{r:AVal}{args:List AVal}{G:Nat->Prop}
section
variable{P:Program}{Γ:dW}
def HRel.fz{w:World}{ρ:dH}{H:mP}{A:cF}(hr:HRel Γ w G ρ H):HRel Γ w (λ b=>G b\/mK ρ b) bX (bK [] A):=
 ⟨λ _ _=>rfl,λ id B A' hid=>(by simp[bK,look]at hid),λ i j b s t h=>(by cases h),λ b hb=>hb.elim (hr.ro b) (λ h=>hr.owned_lt h),λ g cells hg=>by obtain⟨h1,h2,h3⟩:=hr.glob g cells hg;exact⟨h1.mono (λ _ h=> .inl h) (λ _ _=>rfl) (λ _ _=>rfl) (λ _ h=>h) (λ _ h=>h.elim),.inl h2,h3⟩⟩
def a1B{kb k:Nat}{fr fr':Fr}{H:aS}(h:∀t v,look fr' t=aA v->∃u,look fr t=aA u/\VLe u v):Mv kb k fr H k fr' H:=λ hk=>⟨hk,λ Γ nt A0 w G ρ a hA hi=>
 ⟨G,ρ,⟨hi.rel,hi.size,hi.defers,λ t v hv=>by obtain⟨u,hu,hle⟩:=h t v hv;exact hle _ _ _ _ _ (hi.frm t u hu)⟩,lF _ _ _ _⟩⟩
def a0X{f:FuncId}{args':List AVal}(h:Pure P Γ f args' r)(hle:VLes args args'):Pure P Γ f args r:=λ k A hA w G ρ cargs h1 h2=>
 h k A hA w G ρ cargs h1 ⟨by rw[←(hle.spec).1];exact h2.1,λ j v hj=>by
  obtain⟨e1,e2⟩:=hle.spec;have hlt:j<args.length:=by have:=(aL.1 hj).1;omega
  exact e2 j _ v (aN hlt) hj _ _ _ _ _ (h2.2 j _ (aN hlt))⟩
def a0W{f:FuncId}{fn:Func}(hf:P.funcs[f]? =aA fn)(hb:fn.body.isSome=aB)(nt:Nat)(hnt:fn.ntmps=nt)(hn:args.length<=nt)(ha:args.all (bd λ _=>aF)=aB)(hr:bd (λ _=>aF) r=aB)
 (h:W P Γ nt 0 (gV (gD fn) []) (AG P fn (λ _ r1 _=>VLe r1 r)) 0 (tU 0 args) []):Pure P Γ f args r:=λ k=>by
 have hT:=bR hf hb nt hnt hn h
 intro A hA w G ρ cargs hr0 hvs
 have hρ:ρ=bX:=funext λ id=>hr0.dom id rfl
 subst hρ
 have hno:∀w1 G1 ρ1 A1 A2 u cu,V w1 G1 ρ1 A1 u cu->bd (λ _=>aF) u=aB->V w1 G1 ρ1 A2 u cu:=λ w1 G1 ρ1 A1 A2 u cu h hb=>
  (aEX h hb).mono (λ _ h=>h) (λ _ _=>rfl) (λ _ _=>rfl) (λ i hi=>by simp at hi) (λ _ _=> .inr rfl)
 refine(hT cQ (λ i hi=>hi.elim) w G bX cargs ⟨λ _ _=>rfl,λ id B A' hid=>by simp[bK,look]at hid,hr0.inj,hr0.ro,hr0.glob⟩ ⟨hvs.1,λ j u hj=>hno _ _ _ _ _ _ _ (hvs.2 j u hj) (iR ha hj)⟩).mono ?_
 rintro e w' ⟨cv,G',ρ',k1,r1,H1,rfl,hle,hk1,hrel1,hv1,hst⟩
 refine⟨cv,λ b=>G' b\/mK ρ' b,bX,k,r,[],rfl,⟨rfl,rfl,rfl⟩,aJ _,hrel1.fz,?_,⟨hst.size,hst.keep,hst.shape,λ b hb=> .inl (hst.g b hb),λ b hb=>hb.elim (hst.g' b) (λ h=> .inr (hst.own b h)),λ b ⟨_,_,h⟩=>(by cases h),λ id _=> .inl rfl,hst.os,hst.tape,hst.output⟩⟩
 exact(aEX (hle _ _ _ _ _ hv1) hr).mono (λ _ h=> .inl h) (λ _ _=>rfl) (λ _ _=>rfl) (λ i hi=>by simp at hi) (λ i hi=>by simp at hi)
end
end Go.AM
end
