import Derived.Test.YteimiejbhhgljaaGreatDoorZAF
import Derived.ChangeArms
import Derived.DataReads
import Derived.Carry
import Derived.ProofKit
import Derived.LaidMore
import Derived.OpenShut
import Derived.Stop.Joined
import Derived.Lib.LaidTab
set_option linter.unusedVariables false
set_option linter.unusedSimpArgs false
set_option maxHeartbeats 0
set_option maxRecDepth 100000
open Array renaming ext->aFB,getD_eq_getD_getElem?->aD,getElem?_eq_getElem->aP,getElem?_eq_none->gH,getElem?_toList->bA
open Bool renaming false_eq_true->aO
open List renaming getD_eq_getElem?_getD->bD,getElem?_append_left->fU,getElem?_append_right->gQ,getElem?_eq_getElem->aE,getElem?_eq_some_iff->aG,getElem_mem->bKH,length_append->bQ,map->jL,map_append->aH,map_cons->bG,map_map->jD,map_nil->aV,range->aM,range_succ->CI,replicate->eI
open Nat renaming add_assoc->fS,add_sub_cancel->rN,add_sub_cancel_left->iW,le_refl->aF,lt_of_lt_of_le->oE,mul_one->bAM,sub_self->PG,zero_add->dV,zero_mul->tM
open Option renaming bind_eq_some_iff->bX,bind_some->bKF,isSome_none->lA,map_eq_none_iff->dG,map_eq_some_iff->aB
open Go.Result renaming andThen_ok->bI
open Go.Sem renaming run_bind->bO,run_pure->dP
section
namespace Go.Proofs.T
open Go Go.AM Go.Proofs
variable{Γ:List (Nat×List AVal)}
instance:Inhabited Tk:=⟨⟨0,0,0,0,0,false,0,0⟩⟩
instance:Inhabited Sp:=⟨⟨0,0,0⟩⟩
structure LSt where
 cpus:Int
 credit:Int
 gl:List (Int×Int)
 kl:List Int
 ul:List Int
 tl:List Tk
 sl:List (List Sp)
def LSt.st (L:LSt):St:=⟨L.cpus,L.credit,L.gl.length,λ i=>(L.gl.getD i (0,0)).1,λ i=>(L.gl.getD i (0,0)).2,L.kl.length,λ i=>L.kl.getD i 0,L.ul.length,λ i=>L.ul.getD i 0,L.tl.length,λ i=>L.tl.getD i default,
 L.sl.length,λ g=>(L.sl.getD g []).length,λ g c=>(L.sl.getD g []).getD c default⟩
def LSt.sp (L:LSt)(g c:Nat):Sp:=(L.sl.getD g []).getD c default
def LSt.par (L:LSt)(g:Nat):Int:=(L.gl.getD g (0,0)).1
def LSt.wt (L:LSt)(g:Nat):Int:=(L.gl.getD g (0,0)).2
def LSt.tsk (L:LSt)(i:Nat):Tk:=L.tl.getD i default
def LSt.clk (L:LSt)(c:Nat):Int:=L.kl.getD c 0
def LSt.cur (L:LSt)(c:Nat):Int:=L.ul.getD c 0
def tkc(k:Tk):List AVal:=[.lit (.int .i64 k.id),.lit (.int .i64 k.group),.lit (.int .i64 k.weight),.lit (.int .i64 k.cpu),.lit (.int .u64 k.mask),.lit (.bool k.ready),.lit (.int .u64 k.v),.lit (.int .u32 k.r)]
def spc(k:Sp):List AVal:=[.lit (.int .u64 k.v),.lit (.int .u32 k.r),.lit (.int .u64 k.floor)]
def glc(g:Int×Int):List AVal:=[.lit (.int .i64 g.1),.lit (.int .i64 g.2)]
def inc(n:Int):List AVal:=[.lit (.int .i64 n)]
def glR(L:LSt):List (List AVal):=L.gl.map glc
def klR(L:LSt):List (List AVal):=L.kl.map inc
def ulR(L:LSt):List (List AVal):=L.ul.map inc
def tlR(L:LSt):List (List AVal):=L.tl.map tkc
def slR(L:LSt)(g:Nat):List (List AVal):=(L.sl.getD g []).map spc
def ouF(m:Nat)(L:LSt)(g:Nat):List AVal:=[.sl (m+6+g) 0 (L.sl.getD g []).length]
def ouR(m:Nat)(L:LSt):List (List AVal):=(aM L.sl.length).map (ouF m L)
def a6X(m tk:Nat)(L:LSt):List AVal:=[.lit (.int .i64 L.cpus),.lit (.int .u64 L.credit),.sl (m+1) 0 L.gl.length,.sl (m+2) 0 L.kl.length,.sl (m+3) 0 L.ul.length,.sl tk 0 L.tl.length,.sl (m+5) 0 L.sl.length,.lit (.bool true)]
def LH(m tk:Nat)(L:LSt):aS:=(m+1,⟨2,true,glR L⟩)::(m+2,⟨1,true,klR L⟩)::(m+3,⟨1,true,ulR L⟩)::(m+5,⟨1,false,ouR m L⟩)::(tk,⟨8,true,tlR L⟩)::mK (m+6) 3 L.sl.length (slR L)
def MH(m tk:Nat)(L:LSt):aS:=(m,⟨8,false,[a6X m tk L]⟩)::LH m tk L
theorem aKD{m s n g:Nat}{R:Nat->List (List AVal)}(h:g<n):AM.look (mK (m+6) s n R) (m+(6+g))=some ⟨s,true,R g⟩:=by rw[<-fS];exact uB h
theorem aIU{m s n g:Nat}{R:Nat->List (List AVal)}{rows:List (List AVal)}(h:g<n):zQ (mK (m+6) s n R) (m+(6+g)) ⟨s,true,rows⟩=mK (m+6) s n (λ j=>if j=g then rows else R j):=by rw[<-fS];exact KT h
attribute [go_sem] aKD aIU
attribute [go_sem] tkc spc a6X
end Go.Proofs.T
end
section
namespace Go.AM
open Go
section
variable{P:Program}{kb:Nat}{k:Nat}{fr:Fr}{H:aS}
theorem bAN (id n:Nat){s:Nat}{p:Bool}{rows:List (List AVal)}(hB:AM.look H id=some ⟨s,p,rows⟩):Mv kb k fr H k fr (zQ H id ⟨s,p,rows.take n⟩):=λ hkb=>⟨hkb,λ Γ nt A0 w G ρ ac hA hi=>by
 refine⟨G,ρ,⟨⟨λ i h=>?_,λ i B' A h=>?_,hi.rel.inj,hi.rel.ro,hi.rel.glob⟩,hi.size,hi.defers,hi.frm⟩,jT _ _ _ _⟩
 .simp only[bK,dG,BK]at h;split at h;.cases h
  exact hi.rel.dom i (by simp[bK,h])
 simp only[bK,aB,BK]at h;obtain⟨B1,h,he⟩:=h;cases he;split at h;.rename_i e;subst e;cases h;obtain⟨h1,b,h2,h3,⟨⟨C,ty,hC,hrows⟩,hlen⟩⟩:=hi.rel.blk i ⟨s,p,rows⟩ (jA A0 kb k) (by simp[bK,hB]);exact⟨h1,b,h2,h3,⟨⟨C,ty,hC,λ r row c v h5 h6=>hrows r row c v (WC h5).2 h6⟩,λ r row h5=>hlen r row (WC h5).2⟩⟩
 exact hi.rel.blk i _ _ (by simp[bK,h])⟩
end
section
variable{P:Program}{Γ:List (Nat×List AVal)}{o:Oper}{ev:Operand->Option AVal}{get:Nat->Option Blk}{k:Nat}
theorem aLT{t s s' by' id r n c:Nat}{x y:Operand}{v:AVal}{zrow:List AVal}{rows:List (List AVal)}{p:Bool}{ids:List Nat}{B:Blk}(ho:o.op= .call {callee:= .builtin .append,args:= #[x,y],argTypes:= #[t,t]})(hz:iB P t=some (s,by',zrow))
 (hx:ev x=some (.slc id r n c)) (hB:get id=some B) (hy:ev y=some v) (hs:SrcA get (deS v) s' 0 rows p ids):
 Good P Γ o ev get k ⟨.slc id r n c,k,[],id::ids⟩:=by
 refine⟨cE λ w G ρ H A a hr hrd hop=>?_,aOV hB hs.some,aF _⟩;have hvx:=hop x (by simp[ho,Op.operands,Call.operands]) _ hx;have hvy:=aST (hop y (by simp[ho,Op.operands,Call.operands]) _ hy)
 have hxs:∃base n cap,a.eval x= .slice base n cap/\n<=cap:=by
  generalize a.eval x=cv at hvx;obtain⟨B',A',h2,hH,_⟩:=hrd id sS;obtain⟨_,b,hb,_⟩:=hr.blk id B' A' hH
  cases hvx with
  |dangc _ hn=>rw[hb]at hn;cases hn
  |slc _ _ _ _ h5=>exact⟨_,_,_,rfl,h5⟩
 have hys:∃q c,a.eval y= .slice q 0 c:=by
  generalize a.eval y=cv at hvy;generalize hu:deS v=u at hvy hs
  cases hs with
  |nil=>cases hvy;exact⟨_,_,rfl⟩
  |rd=>cases hvy with
   |rd0=>exact⟨_,_,rfl⟩
   |rd=>exact⟨_,_,rfl⟩
  |sl hB hle=>
   rename_i id r B;obtain⟨B',A',h2,hH,_⟩:=hrd id sS;obtain⟨_,b,hb,_⟩:=hr.blk id B' A' hH
   cases hvy with
   |dangs _ hn=>rw[hb]at hn;cases hn
   |sl=>exact⟨_,_,rfl⟩
   |sl0=>exact⟨_,_,rfl⟩
 obtain⟨base,n,cap,ex,hcap⟩:=hxs;obtain⟨q,c,ey⟩:=hys;unfold iB at hz;split at hz
 .rename_i e he;split at hz;.rename_i i hi;rw[ex]at hvx;refine⟨.slice base n cap,?_,hvx⟩;have:=HW (P:=P) w t o.type e i he hi base q n cap c hcap;simp only[execOp,ho,resolve,invoke,builtin,List.map_toArray,bG,aV,ex,ey,bO,dP,bI,this]
  cases hz
 cases hz
theorem PT{t id r n c r' n' c':Nat}{x:Operand}{lo hi:Option Operand}{B:Blk}{l h:Int}(ho:o.op= .slice t x lo hi none)(hB:get id=some B)(ht:CD P t=some B.sz)(hx:ev x=some (.slc id r n c))
 (hl:bound ev lo 0=some l) (hh:bound ev hi n=some h) (h0:0<=l) (h1:l<=h) (h2:h<=c) (e1:r+l.toNat=r') (e2:h.toNat-l.toNat=n') (e3:c-l.toNat=c'):Good P Γ o ev get k ⟨.slc id r' n' c',k,[],[id]⟩:=by subst e1;subst e2;subst e3;exact aNY ho hB ht hx hl hh h0 h1 h2
theorem ZH{x:Operand}{t id r n c s by':Nat}{zrow:List AVal}{B:Blk}{q:Bool}
 (ho:o.op= .call {callee:= .builtin .clear,args:= #[x],argTypes:= #[t]}) (hz:iB P t=some (s,by',zrow)) (hz1:zrow.all one=true) (hx:ev x=some (.slc id r n c)) (hB:get id=some B) (hBs:B.sz=s) (hn0:0<n) (hr:r+n<=B.rows.length) (e:(B.pure&&true)=q):
 Good P Γ o ev get k ⟨.junk,k,[(id,some ⟨B.sz,q,pX B.rows (eI n zrow) r⟩)],[id]⟩:=by subst e;exact aDU ho hz hz1 hx hB hBs hn0 hr
theorem EJ{id:Nat}{B:Blk}{H:aS}:AM.look ((id,B)::H) id=some B:=by simp only[AM.look,↓reduceIte]
end
def Dec(w:World)(G:Nat->Prop)(vs:List AVal)(cs:List Value):Prop:=
 vs.length=cs.length/\∀(j:Nat) (v:AVal),vs[j]? =some v->∃c,cs[j]? =some c/\V w G bR cF v c
section
variable{H:Type}{qS:TypeId×Value->H}{P:Program}{w:World}{base:Nat}{sp:Nat->Bool}{held:Bool}{fuel:Nat}{t:TypeId}{cs:List Value}{x:DataW H×List MemPlace}{G:Nat->Prop}
theorem Dec.one {v:AVal}{c:Value}(h:V w G bR cF v c):Dec w G [v] [c]:=⟨rfl,λ j u hj=>by
 match j with
 |0=>cases hj;exact⟨c,rfl,h⟩
 |j+1=>simp at hj⟩
theorem Dec.app {a b:List AVal}{c d:List Value}(h:Dec w G a c)(k:Dec w G b d):Dec w G (a++b) (c++d):=by
 refine⟨by rw[bQ,bQ,h.1,k.1],λ j v hj=>?_⟩;by_cases hlt:j<a.length;.rw[fU hlt]at hj;obtain⟨e,he,hv⟩:=h.2 j v hj;exact⟨e,by rw[fU (by rw[<-h.1];exact hlt)];exact he,hv⟩
 rw[gQ oO]at hj;obtain⟨e,he,hv⟩:=k.2 _ v hj;exact⟨e,by rw[gQ (by rw[<-h.1];omega),<-h.1];exact he,hv⟩
theorem iK{k:IntKind}(ht:P.underlying t=some (.int k))(h:DataW.trod qS P w base sp held fuel t cs=some x):∃n,Dec w G [.lit (.int k n)] cs/\(Lit.int k n).wf=true:=by obtain⟨n,rfl,_,hw⟩:=DataW.trod_int ht h;exact⟨n,.one .lit,hw⟩
theorem aSR(ht:P.underlying t=some .bool)(h:DataW.trod qS P w base sp held fuel t cs=some x):∃b,Dec w G [.lit (.bool b)] cs:=by obtain⟨b,rfl,_⟩:=DataW.trod_bool ht h;exact⟨b,.one .lit⟩
theorem a0K(a:Addr)(i j:Nat)(h:a.spot=none):(a.add i).add j=⟨a.block,a.off+i+j,none⟩:=by unfold Addr.add;cases a;simp only at h;subst h;by_cases hi:i=0<;>by_cases hj:j=0<;>simp[hi,hj]
theorem lJ{e:TypeId}{α:Type}(F:α->List AVal)(Q:α->Prop)(a0:α)(h0:Q a0){sz:Nat}(hsz:0<sz)(ht:P.underlying t=some (.slice e))(he:P.cellsOf e=sz)
 (hG:∀b,b<w.heap.size->G b)
 (hel:∀(n:Nat) (cs:List Value) (y:DataW H×List MemPlace),cs.length=sz->DataW.trod qS P w base sp held n e cs=some y->∃a,Q a/\Dec w G (F a) cs)
 (h:DataW.trod qS P w base sp held fuel t cs=some x):∃(n:Nat) (f:Nat->α),(∀i,Q (f i))/\Dec w G [.rd sz n (λ i=>F (f i))] cs:=by
 rcases DataW.trod_slice ht h with⟨rfl,_⟩|⟨a,len,cap,elems,rest,n,_,rfl,_,hb,hl,hm,hlen,hels,_,_⟩;.exact⟨0,λ _=>a0,λ _=>h0,.one .rd0⟩
 by_cases hz:len=0;.subst hz;exact⟨0,λ _=>a0,λ _=>h0,.one .rd0⟩
 rw[he]at hels;have each:∀i,i<len->∃ci y,w.cells? base (a.add (i*sz)) sz=some ci/\DataW.trod qS P w base sp held n e ci=some y:=λ i hi=>by have h1:=hels i hi;rw[aE oO,bX]at h1;obtain⟨ci,h2,h3⟩:=h1;exact⟨ci,_,h2,h3⟩
 have each':∀i,∃(ci:List Value) (q:α),Q q/\(i<len->w.cells? base (a.add (i*sz)) sz=some ci/\Dec w G (F q) ci):=λ i=>by
  by_cases hi:i<len;.obtain⟨ci,y,h1,h2⟩:=each i hi;obtain⟨q,h3,h4⟩:=hel n ci y (World.cells?_some h1).2.1 h2;exact⟨ci,q,h3,λ _=>⟨h1,h4⟩⟩
  exact⟨[],a0,h0,λ h=>absurd h hi⟩
 let ci:=λ i=>Classical.choose (each' i);let f:=λ i=>Classical.choose (Classical.choose_spec (each' i));have hf:∀i,Q (f i)/\(i<len->w.cells? base (a.add (i*sz)) sz=some (ci i)/\Dec w G (F (f i)) (ci i)):=λ i=>Classical.choose_spec (Classical.choose_spec (each' i))
 have hspot:a.spot=none:=by
  have h1:=(World.cells?_some ((hf 0).2 oO).1);have h2:=h1.2.2 0 hsz;rw[tM]at h2;have h3:a.add 0=a:=by simp[Addr.add]
  rw[h3,h3,aE (by rw[h1.2.1];exact hsz)]at h2;unfold World.cell? at h2
  cases hs:a.spot with
  |none=>rfl
  |some s=>rw[hs]at h2;split at h2<;>simp at h2
 have hcell:∀i j,i<len->j<sz->w.cell? ⟨a.block,a.off+i*sz+j,none⟩=(ci i)[j]? :=λ i j hi hj=>by have h1:=(World.cells?_some ((hf i).2 hi).1).2.2 j hj;rwa [a0K a _ _ hspot]at h1
 have hcl:∀i,i<len->(ci i).length=sz:=λ i hi=>(World.cells?_some ((hf i).2 hi).1).2.1;have hFl:∀i,i<len->(F (f i)).length=sz:=λ i hi=>by rw[((hf i).2 hi).2.1,hcl i hi]
 have hblk:a.block<w.heap.size:=by
  have h1:=hcell 0 0 oO hsz;rw[aE (by rw[hcl 0 oO];exact hsz)]at h1;by_cases hb:a.block<w.heap.size;.exact hb
  unfold World.cell? at h1;simp only at h1;rw[gH oO]at h1;cases h1
 refine⟨len,f,λ i=>(hf i).1,.one ?_⟩;have ea:a=⟨a.block,a.off,none⟩:=by cases a;simp only at hspot;rw[hspot]
 rw[ea];refine .rd (λ i j=>(ci i).getD j undef) (hG _ hblk) hl oO hFl (λ i j v hi hj=>?_) (λ i j v hi hj=>?_)
 .obtain⟨c,h1,h2⟩:=((hf i).2 hi).2.2 j v hj;have hj':j<sz:=by rw[<-hcl i hi];exact(aG.1 h1).1
  rw[hcell i j hi hj',h1];simp[bD,h1]
 obtain⟨c,h1,h2⟩:=((hf i).2 hi).2.2 j v hj;simp only[bD,h1,Option.getD_some];exact h2
theorem VK {vs:List AVal}{cs:Array Value}{ρ:cM}{A:bU}(h:Dec w G vs cs.toList):V w G ρ A (.agg vs) (.agg cs):=by
 have h1:V w G bR cF (.agg vs) (.agg cs):= .agg (by rw[h.1];simp) λ j v hj=>by
  obtain⟨c,h2,h3⟩:=h.2 j v hj;have:cs.getD j undef=c:=by rw[bA]at h2;simp[aD,h2]
  rw[this];exact h3
 exact h1.mono (λ _ h=>h) (λ _ _=>rfl) (λ _ _=>rfl) (λ _ h=>h.elim) (λ _ h=>h.elim)
end
end Go.AM
end
section
namespace Go.AM
open Go Go.RowKit
theorem OP{w w':World}(h:Below w.heap.size w w')(may:MemPlace->Prop):w.keptBut w' may:=by
 refine⟨h.os,h.output,λ i hi=>?_⟩;rw[h.block i hi]
 cases w.heap[i]? with
 |none=>rfl
 |some o=>cases o<;>simp
def GlobIs(w:World)(G:Nat->Prop)(g:Nat)(cells:List AVal):Prop:=
 V w G bR cF (.rp cells) (.pointer (some ⟨g,0,none⟩))/\G g/\∃C ty x,w.heap[g]? =some (.cells C ty x)/\C.size=cells.length
theorem lX{P:Program}{Γ:List (Nat×List AVal)}{f:FuncId}{vs:List AVal}{r:AVal}(hn:vs.all (bd λ _=>false)=true)
 (h:∀w G args,(∀g cells,look Γ g=some cells->GlobIs w G g cells)->Vs w G bR cF vs args→
   Calls P f args w λ e w'=>∃cv,e= .returned cv/\Below w.heap.size w w'/\V w' (λ b=>G b\/(w.heap.size<=b/\b<w'.heap.size)) bR cF r cv):Pure P Γ f vs r:=λ k=>by
 intro A hA w G ρ cargs hr hvs
 have hρ:ρ=bR:=funext λ id=>hr.dom id rfl
 subst hρ
 have hv':Vs w G bR cF vs cargs:=⟨hvs.1,λ j u hj=>
  (aEV (hvs.2 j u hj) (gP hn hj)).mono (λ _ h=>h) (λ _ _=>rfl) (λ _ _=>rfl) (λ i hi=>by simp at hi) (λ _ _=> .inr rfl)⟩
 refine(h w G cargs hr.glob hv').mono ?_
 rintro e w' ⟨cv,rfl,hb,hv1⟩
 have hst:Step (kN k) w G bR w' (λ b=>G b\/(w.heap.size<=b/\b<w'.heap.size)) bR:=
  ⟨hb.size,λ b hlt _=>hb.block b hlt,λ b hlt=>shp_of (hb.block b hlt),λ _ h=> .inl h,λ b h=>h.elim .inl (λ h=> .inr (.inr h.1)),λ _ h=> .inl h,λ _ _=> .inr rfl,hb.os,hb.tape,hb.output⟩
 exact⟨cv,_,bR,k,r,[],rfl,⟨rfl,rfl,rfl⟩,aF _,
  ⟨λ _ _=>rfl,λ id B A' hid=>by simp[bK,look]at hid,hr.inj,λ b hb'=>hb'.elim (λ h=>oE (hr.ro b h) hb.size) (λ h=>h.2),GW hr hst⟩,
  hv1.mono (λ _ h=>h) (λ _ _=>rfl) (λ _ _=>rfl) (λ _ h=>h.elim) (λ _ _=> .inr rfl),hst⟩
theorem GlobIs.cell {w:World}{G:Nat->Prop}{g:Nat}{cells:List AVal}(h:GlobIs w G g cells){j:Nat}{v:Value}(hj:cells[j]? =some (.lit v)):w.cell? ⟨g,j,none⟩=some v:=by
 obtain⟨hv,_⟩:=h
 cases hv with
 |rp gg hG hc hV=>have h1:=hc j _ hj;have h2:=hV j _ hj;rw[dV]at h1;rw[h1];cases h2;rfl
theorem GlobIs.tab {P:Program}{w:World}{G:Nat->Prop}{g:Nat}{name:String}{k:IntKind}{zs:List Int}(hg:P.globalNamed name=some g)(h:GlobIs w G g (zs.map λ z=> .lit (.int k z))):Lib.TabIs P w name k zs:=by
 have hc:=λ j (v:Value)=>h.cell (j:=j) (v:=v);obtain⟨_,_,C,ty,x,h3,h4⟩:=h;unfold Lib.TabIs World.var?;rw[hg,bKF,h3];refine congrArg some (aFB (by simpa using h4) λ i h1 h2=>?_);have hi:i<zs.length:=by simpa using h2
 have:=hc i (.int k zs[i]) (by simp[hi]);unfold World.cell? at this;simp only[h3,lA,aO,if_false]at this;rw[aP h1]at this;simpa using this
theorem V_lit{w:World}{G:Nat->Prop}{ρ:cM}{A:bU}{u cv:Value}(h:V w G ρ A (.lit u) cv):cv=u:=by cases h;rfl
theorem aET{w:World}{G:Nat->Prop}{ρ:cM}{A:bU}{u:Value}{cs:Array Value}(h:Vs w G ρ A [.lit u] cs):cs= #[u]:=by
 obtain⟨h1,h2⟩:=h;have e:=V_lit (h2 0 _ rfl);have hs:cs.size=1:=by simpa using h1.symm
 refine aFB (by simp[hs]) λ i hi hj=>?_;have:i=0:=oO;subst this;rw[aD,aP hi]at e;simpa using e
theorem VI{w:World}{G:Nat->Prop}{ρ:cM}{A:bU}{u v:Value}{cs:Array Value}(h:Vs w G ρ A [.lit u,.lit v] cs):cs= #[u,v]:=by
 obtain⟨h1,h2⟩:=h;have e:=V_lit (h2 0 _ rfl);have e':=V_lit (h2 1 _ rfl);have hs:cs.size=2:=by simpa using h1.symm
 refine aFB (by simp[hs]) λ i hi hj=>?_;rw[aD]at e e';have:i=0\/i=1:=oO;rcases this with rfl|rfl;.rw[aP hi]at e;simpa using e
 rw[aP hi]at e';simpa using e'
end Go.AM
end
section
namespace Go.AM
open Go
section
variable{P:Program}{Γ:List (Nat×List AVal)}
theorem HRel.fz {w:World}{G:Nat->Prop}{ρ:cM}{H:lP}{A:bU}(hr:HRel Γ w G ρ H):HRel Γ w (λ b=>G b\/oI ρ b) bR (bK [] A):=
 ⟨λ _ _=>rfl,λ id B A' hid=>(by simp[bK,look]at hid),λ i j b s t h=>(by cases h),λ b hb=>hb.elim (hr.ro b) (λ h=>hr.owned_lt h),λ g cells hg=>by obtain⟨h1,h2,h3⟩:=hr.glob g cells hg;exact⟨h1.mono (λ _ h=> .inl h) (λ _ _=>rfl) (λ _ _=>rfl) (λ _ h=>h) (λ _ h=>h.elim),.inl h2,h3⟩⟩
theorem a2A{kb k:Nat}{fr fr':Fr}{H:aS}(h:∀t v,look fr' t=some v->∃u,look fr t=some u/\VLe u v):Mv kb k fr H k fr' H:=λ hk=>⟨hk,λ Γ nt A0 w G ρ a hA hi=>
 ⟨G,ρ,⟨hi.rel,hi.size,hi.defers,λ t v hv=>by obtain⟨u,hu,hle⟩:=h t v hv;exact hle _ _ _ _ _ (hi.frm t u hu)⟩,jT _ _ _ _⟩⟩
theorem ZX{f:FuncId}{args args':List AVal}{r:AVal}(h:Pure P Γ f args' r)(hle:VLes args args'):Pure P Γ f args r:=λ k A hA w G ρ cargs h1 h2=>
 h k A hA w G ρ cargs h1 ⟨by rw[←(hle.spec).1];exact h2.1,λ j v hj=>by
  obtain⟨e1,e2⟩:=hle.spec;have hlt:j<args.length:=by have:=(aG.1 hj).1;omega
  exact e2 j _ v (aE hlt) hj _ _ _ _ _ (h2.2 j _ (aE hlt))⟩
theorem aUW{f:FuncId}{fn:Func}{args:List AVal}{r:AVal}(hf:P.funcs[f]? =some fn)(hb:fn.body.isSome=true)(nt:Nat)(hnt:fn.ntmps=nt)(hn:args.length<=nt)(ha:args.all (bd λ _=>false)=true)(hr:bd (λ _=>false) r=true)
 (h:W P Γ nt 0 (fR (dZ fn) []) (yD P fn (λ _ r1 _=>VLe r1 r)) 0 (uX 0 args) []):Pure P Γ f args r:=λ k=>by
 have hT:=iD hf hb nt hnt hn h
 intro A hA w G ρ cargs hr0 hvs
 have hρ:ρ=bR:=funext λ id=>hr0.dom id rfl
 subst hρ
 have hno:∀w1 G1 ρ1 A1 A2 u cu,V w1 G1 ρ1 A1 u cu->bd (λ _=>false) u=true->V w1 G1 ρ1 A2 u cu:=λ w1 G1 ρ1 A1 A2 u cu h hb=>
  (aEV h hb).mono (λ _ h=>h) (λ _ _=>rfl) (λ _ _=>rfl) (λ i hi=>by simp at hi) (λ _ _=> .inr rfl)
 refine(hT cF (λ i hi=>hi.elim) w G bR cargs ⟨λ _ _=>rfl,λ id B A' hid=>by simp[bK,look]at hid,hr0.inj,hr0.ro,hr0.glob⟩ ⟨hvs.1,λ j u hj=>hno _ _ _ _ _ _ _ (hvs.2 j u hj) (gP ha hj)⟩).mono ?_
 rintro e w' ⟨cv,G',ρ',k1,r1,H1,rfl,hle,hk1,hrel1,hv1,hst⟩
 refine⟨cv,λ b=>G' b\/oI ρ' b,bR,k,r,[],rfl,⟨rfl,rfl,rfl⟩,aF _,hrel1.fz,?_,⟨hst.size,hst.keep,hst.shape,λ b hb=> .inl (hst.g b hb),λ b hb=>hb.elim (hst.g' b) (λ h=> .inr (hst.own b h)),λ b ⟨_,_,h⟩=>(by cases h),λ id _=> .inl rfl,hst.os,hst.tape,hst.output⟩⟩
 exact(aEV (hle _ _ _ _ _ hv1) hr).mono (λ _ h=> .inl h) (λ _ _=>rfl) (λ _ _=>rfl) (λ i hi=>by simp at hi) (λ i hi=>by simp at hi)
end
end Go.AM
end
