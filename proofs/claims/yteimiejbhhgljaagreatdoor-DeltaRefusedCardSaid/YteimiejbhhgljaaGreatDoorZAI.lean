import Derived.Test.YteimiejbhhgljaaGreatDoorZAH
set_option linter.unusedVariables false
set_option linter.defProp false
set_option linter.unusedSimpArgs false
set_option maxHeartbeats 0
set_option maxRecDepth 100000
open Go.AM.AVal renaming lit->aD
open Bool renaming and_eq_false_iff->BQ,and_eq_true->aO,and_true->iE,eq_iff_iff->eY,false->aF,not_eq_false'->jZ,true->aB,true_and->lZ
open Int renaming ediv_nonneg->a7U,emod_lt_of_pos->BL,emod_nonneg->a7T,fdiv_eq_ediv_of_nonneg->fG,le_refl->bY,pow_nonneg->CJ,tmod_eq_emod_of_nonneg->dU,toNat_natCast->bW
open Go.IntKind renaming i64->aH,u32->aT,u64->aI,u8->bM
open List renaming all_cons->gI,all_eq_true->aY,all_nil->BK,append_eq_nil_iff->bEH,cons_append->bA,drop_zero->bKB,ext_getElem?->fF,getD->oZ,getD_eq_getElem?_getD->aU,getElem?_append->dQ,getElem?_drop->fJ,getElem?_eq_getElem->aN,getElem?_eq_none->bE,getElem?_of_mem->pF,getElem?_replicate->oY,getElem?_set_self->cE,getElem?_take->fA,getElem_mem->zY,length_append->bT,length_cons->iI,length_drop->aOA,length_map->dG,length_nil->FM,length_replicate->gP,map->tB,map_append->aQ,map_congr_left->fR,map_cons->bN,map_map->kT,map_nil->bV,mem_cons->fO,mem_map->dM,mem_of_getElem?->gL,mem_of_mem_take->bWG,mem_range->dX,nil_append->aZ,not_mem_nil->pM,range->aR,replicate->bI,take_of_length_le->gU
open Nat renaming add_assoc->gM,add_sub_cancel->a7O,add_sub_cancel_left->kJ,eq_zero_or_pos->a7N,le_refl->aJ,le_succ->mG,lt_trichotomy->kR,mul_one->JK,not_lt_zero->bU,reduceAdd->aAC,sub_self->TT,zero_le->bF
open Option renaming getD_some->LB,isNone_iff_eq_none->rP,isSome_iff_exists->fU,none->aC,some->aA
open Or renaming inl->dE,inr->dP
open Go.Proofs.Tryz renaming func88->TS,prog->aG
open Go.Value renaming bool->bC,int->aE
section
namespace Go.Proofs.T
open Go Go.AM Go.Proofs
variable{P:Int->Prop}{A B L M:LSt}{c g i n:Nat}{o:Option Mb}
def aNO{y:Mb}(h:OMin (o.map (·.v)) P):OMin ((GZ o y).map (·.v)) (λ x=>P x\/x=y.v):=by
 cases o with
 |none=>
  refine⟨dP rfl,λ x hx=>?_⟩;rcases hx with hx|hx;.exact absurd hx (h x)
  rw[hx];exact bY _
 |some b=>
  obtain⟨h1,h2⟩:=h;have h1:P b.v:=h1;have h2:∀x,P x->b.v<=x:=h2;simp only[GZ];by_cases hl:aQA y b=aB
  .rw[iP hl];simp only[aQA,dTt]at hl;refine⟨dP rfl,λ x hx=>?_⟩;show y.v<=x;rcases hx with hx|hx;.have:=h2 x hx;omega
   omega
  rw[iN hl];simp only[aQA,dTt]at hl;refine⟨dE h1,λ x hx=>?_⟩;show b.v<=x;rcases hx with hx|hx;.exact h2 x hx
  omega
def aWM{L:LSt}{g c:Nat}(hk:FloorOk L.st):∀i,i<=L.tl.length->OMin ((lT L g c i).map (·.v)) (λ x=>∃j,j<i/\uR L.st c j=aB/\(L.st.tsk j).group.toNat=g/\x=(L.st.tsk j).v)
 |0,_=>λ x ⟨j,h,_⟩=>absurd h (bU _)
 |i+1,hi=>by
  have ih:=aWM (g:=g) (c:=c) hk i oO;have hgp:0<=(L.tsk i).group/\(L.tsk i).group<L.sl.length:=hk.grp i (by show i<L.tl.length;omega);rw[lT];by_cases ht:vT L g c i=aB
  .rw[iP ht];obtain⟨t1,t2,t3⟩:=takes_iff.1 ht;refine(aNO ih).congr λ x=>⟨?_,?_⟩
   .rintro(⟨j,h1,h2⟩|h1);.exact⟨j,oO,h2⟩
    refine⟨i,oO,?_,?_,h1⟩;.simp only[uR,aO,dTt];exact⟨t1,t3⟩
    show(L.tsk i).group.toNat=g;omega
   rintro⟨j,h1,h2,h3,h4⟩;by_cases e:j=i;.subst e;exact dP h4
   exact dE ⟨j,oO,h2,h3,h4⟩
  rw[iN ht];refine ih.congr λ x=>⟨λ⟨j,h1,h2⟩=>⟨j,oO,h2⟩,?_⟩;rintro⟨j,h1,h2,h3,h4⟩;by_cases e:j=i;.subst e;refine absurd (takes_iff.2 ?_) ht;simp only[uR,aO,dTt]at h2;have h3':(L.tsk j).group.toNat=g:=h3;exact⟨h2.1,oO,h2.2⟩
  exact⟨j,oO,h2,h3,h4⟩
def aWN{L:LSt}{F:Nat->Option Mb}{g c:Nat}(hk:FloorOk L.st):∀i,OMin ((lS L F g c i).map (·.v)) (λ x=>(∃j,j<L.tl.length/\uR L.st c j=aB/\(L.st.tsk j).group.toNat=g/\x=(L.st.tsk j).v)\/∃h,g<h/\h<g+1+i/\L.par h=g/\(F h).isSome=aB/\x=(L.sp h c).v)
 |0=>(aWM hk L.tl.length (aJ _)).congr λ x=>⟨.inl,λ hx=>hx.elim id λ⟨h,h1,h2,_⟩=>oO⟩
 |i+1=>by
  have ih:=aWN (F:=F) (g:=g) (c:=c) hk i;rw[lS];by_cases ht:L.par (g+1+i)=g/\(F (g+1+i)).isSome=aB
  .rw[iP ht];refine(aNO ih).congr λ x=>⟨?_,?_⟩
   .rintro((h|⟨h,h1,h2,h3⟩)|h);.exact dE h
    .exact dP ⟨h,h1,oO,h3⟩
    exact dP ⟨g+1+i,oO,oO,ht.1,ht.2,h⟩
   rintro(h|⟨h,h1,h2,h3,h4,h5⟩);.exact dE (dE h)
   by_cases e:h=g+1+i;.subst e;exact dP h5
   exact dE (dP ⟨h,h1,oO,h3,h4,h5⟩)
  rw[iN ht];refine ih.congr λ x=>⟨?_,?_⟩
  .rintro(h|⟨h,h1,h2,h3⟩);.exact dE h
   exact dP ⟨h,h1,oO,h3⟩
  rintro(h|⟨h,h1,h2,h3,h4,h5⟩);.exact dE h
  by_cases e:h=g+1+i;.subst e;exact absurd ⟨h3,h4⟩ ht
  exact dP ⟨h,h1,oO,h3,h4,h5⟩
def QF{L:LSt}(hk:FloorOk L.st)(c:Nat):∀f g,g<L.sl.length->L.sl.length-g<=f->OMin ((iU L f g c).map (·.v)) (aQG L.st c (L.sl.length-1-g) g)
 |0,g,hg,hf=>oO
 |f+1,g,hg,hf=>by
  have ih:=QF hk c f;rw[iU];refine(aWN hk _).congr λ x=>?_;have hpar:∀h,0<h->h<L.sl.length->0<=L.par h/\L.par h<h:=λ h h1 h2=>hk.par h h1 h2;have sub:∀h,g<h->h<L.sl.length->((iU L f h c).isSome=aB↔(dF L.st c (L.sl.length-1-h) h).isSome=aB):=λ h h1 h2=>by have e1:=(ih h h2 oO).some_iff;have e2:=(RK L.st c h (L.sl.length-1-h)).some_iff;rw[e2,<-e1,Option.isSome_map]
  unfold aQG;constructor
  .rintro(h|⟨h,h1,h2,h3,h4,h5⟩);.exact dE h
   have e:L.sl.length-1-(L.sl.length-1-h)=h:=oO;refine dP ⟨L.sl.length-1-h,oO,?_,?_,?_,?_⟩;.show 0<L.sl.length-1-(L.sl.length-1-h);omega
   .show(dF L.st c (L.sl.length-1-h) (L.sl.length-1-(L.sl.length-1-h))).isSome=aB;rw[e];exact(sub h h1 oO).1 h4
   .show(L.par (L.sl.length-1-(L.sl.length-1-h))).toNat=g;rw[e];omega
   show x=(L.sp (L.sl.length-1-(L.sl.length-1-h)) c).v;rw[e];exact h5
  rintro(h|⟨q,hq,h1,h2,h3,h4⟩);.exact dE h
  obtain⟨h,eh⟩:=xE (L.sl.length-1-q);have h1:0<L.sl.length-1-q:=h1;have h2:(dF L.st c q (L.sl.length-1-q)).isSome=aB:=h2;have h3:(L.par (L.sl.length-1-q)).toNat=g:=h3;have h4:x=(L.sp (L.sl.length-1-q) c).v:=h4;rw[<-eh]at h1 h2 h3 h4;have hq':q=L.sl.length-1-h:=oO;rw[hq']at h2;have hp:=hpar h h1 oO;have hgh:g<h:=oO;exact dP ⟨h,hgh,oO,oO,(sub h hgh oO).2 h2,h4⟩
def OMin.unique{o q:Option Int}(h:OMin o P)(g:OMin q P):o=q:=by
 cases o with
 |none=>
  cases q with
  |none=>rfl
  |some b=>exact absurd g.1 (h b)
 |some a=>
  cases q with
  |none=>exact absurd h.1 (g a)
  |some b=>have:=h.2 b g.1;have:=g.2 a h.1;congr 1;omega
def bBA(hk:FloorOk L.st)(hg:g<L.sl.length):(GY L g c).map (·.v)=dF L.st c (L.sl.length-1-g) g:=
 (QF hk c _ g hg oO).unique (RK L.st c g _)
def aQS(L:LSt)(g c:Nat):List Flt:=match GY L g c with
 |none=>[]
 |some x=>jC (decide ((L.sp g c).floor<x.v)) ⟨14,(g:Int),(c:Int)⟩
def a5E(hk:FloorOk L.st)(hg:g<L.sl.length):VP L.st g c=aQS L g c:=by
 rw[<-aDI L.st hk g c hg];have e:L.st.ns-1-(L.st.ns-1-g)=g:=by show L.sl.length-1-(L.sl.length-1-g)=g;omega
 unfold sH;rw[e];unfold HG;have h:=bBA hk hg (c:=c);have h':dF L.st c (L.st.ns-1-g) g=(GY L g c).map (·.v):=h.symm;rw[h'];unfold aQS
 cases GY L g c with
 |none=>rfl
 |some x=>rfl
def flats_nil_iff{f:Nat->List Flt}:∀ {n:Nat},cI f n=[]↔∀i,i<n->f i=[]
 |0=>⟨λ _ i h=>absurd h (bU _),λ _=>rfl⟩
 |n+1=>by
  rw[cI,bEH,flats_nil_iff];constructor
  .rintro⟨h1,h2⟩ i hi;by_cases e:i=n;.rw[e];exact h2
   exact h1 i oO
  exact λ h=>⟨λ i hi=>h i oO,h n oO⟩
def Rt0.floorOk(h:Rt0 L n)(h12:L.sl.length<=12):FloorOk L.st:=
 ⟨λ i hi=>⟨(h.tk i hi).g0,(h.tk i hi).g1⟩,λ g h1 h2=>h.par g h1 h2,λ g hg=>by show((L.sl.getD g []).length:Int)=L.cpus;rw[h.rows g hg,h.cpus],by show L.sl.length<=L.gl.length;rw[h.ng];exact aJ _,
  by show 0<=L.cpus;rw[h.cpus];omega,by show L.cpus<=64;rw[h.cpus];have:=h.n64;omega,h12⟩
def rB{α:Type}{l:List α}{d:α}(h:l.length<=i):l.getD i d=d:=by simp[oZ,h]
def Rt0.sp_all(h:Rt0 L n)(g c:Nat):0<=(L.sp g c).v/\(L.sp g c).v<=18446744073709551615/\0<=(L.sp g c).r:=by
 by_cases hg:g<L.sl.length
 .by_cases hc:c<n;.have:=h.sp g c hg hc;exact⟨this.2.1,this.2.2.1,this.2.2.2.1⟩
  have e:L.sp g c=default:=by unfold LSt.sp;exact rB (by rw[h.rows g hg];omega)
  rw[e];exact⟨bY _,by show(0:Int)<=_;omega,bY _⟩
 have e:L.sp g c=default:=by unfold LSt.sp;rw[rB (l:=L.sl) oO];rfl
 rw[e];exact⟨bY _,by show(0:Int)<=_;omega,bY _⟩
def Rt0.tk_all(h:Rt0 L n)(i:Nat):0<=(L.tsk i).mask/\(L.tsk i).mask<18446744073709551616/\(L.tsk i).v<=18446744073709551615/\0<=(L.tsk i).r:=by
 by_cases hi:i<L.tl.length;.have:=h.tk i hi;exact⟨this.m0,this.m1,this.v1,this.r0⟩
 have e:L.tsk i=default:=by unfold LSt.tsk;exact rB oO
 rw[e];exact⟨bY _,by show(0:Int)<_;omega,by show(0:Int)<=_;omega,bY _⟩
def Rt0.kinds(h:Rt0 L n):Kinds L.st:=
 ⟨⟨λ i=>(h.tk_all i).1,λ i=>(h.tk_all i).2.1,λ i=>(h.tk_all i).2.2.1,λ i=>(h.tk_all i).2.2.2,λ g c=>(h.sp_all g c).2.1,λ g c=>(h.sp_all g c).2.2⟩,λ g c=>(h.sp_all g c).1⟩
def Rt0.preOk(h:Rt0 L n)(h12:L.sl.length<=12)(hn:n<=12):PreOk L.st:=
 ⟨⟨by show L.gl.length<=1000;rw[h.ng];omega,by show L.kl.length<=1000;rw[h.nk];omega,by show L.ul.length<=1000;rw[h.nu];omega,h.nt,by show L.sl.length<=1000;omega,λ g hg=>by show(L.sl.getD g []).length<=1000;rw[h.rows g hg];omega⟩,h12,λ g hg=>by show(L.sl.getD g []).length<=12;rw[h.rows g hg];exact hn⟩
def Rt0.brk_no(h:Rt0 L n)(hi:i<L.tl.length)(r:Int):brk L.st i r=aF:=by
 have t:=h.tk i hi;have hc:=h.cpus;have hn:=h.n64;have hon:onB L.st i=aB:=by simp only[onB,dTt];exact⟨t.c0,by show(L.tsk i).cpu<L.cpus;rw[hc];exact t.c1⟩
 unfold brk;split
 .simp only[t4,BQ,dFn];by_cases h0:0<(i:Int);.right;have:=h.sorted (i-1) i oO hi;show ¬(L.tsk i).id<=(L.tsk (i-1)).id;omega
  exact dE h0
 split;.simp only[t5,dFn];show ¬((L.tsk i).id<1\/65535<(L.tsk i).id);have:=t.id1;have:=t.id2;omega
 split;.simp only[t6,dFn];show ¬((L.tsk i).group<0\/(L.gl.length:Int)<=(L.tsk i).group);have:=t.g0;have:=t.g1;have:=h.ng;omega
 split;.simp only[t7,hon];rfl
 split;.rw[<-aSY L.st h.kinds.wf i (by show 0<=L.cpus;omega) (by show L.cpus<=64;omega)];simp only[t8,BQ,dFn];right;show ¬0<shr (L.tsk i).mask L.cpus;rw[shr,hc,(oO:min ((n:Int).toNat) 64=n),fG _ (CJ oO),t.m2];omega
 split;.simp only[r9,hon,lZ,jZ];show aIY (L.tsk i).mask (L.tsk i).cpu.toNat=aB;simp only[aIY,dTt];exact t.m3
 simp only[t10,jZ];exact t.e
def Rt0.parts_nil(h:Rt0 L n):pH L.st=[]:=by
 have hc:=h.cpus;unfold pH;have e1:cI (qD L.st) L.st.nk=[]:=flats_nil_iff.2 λ c hcc=>by have hcc:c<L.kl.length:=hcc;have:=h.clk c (by rw[h.nk]at hcc;exact hcc);unfold qD;rw[mZ,dFn];show ¬(L.clk c<0\/281474976710656<L.clk c);omega
 have e2:cI (ZO L.st) 7=[]:=flats_nil_iff.2 λ r _=>flats_nil_iff.2 λ i hi=>by unfold MF;rw[mZ];exact h.brk_no hi _
 have e3:cI (MQ L.st) L.st.ns=[]:=flats_nil_iff.2 λ g hg=>by
  have hg:g<L.sl.length:=hg;unfold MQ;split;.rfl
  refine flats_nil_iff.2 λ c hcc=>?_;have hcc:c<(L.sl.getD g []).length:=hcc;rw[h.rows g hg]at hcc;unfold aKH;rw[mZ,jZ];exact(h.sp g c hg hcc).1
 have hcn:L.st.cpus.toNat=n:=by show L.cpus.toNat=n;omega
 have e4:cI (CV L.st) L.st.cpus.toNat=[]:=flats_nil_iff.2 λ c hcc=>by rw[hcn]at hcc;have:=h.root c hcc;unfold CV;rw[mZ,dFn];show ¬(0<(L.sp 0 c).v\/0<(L.sp 0 c).r);omega
 have e5:cI (BW L.st) L.st.cpus.toNat=[]:=flats_nil_iff.2 λ c hcc=>by
  rw[hcn]at hcc;unfold BW;rw[mZ];show(decide (L.cur c≠0)&& !(nI (mU L.st (L.cur c) c) L.tl.length))=aF;rcases h.cur c hcc with h0|⟨j,h1,h2,h3,h4⟩;.simp[h0]
  have:nI (mU L.st (L.cur c) c) L.tl.length=aB:=anyB_iff.2 ⟨j,h1,by simp only[mU,aO,dTt];exact⟨h4,h2,h3⟩⟩
  rw[this];simp
 rw[e1,e2,e3,e4,e5];rfl
def bDU(L:LSt)(n:Nat):Prop:=∀g c,g<L.sl.length->c<n->∀x,GY L g c=aA x->x.v<=(L.sp g c).floor
def aHN(h:Rt0 L n)(h12:L.sl.length<=12):xW L.st=cI (λ g=>cI (aQS L g) n) L.sl.length:=by unfold xW;refine oA λ g hg=>?_;have hg:g<L.sl.length:=hg;unfold aQR;rw[show L.st.cpus.toNat=n by show L.cpus.toNat=n;have:=h.cpus;omega];exact oA λ c _=>a5E (h.floorOk h12) hg
def flrL_nil:aQS L g c=[]↔∀x,GY L g c=aA x->x.v<=(L.sp g c).floor:=by
 unfold aQS
 cases GY L g c with
 |none=>simp
 |some x=>
  simp only[mZ,dFn,aA.injEq];constructor;.rintro h y rfl;omega
  intro h;have:=h x rfl;omega
def Rt0.shapes_nil(h:Rt0 L n):lQ L.st=[]:=by
 have hc:=h.cpus;have h1:(L.st.nk:Int)=L.st.cpus:=by show(L.kl.length:Int)=L.cpus;rw[h.nk,hc]
 have h2:(L.st.nu:Int)=L.st.cpus:=by show(L.ul.length:Int)=L.cpus;rw[h.nu,hc]
 have h3:L.st.ns=L.st.ng:=h.ng.symm;unfold lQ;rw[iN (λ e=>e h1),iN (λ e=>e h2),iN (λ e=>e h3)];simp only[aZ];refine flats_nil_iff.2 λ g hg=>?_;have hg:g<L.sl.length:=hg;unfold mH;rw[iP];show((L.sl.getD g []).length:Int)=L.cpus;rw[h.rows g hg,hc]
def Rt0.check(h:Rt0 L n)(h12:L.sl.length<=12)(hr:jQ L.st=aB):dR L.st=cI (λ g=>cI (aQS L g) n) L.sl.length:=by unfold dR;rw[iN (by rw[hr];simp),h.shapes_nil,h.parts_nil,iN sS,iN sS];exact aHN h h12
def aEB(h:Rt0 L n)(hf:bDU L n)(h12:L.sl.length<=12)(hr:jQ L.st=aB):dR L.st=[]:=by rw[h.check h12 hr];exact flats_nil_iff.2 λ g hg=>flats_nil_iff.2 λ c hc=>flrL_nil.2 (hf g c hg hc)
structure SameQ (L M:LSt):Prop where
 tl:M.tl=L.tl
 ns:M.sl.length=L.sl.length
 gl:M.gl=L.gl
 v:∀g c,(M.sp g c).v=(L.sp g c).v
def LA (L:LSt):SameQ L L:=⟨rfl,rfl,rfl,λ _ _=>rfl⟩
def SameQ.trans{C:LSt}(h:SameQ A B)(g:SameQ B C):SameQ A C:=⟨g.tl.trans h.tl,g.ns.trans h.ns,g.gl.trans h.gl,λ a c=>(g.v a c).trans (h.v a c)⟩
def SameQ.par(h:SameQ L M)(g:Nat):M.par g=L.par g:=by unfold LSt.par;rw[h.gl]
def aLY{L M:LSt}(h:SameQ L M){g c:Int}:∀i,lT M g c i=lT L g c i
 |0=>rfl
 |i+1=>by
  have e:M.tsk i=L.tsk i:=by unfold LSt.tsk;rw[h.tl]
  rw[lT,lT,aLY h i,vT,vT,e]
def aMA{L M:LSt}(h:SameQ L M){F G:Nat->Option Mb}(hF:∀x,F x=G x){g c:Nat}:∀i,lS M F g c i=lS L G g c i
 |0=>by rw[lS,lS,aLY h,h.tl]
 |i+1=>by rw[lS,lS,aMA h hF i,h.par,h.v,hF]
def LS{L M:LSt}(h:SameQ L M){c:Nat}:∀f g,iU M f g c=iU L f g c
 |0,_=>rfl
 |f+1,g=>by rw[iU,iU,aMA h (λ x=>LS h f x),h.ns]
def aCI(h:SameQ L M):GY M g c=GY L g c:=by unfold GY;rw[LS h,h.ns]
def FlAt(L:LSt)(g c:Nat):Prop:=∀x,GY L g c=aA x->x.v<=(L.sp g c).floor
def aPK(h:Rt0 L n)(hg:g<L.sl.length)(hc:c<n):SameQ L (rise1 L g c)/\FlAt (rise1 L g c) g c/\(∀a b,¬(a=g/\b=c)->(rise1 L g c).sp a b=L.sp a b)/\Fwd L (rise1 L g c):=by
 have hcr:c<(L.sl.getD g []).length:=by rw[h.rows g hg];exact hc
 unfold rise1
 cases hl:GY L g c with
 |none=>simp only;exact⟨LA L,λ x hx=>(by rw[hl]at hx;cases hx),λ _ _ _=>trivial,fZ L⟩
 |some x=>
  simp only
  have hs:SameQ L (L.setS g c {L.sp g c with floor:=MV (L.sp g c).floor x.v}):=⟨rfl,tH,rfl,λ a b=>by
   rw[AD hg hcr];split;.rename_i e;rw[e.1,e.2]
   rfl⟩
  refine⟨hs,λ y hy=>?_,λ a b hab=>by rw[AD hg hcr,iN hab],Fwd.setS hg hcr ?_⟩;.rw[aCI hs,hl]at hy;cases hy;rw[AD hg hcr,iP ⟨rfl,rfl⟩];show x.v<=MV _ _;unfold MV;split<;>omega
  show(L.sp g c).floor<=MV _ _;unfold MV;split<;>omega
def FlAt.same(h:SameQ L M)(hf:(M.sp g c).floor=(L.sp g c).floor):FlAt M g c↔FlAt L g c:=by unfold FlAt;rw[aCI h,hf]
def aKQ{L:LSt}{n g:Nat}(h:Rt0 L n)(hg:g<L.sl.length):∀ {j:Nat},j<=n->SameQ L (UI L g j)/\(∀c,c<j->FlAt (UI L g j) g c)/\(∀a b,¬(a=g/\b<j)->(UI L g j).sp a b=L.sp a b)/\Fwd L (UI L g j)
 |0,_=>⟨LA L,λ c hc=>absurd hc (bU _),λ _ _ _=>rfl,fZ L⟩
 |j+1,hj=>by
  obtain⟨h1,h2,h3,h4⟩:=aKQ h hg (j:=j) oO;obtain⟨h5,h6⟩:=XM h hg (j:=j) oO;obtain⟨k1,k2,k3,k4⟩:=aPK h5 (g:=g) (c:=j) oO oO;refine⟨h1.trans k1,λ c hc=>?_,λ a b hab=>?_,h4.trans k4 (dE (by show(rise1 (UI L g j) g j).tl.length=_;rw[k1.tl]))⟩
  .by_cases e:c=j;.subst e;exact k2
   exact(FlAt.same k1 (by rw[k3 g c (λ hh=>e hh.2)])).2 (h2 c oO)
  show(rise1 (UI L g j) g j).sp a b=L.sp a b;rw[k3 a b (λ hh=>hab ⟨hh.1,oO⟩),h3 a b (λ hh=>hab ⟨hh.1,oO⟩)]
def aKM{L:LSt}{n:Nat}(h:Rt0 L n):∀ {i:Nat},i<=L.sl.length->SameQ L (rgN L n i)/\(∀g c,g<i->c<n->FlAt (rgN L n i) g c)/\Fwd L (rgN L n i)
 |0,_=>⟨LA L,λ g c hg=>absurd hg (bU _),fZ L⟩
 |i+1,hi=>by
  obtain⟨h1,h2,h4⟩:=aKM h (i:=i) oO;obtain⟨h5,h6⟩:=PL h (i:=i) oO;obtain⟨k1,k2,k3,k4⟩:=aKQ h5 (g:=i) oO (aJ n);refine⟨h1.trans k1,λ g c hg hc=>?_,h4.trans k4 (dE (by show(UI (rgN L n i) i n).tl.length=_;rw[k1.tl]))⟩;by_cases e:g=i;.subst e;exact k2 c hc
  exact(FlAt.same k1 (by rw[k3 g c (λ hh=>e hh.1)])).2 (h2 g c oO hc)
def aUI(h:Rt0 L n):Rt0 (yP L n) n/\bDU (yP L n) n/\Fwd L (yP L n)/\(yP L n).tl=L.tl:=by obtain⟨h1,h2,h3⟩:=aKM h (aJ _);obtain⟨h4,h5⟩:=PL h (aJ _);refine⟨h4,λ g c hg hc=>h2 g c ?_ hc,h3,h1.tl⟩;have:(yP L n).sl.length=L.sl.length:=h5;omega
structure Later (L L':LSt):Prop where
 cpus:L'.cpus=L.cpus
 credit:L'.credit=L.credit
 ns:L'.sl.length=L.sl.length
 par:∀g,L'.par g=L.par g
 clk:∀c,L.clk c<=L'.clk c
 fl:∀g c,(L.sp g c).floor<=(L'.sp g c).floor
 w0:L'.wt 0=L.wt 0
def LF (L:LSt):Later L L:=⟨rfl,rfl,rfl,λ _=>rfl,λ _=>bY _,λ _ _=>bY _,rfl⟩
def Later.trans{C:LSt}(h:Later A B)(g:Later B C):Later A C:=
 ⟨g.cpus.trans h.cpus,g.credit.trans h.credit,g.ns.trans h.ns,λ x=>(g.par x).trans (h.par x),λ c=>Int.le_trans (h.clk c) (g.clk c),λ a c=>Int.le_trans (h.fl a c) (g.fl a c),g.w0.trans h.w0⟩
def Fwd.later(h:Fwd A B):Later A B:=⟨h.cpus,h.credit,h.ns,h.par,h.clk,h.fl,h.w0⟩
structure Rt (L:LSt) (n:Nat):Prop where
 r0:Rt0 L n
 fl:bDU L n
 cfg:jQ L.st=aB
def aRI(ha:Rt0 A n)(hb:Rt0 B n)(h:Later A B)(hc:jQ A.st=aB):jQ B.st=aB:=by
 obtain⟨⟨h1,h2,h3,h4,h5,h6,h7⟩,hall⟩:=iJ hc;have e1:B.st.ng=A.st.ng:=by show B.gl.length=A.gl.length;rw[hb.ng,ha.ng,h.ns]
 have e2:B.st.par=A.st.par:=funext h.par;simp only[jQ,aO,dTt,rP];refine⟨⟨by rw[show B.st.cpus=A.st.cpus from h.cpus];exact h1,by rw[show B.st.cpus=A.st.cpus from h.cpus];exact h2,by rw[show B.st.credit=A.st.credit from h.credit];exact h3,oO,oO,by rw[e2];exact h6,by rw[show B.st.wt 0=A.st.wt 0 from h.w0];exact h7⟩,fb_none_iff.2 λ g hg hgn=>?_⟩;have:=hall g hg oO;simp only[okR,aO,dTt,okW]at this⊢
 rw[e2]
 have hgl:g<A.gl.length:=by have:g<A.st.ng:=oO
                            exact this
 exact⟨hb.wt g (by rw[h.ns,<-ha.ng];exact hgl),this.2⟩
end Go.Proofs.T
end
section
namespace Go.Proofs.T
open Go Go.AM Go.Proofs
variable{α β:Type}{L:LSt}{l:List (List AVal)}{i id j k m n p q tk:Nat}{T:Tk}{H:aS}
variable{Γ:dW}
def MT(n i:Nat):List (List AVal):=bI i [.rd 3 n (λ _=>zS)]
def EO(n i:Nat):(MT n i).length=i:=by simp[MT]
def PX(n i:Nat):MT n (i+1)=MT n i++[[.rd 3 n (λ _=>zS)]]:=by simp[MT,List.replicate_succ']
def EP(n i:Nat):((MT n i).all λ row=>row.all clean)=aB:=by rw[aY];intro row h;have:=List.eq_of_mem_replicate h;subst this;rfl
def aVA(n i:Nat):MT n (i+1)=[.rd 3 n (λ _=>zS)]::MT n i:=rfl
attribute [go_sem] EO
def mF(s:St)(n:Nat):LSt:=⟨s.cpus,s.credit,(aR s.ng).map λ i=>(s.par i,s.wt i),bI n 0,bI n 0,[],bI s.ng (bI n ⟨0,0,0⟩)⟩
def XL(n:Nat)(a:α)(f:α->β):(bI n a).map f=(aR n).map λ _=>f a:=fF λ j=>by
 by_cases h:j<n;.simp[h]
 rw[bE sO,bE sO]
def bDO{s:St}{ng:Nat}(hn:s.cpus=(n:Int))(hng:ng=s.ng):MH m tk (mF s n)=(m,⟨8,aF,[[n,aD (aE aI s.credit),.sl (m+1) 0 ng,.sl (m+2) 0 n,.sl (m+3) 0 n,.sl tk 0 0,.sl (m+5) 0 ng,aB]]⟩)::(m+1,⟨2,aB,(aR ng).map (gf s)⟩)::(m+2,⟨1,aB,(aR n).map λ _=>zI⟩)::(m+3,⟨1,aB,(aR n).map λ _=>zI⟩)::(m+5,⟨1,aF,uD (m+6) ng n ng⟩)::(tk,⟨8,aB,[]⟩)::nA (m+6) 3 ng (λ _=>(aR n).map λ _=>zS):=by
 have e1:SP (mF s n)=(aR ng).map (gf s):=by simp[SP,mF,hng,glc,gf,Function.comp_def]
 have e2:TE (mF s n)=(aR n).map λ _=>zI:=XL n 0 inc;have e3:MP (mF s n)=(aR n).map λ _=>zI:=XL n 0 inc;have hl:(mF s n).sl.length=ng:=by simp[mF,hng]
 have hg:∀g,g<ng->(mF s n).sl.getD g []=bI n ⟨0,0,0⟩:=λ g h=>by have:g<s.ng:=oO;simp[mF,oZ,this]
 have e4:HT m (mF s n)=uD (m+6) ng n ng:=by rw[tO,HT,hl];refine fR λ g h=>?_;rw[ouF,hg g (dX.1 h),gP]
 have e5:nA (m+6) 3 (mF s n).sl.length (CP (mF s n))=nA (m+6) 3 ng (λ _=>(aR n).map λ _=>zS):=by rw[hl];refine AM.fam_congr λ g h=>?_;rw[CP,hg g h];exact XL n ⟨0,0,0⟩ spc
 have e6:fS m tk (mF s n)=[aD (aE aH (n:Int)),aD (aE aI s.credit),.sl (m+1) 0 ng,.sl (m+2) 0 n,.sl (m+3) 0 n,.sl tk 0 0,.sl (m+5) 0 ng,aD (bC aB)]:=by simp[fS,mF,hn,<-hng]
 rw[MH,LH,e1,e2,e3,e4,e5,e6];rfl
def aGK(n:Nat):VLe (.rd 3 n (λ q=>(bI n [aD (.int .u64 0),aD (aE aT 0),aD (aE aI 0)]).getD q [])) (.rd 3 n (λ _=>zS)):=VLe.rd λ i hi=>by simp[aU,hi,zS]
def bLX(s:St)(n:Nat)(hn:s.cpus=(n:Int))(hmc:nU s=aB)(h1:1<=n)(h2:n<=64)(h3:1<=s.ng)(h4:s.ng<=256)(k:Nat):
 Tr aG Γ 29 k [.agg s.cfg] [] (λ k1 r1 H1=>k1=k+(23+s.ng)/\r1= .tup [.ptr (k+14) 0 0,(0:Int)]/\H1=MH (k+14) (k+(22+s.ng)) (mF s n)):=by
 obtain⟨ng,eng⟩:=xE s.ng;rw[<-eng]at h3 h4⊢
 obtain⟨RH,eRH⟩:=xE (MH (k+14) (k+(22+ng)) (mF s n):aS);obtain⟨RV,eRV⟩:=xE (.tup [.ptr (k+14) 0 0,.lit (.int .i64 0)]:AVal);have hLl:(mF s n).sl.length=ng:=by simp[mF,eng]
 refine Tr.mono (mO (kk:=k+(23+ng)) (V:=RV) (RH:=RH) oO (by rw[eRV];simp[bd,MG,iL,kC];omega) (by rw[eRH];exact fX (by rw[hLl];omega) oO) ?_) (λ _ _ _ h=>⟨h.1,h.2.1.trans eRV,h.2.2.trans eRH⟩);have hrc:=xS (OJ Γ) s;rw[hmc]at hrc;refine bR Tryz.func29 rfl 34 rfl bB ?_;have kp:Kp [0,1,2,3,4,7,18,19,20] (λ i=>if k<=i then i-k else 0):=oR;refine fW ?_;refine mS [.ret aB] ?_;refine iA ?_ ?_;.exact hrc
 have uU:=zA hn (Eq.symm (eng));refine fC λ ht=>?_;refine cD (X:=Nat) rfl [0,1,2,3,4,7,18,19,20] (k+5) (λ i=>[(19,i)]) (λ i=>(k+3,⟨7,aF,[[n,aD (aE aI s.credit),.rd 2 ng (gf s),.sl (k+1) 0 n,.sl (k+2) 0 n,(),dI (k+4) (MT n i)]]⟩)::cM (k+4) 1 (MT n i) [(k,⟨3,aB,[[n,aD (aE aI s.credit),.rd 2 ng (gf s)]]⟩),(k+1,⟨1,aB,bI n [aD (aE aH 0)]⟩),(k+2,⟨1,aB,bI n [aD (aE aH 0)]⟩)]) (λ i=>i<=ng) (λ i=>ng-i) 0 ?_ (bF _) ?_;.rw[show MT n 0=[]from rfl];refine fM ?_;exact iC
 intro i hi;refine fM ?_;by_cases hi2:i<ng
 .have hcl:((MT n i++[[AVal.rd 3 n (λ _=>zS)]]).all λ row=>row.all clean)=aB:=by rw[<-PX];exact EP n (i+1)
  have zero2:=aGK n;rcases a7N i with hi0|hi0
  .subst hi0;rw[show MT n 0=[]from rfl];refine fC λ ht=>?_;refine⟨0+1,oO,oO,?_⟩;rw[PX];try rw[show MT n 0=[]from rfl]
   refine Mv.trans (gT (k+5) (by simp-dsimp-implicitDefEqProofs (disch:=omega)only[go_sem,iO,hn,<-eng,↓reduceIte];rfl) rfl) ?_;simp-dsimp-implicitDefEqProofs only[qO,jR,go_sem,gP,aJ,kW (EP n 0),hn,<-eng,eq_self,↓reduceIte];refine Mv.trans (Mv.row (k+7) (l:=[]) [.rd 3 n (λ _=>zS)] (by simp(disch:=omega)only[AM.look,iO,↓reduceIte,aZ];rfl) (.cons (aGK n) .nil) hcl) ?_;exact FI (k+7) (k+4) wgD
  obtain⟨j,rfl⟩:∃j,i=j+1:=⟨i-1,oO⟩;rw[aVA];refine fC λ ht=>?_;refine⟨j+1+1,oO,oO,?_⟩;rw[PX];refine Mv.trans (gT (k+5) (by simp-dsimp-implicitDefEqProofs (disch:=omega)only[go_sem,iO,hn,<-eng,↓reduceIte];rfl) rfl) ?_;simp-dsimp-implicitDefEqProofs only[qO,jR,go_sem,gP,aJ,kW (EP n j),hn,<-eng,eq_self,↓reduceIte];refine Mv.trans (Mv.row (k+7) (l:=MT n (j+1)) [.rd 3 n (λ _=>zS)] (by simp(disch:=omega)only[AM.look,iO,↓reduceIte,aZ];rfl) (.cons (aGK n) .nil) hcl) ?_;exact FI (k+7) (k+4) wgD
 have hil:i=ng:=oO;subst hil;obtain⟨j,ej⟩:∃j,i=j+1:=⟨i-1,oO⟩;have ens:MT n i=[.rd 3 n (λ _=>zS)]::MT n j:=by rw[ej];rfl
 rw[ens];have elen:(MT n j).length+1=i:=by rw[EO];omega
 refine fM ?_;refine fC λ ht=>?_;have hone:(((aR i).map (gf s)).all λ row=>row.all AM.one)=aB:=jW _ _ λ _=>rfl;have hco:=a6B (n:Int) s.credit i n i (gf s) hone oO oO h1 oO oO oO (k+5) (Γ:=Γ);rw[(oO:k+5+(16+i)=k+(21+i))]at hco;simp only[gM,aAC]at hco;obtain⟨GR,eG⟩:=xE ((aR i).map (gf s));obtain⟨KR,eK⟩:=xE ((aR n).map λ _=>zI);obtain⟨SR,eS⟩:=xE ((aR n).map λ _=>zS);have eMH:=bDO (m:=k+14) (tk:=k+(22+i)) hn eng;simp only[gM,aAC]at eMH;rw[<-eG,<-eK,<-eS]at hco eMH;have zI2:VLe (.rd 1 n (λ q=>(bI n [aD (.int .i64 0)]).getD q [])) (.rd 1 n (λ _=>zI)):=VLe.rd λ q hq=>by simp[aU,hq,zI]
 have zN2:VLe (.rd 1 i (λ q=>([.rd 3 n (λ _=>[aD (aE aI 0),aD (aE aT 0),aD (aE aI 0)])]::MT n j).getD q [])) (.rd 1 i (λ _=>[.rd 3 n (λ _=>zS)])):=VLe.rd λ q hq=>by have:([AVal.rd 3 n (λ _=>[aD (aE aI 0),aD (aE aT 0),aD (aE aI 0)])]::MT n j)=MT n i:=ens.symm;rw[this];simp[MT,aU,hq]
 have hfzr:∀(id:Nat) (B:Blk),(MT n j).map (λ row=>row.map (kY id B))=MT n j:=λ _ _=>kW (EP n j);refine gW (gT (k+4) (B:=⟨1,aB,[.rd 3 n (λ _=>[aD (aE aI 0),aD (aE aT 0),aD (aE aI 0)])]::MT n j⟩) (by simp(disch:=omega)only[AM.look,iO,↓reduceIte]) rfl) ?_;simp-dsimp-implicitDefEqProofs only[qO,jR,go_sem,gP,aJ,iI,EO,<-ej,hfzr,hn,<-eng,eq_self,↓reduceIte];refine gW (gT (k+1) (B:=⟨1,aB,bI n [aD (aE aH 0)]⟩) (by simp(disch:=omega)only[AM.look,iO,↓reduceIte]) rfl) ?_;simp-dsimp-implicitDefEqProofs only[qO,jR,go_sem,gP,aJ,iI,EO,<-ej,hfzr,hn,<-eng,eq_self,↓reduceIte];refine gW (gT (k+2) (B:=⟨1,aB,bI n [aD (aE aH 0)]⟩) (by simp(disch:=omega)only[AM.look,iO,↓reduceIte]) rfl) ?_;simp-dsimp-implicitDefEqProofs only[qO,jR,go_sem,gP,aJ,iI,EO,<-ej,hfzr,hn,<-eng,eq_self,↓reduceIte];refine gW (Mv.row (k+3) (l:=[]) [n,aD (aE aI s.credit),.rd 2 i (gf s),.rd 1 n (λ _=>zI),.rd 1 n (λ _=>zI),(),.rd 1 i (λ _=>[.rd 3 n (λ _=>zS)])] (by simp(disch:=omega)only[AM.look,iO,↓reduceIte,aZ];rfl) (.cons (bL _) (.cons (bL _) (.cons (bL _) (.cons zI2 (.cons zI2 (.cons (bL _) (.cons zN2 .nil))))))) rfl) ?_;have uU:=xG @lrN @aJ @lcN @EO (Eq.symm (ej)) hfzr hn (Eq.symm (eng));refine fM ?_;refine fW ?_;refine mS [.far (.agg [n,aD (aE aI s.credit),.sl (k+15) 0 i,.sl (k+16) 0 n,.sl (k+17) 0 n,(),.sl (k+19) 0 i]) (k+(21+i)) [(k+3,⟨7,aB,[[n,aD (aE aI s.credit),.rd 2 i (gf s),.rd 1 n (λ _=>zI),.rd 1 n (λ _=>zI),(),.rd 1 i (λ _=>[.rd 3 n (λ _=>zS)])]]⟩),(k,⟨3,aB,[[n,aD (aE aI s.credit),.rd 2 i (gf s)]]⟩)] [] ((k+15,⟨2,aB,GR⟩)::(k+16,⟨1,aB,KR⟩)::(k+17,⟨1,aB,KR⟩)::(k+19,⟨1,aF,uD (k+20) i n i⟩)::nA (k+20) 3 i (λ _=>SR))] ?_;refine FN (zs ?_) (zs ?_) (zs ?_) (zs ?_);.exact λ q=>rfl
 .exact λ q hq=>by
   rcases hq with hq|hq;.simp[fN,AM.look]at hq
   have:k+15<=q:=by
    simp only[fN,AM.look]at hq;repeat'(split at hq;(· omega))
    obtain⟨B,hB⟩:=fU.1 hq;have:=KJ hB;omega
   simp only[AM.look];repeat rw[iN oO]
 .exact hco
 have ho14:((uD (k+20) i n i).map λ row=>row.map (BS (k+(21+i)) (k+14)))=uD (k+20) i n i:=by rw[tO,kT];refine fR λ g hg=>?_;have:=dX.1 hg;simp only[Function.comp,bN,bV,BS,sw];rw[iN oO,iN oO]
 refine gW (Mv.swap (k+(21+i)) (k+14) ⟨oO,oO⟩ ⟨oO,oO⟩) ?_;have uU:=ho14;refine fM ?_;refine gW (WQ k 8 (B:=⟨3,aB,[[n,aD (aE aI s.credit),.rd 2 i (gf s)]]⟩) (by simp(disch:=omega)only[AM.look,iO,↓reduceIte]) oO) ?_;refine fM ?_;rw[(oO:k+(22+i)=k+(21+(i+1)))]at eMH eRH;refine gW (aFA (k+14) 5 (k+(21+(i+1))) 0 0 (B:=⟨8,aF,[[n,aD (aE aI s.credit),.sl (k+15) 0 i,.sl (k+16) 0 n,.sl (k+17) 0 n,(),.sl (k+19) 0 i,aB]]⟩) (T:=⟨8,aB,[]⟩) (by simp(disch:=omega)only[AM.look,iO,↓reduceIte]) (by simp(disch:=omega)only[AM.look,iO,↓reduceIte]) oO rfl rfl rfl) ?_;refine fM ?_;have uU:=ho14;refine kX ?_;refine⟨?_,?_⟩;.rw[eRV]
 rw[eRH,eMH];exact mX iV
structure Nums where
 c:Int
 g:Int
 cr:Int
 p:Nat->Int
 w:Nat->Int
variable{x:Nums}
def Nums.cells (x:Nums):List AVal:=[aD (aE bM x.c),aD (aE bM x.g),aD (aE aT x.cr),aD (aE bM (x.p 0)),aD (aE bM (x.p 1)),aD (aE bM (x.p 2)),aD (aE bM (x.p 3)),aD (aE bM (x.p 4)),aD (aE .u16 (x.w 0)),aD (aE .u16 (x.w 1)),aD (aE .u16 (x.w 2)),aD (aE .u16 (x.w 3)),aD (aE .u16 (x.w 4))]
structure NumsOk (x:Nums):Prop where
 c0:0<=x.c
 c1:x.c<=255
 g0:0<=x.g
 g1:x.g<=255
 r0:0<=x.cr
 r1:x.cr<=4294967295
 p0:∀i,i<5->0<=x.p i/\x.p i<=255
 w0:∀i,i<5->0<=x.w i/\x.w i<=65535
def a3S(h:i<5):x.cells[3+i*1]? =aA (aD (aE bM (x.p i))):=by
 match i,h with
 |0,_=>rfl
 |1,_=>rfl
 |2,_=>rfl
 |3,_=>rfl
 |4,_=>rfl
def a3R(h:i<5):x.cells[8+i*1]? =aA (aD (aE .u16 (x.w i))):=by
 match i,h with
 |0,_=>rfl
 |1,_=>rfl
 |2,_=>rfl
 |3,_=>rfl
 |4,_=>rfl
def kV(x:Nums):Nat->List (Int×Int)×List Int
 |0=>([(0,1)],[0])
 | i+1=>
   let u0:=(x.p i%((i:Int)+1))
   let u:=if(kV x i).2.getD u0.toNat 0=4 then 0 else u0
   ((kV x i).1++[(u,1+x.w i)],(kV x i).2++[(kV x i).2.getD u.toNat 0+1])
def wA(x:Nums):∀i,(kV x i).1.length=i+1/\(kV x i).2.length=i+1
 |0=>⟨rfl,rfl⟩
 |i+1=>by obtain⟨h1,h2⟩:=wA x i;simp only[kV,bT,iI,FM];omega
def dpR(l:List Int):List (List AVal):=l.map λ d=>[aD (aE aH d)]
def JA(cpus cr:Int)(G:List (Int×Int)):St:=⟨cpus,cr,G.length,λ i=>(G.getD i (0,0)).1,λ i=>(G.getD i (0,0)).2,0,λ _=>0,0,λ _=>0,0,λ _=>default,0,λ _=>0,λ _ _=>⟨0,0,0⟩⟩
def yZ(l:List α)(a d:α)(j:Nat):(l++[a]).getD j d=if j<l.length then l.getD j d else if j=l.length then a else d:=by
 simp only[aU,dQ];by_cases h1:j<l.length;.rw[iP h1,iP h1]
 rw[iN h1,iN h1];by_cases h2:j=l.length;.subst h2;simp
 rw[iN h2,bE sO];rfl
structure MkOk (x:Nums) (i:Nat):Prop where
 d:∀j,j<=i->0<=(kV x i).2.getD j 0/\(kV x i).2.getD j 0<=4
 d0:(kV x i).2.getD 0 0=0
 g0:(kV x i).1.getD 0 (0,0)=(0,1)
 g:∀j,1<=j->j<=i->(0<=((kV x i).1.getD j (0,0)).1/\((kV x i).1.getD j (0,0)).1<j)/\(1<=((kV x i).1.getD j (0,0)).2/\((kV x i).1.getD j (0,0)).2<=65536)/\(kV x i).2.getD j 0=(kV x i).2.getD ((kV x i).1.getD j (0,0)).1.toNat 0+1
def aLJ{x:Nums}(hx:NumsOk x):∀ {i:Nat},i<=5->MkOk x i
 |0,_=>⟨λ j hj=>by obtain rfl:j=0:=oO
                   exact⟨bY _,by show(0:Int)<=4;omega⟩,rfl,rfl,λ j h1 h2=>oO⟩
 |i+1,hi=>by
  obtain⟨h1,h2,h3,h4⟩:=aLJ hx (i:=i) oO;obtain⟨l1,l2⟩:=wA x i;have hp:=hx.p0 i oO;have hw:=hx.w0 i oO;obtain⟨D,eD⟩:=xE ((kV x i).2);obtain⟨G,eG⟩:=xE ((kV x i).1);obtain⟨u0,eu0⟩:=xE (x.p i%((i:Int)+1));have hu0:0<=u0/\u0<(i:Int)+1:=by rw[eu0];exact⟨a7T _ oO,BL _ oO⟩
  obtain⟨u,eu⟩:=xE (if D.getD u0.toNat 0=4 then 0 else u0);rw[<-eD]at h1 h2 h4 l2;rw[<-eG]at h3 h4 l1
  have hu:0<=u/\u<(i:Int)+1/\D.getD u.toNat 0<=3:=by
   rw[eu];split;.exact⟨bY _,oO,by show D.getD 0 0<=3;omega⟩
   have:=h1 u0.toNat oO;exact⟨oO,oO,oO⟩
  have eN:kV x (i+1)=(G++[(u,1+x.w i)],D++[D.getD u.toNat 0+1]):=by simp only[kV,<-eD,<-eG,<-eu0,<-eu]
  have hdu:=h1 u.toNat oO;have key:∀j,j<=i->(D++[D.getD u.toNat 0+1]).getD j 0=D.getD j 0:=λ j hj=>by rw[yZ,iP oO]
  have keyG:∀j,j<=i->(G++[(u,1+x.w i)]).getD j (0,0)=G.getD j (0,0):=λ j hj=>by rw[yZ,iP oO]
  refine⟨λ j hj=>?_,?_,?_,λ j hj hj2=>?_⟩<;>simp only[eN]
  .by_cases e:j<=i;.rw[key j e];exact h1 j e
   rw[yZ,iN oO,iP oO];omega
  .rw[key 0 oO];exact h2
  .rw[keyG 0 oO];exact h3
  by_cases e:j<=i;.have:=h4 j hj e;rw[keyG j e,key j e,key _ oO];exact this
  have ej:j=i+1:=oO;have eg:(G++[(u,1+x.w i)]).getD j (0,0)=(u,1+x.w i):=by rw[yZ,iN oO,iP oO]
  have ed:(D++[D.getD u.toNat 0+1]).getD j 0=D.getD u.toNat 0+1:=by rw[yZ,iN oO,iP oO]
  rw[eg,ed];refine⟨⟨hu.1,by show u<(j:Int);omega⟩,⟨by show 1<=1+x.w i;omega,by show 1+x.w i<=65536;omega⟩,?_⟩;show _=(D++_).getD u.toNat 0+1;rw[key _ oO]
def bFR(x:Nums)(hx:NumsOk x):AM.Pure aG Γ 30 [.agg x.cells] (.agg (JA (1+x.c%4) x.cr (kV x (x.g%6).toNat).1).cfg):=by
 obtain⟨hc0,hc1,hg0,hg1,hr0,hr1,hp,hw⟩:=hx;obtain⟨q,hq⟩:∃q:Nat,x.g%6=(q:Int):=⟨(x.g%6).toNat,oO⟩;have hq5:q<=5:=oO;rw[hq,bW];have e1:x.c.tmod 4=x.c%4:=dU hc0;have e2:x.g.tmod 6=(q:Int):=by rw[dU hg0,hq]
 have e3:aH.wrap x.c=x.c:=wrap_i64 oO oO;have e4:aH.wrap x.g=x.g:=wrap_i64 oO oO;have e5:aH.wrap (x.c%4)=x.c%4:=wrap_i64 oO oO;have e6:aH.wrap (q:Int)=(q:Int):=wrap_i64 oO oO;have e7:aI.wrap x.cr=x.cr:=wrap_u64 oO oO;have e8:aH.wrap (1+x.c%4)=1+x.c%4:=wrap_i64 oO oO;obtain⟨RC,eRC⟩:=xE x.cells;refine cA Tryz.func30 rfl 63 rfl bB rfl λ k=>?_;have kp:=kN k [0,1,2,3,4,5,6,22,23,24,39];have uU:=fB @Nums.cells.eq_1 e1 e2 e3 e4 e5 e6 e7 e8;refine fW ?_;refine cD (X:=Nat) rfl [0,1,2,3,4,5,6,22,23,24,39] (k+5) (λ i=>[(23,i),(4,.sl (k+4) 0 (i+1))]) (λ i=>(k+4,⟨1,aB,dpR (kV x i).2⟩)::(k+3,⟨3,aF,[[(1+x.c%4:Int),aD (aE aI x.cr),.sl (k+2) 0 (i+1)]]⟩)::(k+2,⟨2,aB,(kV x i).1.map glc⟩)::(k+1,⟨3,aB,[[(0:Int),aD (aE aI 0),()]]⟩)::[(k,⟨13,aB,[x.cells]⟩)]) (λ i=>i<=q) (λ i=>q-i) 0 ?_ (bF _) ?_;.rw[show dpR (kV x 0).2=[[aD (aE aH 0)]]from rfl,show(kV x 0).1.map glc=[[aD (aE aH 0),aD (aE aH 1)]]from rfl];refine fM ?_;exact iC
 intro i hi;obtain⟨D,eD⟩:=xE ((kV x i).2);obtain⟨G,eG⟩:=xE ((kV x i).1);obtain⟨l1,l2⟩:=wA x i;rw[<-eD,<-eG];rw[<-eD]at l2;rw[<-eG]at l1;refine fM ?_;by_cases hi2:i<q
 .have fp:=a3S (x:=x) (oO:i<5);have fw:=a3R (x:=x) (oO:i<5);simp only[Nums.cells]at fp fw;have hpi:=hp i oO;have hwi:=hw i oO;obtain⟨md,md0,mg0,mg⟩:=aLJ ⟨hc0,hc1,hg0,hg1,hr0,hr1,hp,hw⟩ (i:=i) oO;rw[<-eD]at md md0;obtain⟨u0,eu0⟩:=xE (x.p i%((i:Int)+1));have hu0:0<=u0/\u0<(i:Int)+1:=by rw[eu0];exact⟨a7T _ oO,BL _ oO⟩
  obtain⟨v0,hv0⟩:∃v:Nat,u0=(v:Int):=⟨u0.toNat,oO⟩;have f1:(x.p i).tmod ((i:Int)+1)=(v0:Int):=by rw[dU hpi.1,<-eu0,hv0]
  have f2:aH.wrap (x.p i)=x.p i:=wrap_i64 oO oO;have f3:aH.wrap (v0:Int)=(v0:Int):=wrap_i64 oO oO;have f4:((i:Int)+1=0)=False:=eq_false oO;have f5:(dpR D)[v0]? =aA [aD (aE aH (D.getD v0 0))]:=by have:v0<D.length:=oO;simp[dpR,oZ,this]
  have f6:(dpR D).length=i+1:=by simp[dpR,l2]
  have f7:(G.map glc).length=i+1:=by simp[l1]
  have f8:aH.wrap (x.w i)=x.w i:=wrap_i64 oO oO;have f9:aH.wrap (1+x.w i)=1+x.w i:=wrap_i64 oO oO;have hdv:=md v0 oO;have eN:∀u,u=(if D.getD v0 0=4 then 0 else(v0:Int))->kV x (i+1)=(G++[(u,1+x.w i)],D++[D.getD u.toNat 0+1]):=λ u hu=>by have e:=hu0;simp only[kV,<-eD,<-eG,<-eu0,hv0,bW];rw[<-hu]
  by_cases hd4:D.getD v0 0=4
  .have eN:=eN 0 (by rw[iP hd4]);have eN:kV x (i+1)=(G++[(0,1+x.w i)],D++[1]):=by rw[eN];show(_,D++[D.getD 0 0+1])=_;rw[md0];rfl
   have g1:(dpR D)[0]? =aA [aD (aE aH 0)]:=by have h0:0<D.length:=oO;have:D.getD 0 0=0:=md0;rw[oZ,aN h0]at this;simp only[LB]at this;simp[dpR,this,h0]
   have g2:aH.wrap (0+1)=1:=rfl;have uU:=fB fp fw @f1 @f2 @f3 @f4 @f5 f6 (GX f7 f8 f9 g1 g2);refine uV ?_;refine kB (gB λ ht ht=>⟨i+1,oO,oO,?_⟩);rw[eN];simp only[dpR,aQ,bN,bV,glc];refine Mv.trans (Mv.swap (k+6) (k+4) ⟨oO,oO⟩ ⟨oO,oO⟩) (fM ?_);refine Mv.trans (Mv.swap (k+8) (k+2) ⟨oO,oO⟩ ⟨oO,oO⟩) (fM ?_);exact iC
  have eN:=eN (v0:Int) (by rw[iN hd4]);have g2:aH.wrap (D.getD v0 0+1)=D.getD v0 0+1:=wrap_i64 oO oO;have uU:=fB fp fw @f1 @f2 @f3 @f4 @f5 f6 (pJ f7 f8 f9 g2);refine uV ?_;refine kB (gB λ ht ht=>⟨i+1,oO,oO,?_⟩);rw[eN,bW];simp only[dpR,aQ,bN,bV,glc];refine Mv.trans (Mv.swap (k+6) (k+4) ⟨oO,oO⟩ ⟨oO,oO⟩) (fM ?_);refine Mv.trans (Mv.swap (k+8) (k+2) ⟨oO,oO⟩ ⟨oO,oO⟩) (fM ?_);exact iC
 have hiq:i=q:=oO;subst hiq;have uU:=Go.AM.uU;refine fC λ ht=>?_;refine gW (gT (k+2) (B:=⟨2,aB,G.map glc⟩) (by simp(disch:=omega)only[AM.look,iO,↓reduceIte]) rfl) ?_;simp-dsimp-implicitDefEqProofs only[qO,jR,go_sem,dG,l1,aJ,eq_self,↓reduceIte];have uU:=uT @List.length_map.{0,0} l1 @aJ;refine kX ?_;have hG:VLe (.rd 2 (i+1) (λ j=>(G.map glc).getD j [])) (.rd 2 (i+1) (gf (JA (1+x.c%4) x.cr G))):=VLe.rd λ j hj=>by have:j<G.length:=oO;simp[oZ,this,glc,gf,JA]
 refine BH (.cons (bL _) (.cons (bL _) (.cons ?_ .nil)));rw[<-eG,show(JA (1+x.c%4) x.cr G).ng=i+1 from l1];exact hG
def aKP{x:Nums}{q:Nat}(hk:MkOk x q)(cp cr:Int):∀(f g n:Nat),g<=q->(kV x q).2.getD g 0<f->SW (JA cp cr (kV x q).1).par f g n=n+((kV x q).2.getD g 0).toNat
 |0,g,n,hg,hf=>by have:=hk.d g hg;omega
 |f+1,g,n,hg,hf=>by
  rw[SW];by_cases h0:g=0;.subst h0;rw[iP rfl,hk.d0];rfl
  rw[iN h0];obtain⟨⟨a1,a2⟩,a3,a4⟩:=hk.g g oO hg;have ep:(JA cp cr (kV x q).1).par g=((kV x q).1.getD g (0,0)).1:=rfl;rw[ep,iN oO];have hd:=hk.d ((kV x q).1.getD g (0,0)).1.toNat oO;rw[aKP hk cp cr f _ (n+1) oO oO];omega
def aZE(hx:NumsOk x)(hq:q<=5):jQ (JA (1+x.c%4) x.cr (kV x q).1)=aB:=by
 have hk:=aLJ hx hq;have hl:=(wA x q).1;have hr0:=hx.r0;have hr1:=hx.r1;have hc0:=hx.c0;have ng:(JA (1+x.c%4) x.cr (kV x q).1).ng=q+1:=hl;have g0:=hk.g0;simp only[jQ,aO,dTt,rP];refine⟨⟨?_,?_,?_,oO,oO,?_,?_⟩,fb_none_iff.2 λ g h1 h2=>?_⟩;.show 1<=1+x.c%4;omega
 .show 1+x.c%4<=64;omega
 .show x.cr<=1099511627776;omega
 .show((kV x q).1.getD 0 (0,0)).1=0;rw[g0]
 .show((kV x q).1.getD 0 (0,0)).2=1;rw[g0]
 rw[ng]at h2;obtain⟨a1,a3,a4⟩:=hk.g g h1 oO;have hd:=hk.d g oO;simp only[okR,okW,aO,dTt];refine⟨a3,?_⟩;rw[aKP hk _ _ 5 g 0 oO oO];omega
def UV{L:LSt}(h:L.tl=[]):∀(f g c:Nat),iU L f g c=aC
 |0,_,_=>rfl
 |f+1,g,c=>by
  rw[iU];have ih:=UV h f
  have:∀i,lS L (λ h=>iU L f h c) g c i=aC:=λ i=>by
   induction i with
   |zero=>rw[lS,h];rfl
   |succ i hi=>rw[lS,iN (by rw[ih];simp),hi]
  exact this _
def a3W(cp cr:Int)(G:List (Int×Int))(n:Nat):(mF (JA cp cr G) n).gl=G:=fF λ j=>by
 show((aR G.length).map λ i=>((G.getD i (0,0)).1,(G.getD i (0,0)).2))[j]? =G[j]?;by_cases h:j<G.length;.simp[h,oZ]
 rw[bE sO,bE oO]
def aLD(s:St)(n g c:Nat):(mF s n).sp g c=⟨0,0,0⟩:=by
 unfold LSt.sp;show((bI s.ng (bI n (⟨0,0,0⟩:Sp))).getD g []).getD c default=_;simp only[aU,oY];split
 .simp only[LB,oY];split;.rfl
  rfl
 simp;rfl
def aCZ:(bI n (0:Int)).getD i 0=0:=by simp only[aU,oY];split<;>rfl
def a3V(hx:NumsOk x)(hq:q<=5)(hn:1+x.c%4=(n:Int)):Rt (mF (JA (1+x.c%4) x.cr (kV x q).1) n) n:=by
 have hk:=aLJ hx hq;have hl:=(wA x q).1;have hc0:=hx.c0;obtain⟨s,es⟩:=xE (JA (1+x.c%4) x.cr (kV x q).1);have hcfg:=aZE hx hq;have gl:(mF s n).gl=(kV x q).1:=by rw[es];exact a3W _ _ _ _
 have sng:s.ng=q+1:=by rw[es];exact hl
 have hsl:(mF s n).sl.length=q+1:=by simp[mF,sng]
 have hpar:∀g,(mF s n).par g=((kV x q).1.getD g (0,0)).1:=λ g=>by unfold LSt.par;rw[gl]
 have hwt:∀g,(mF s n).wt g=((kV x q).1.getD g (0,0)).2:=λ g=>by unfold LSt.wt;rw[gl]
 have hcp:(mF s n).cpus=n:=by show s.cpus=n;rw[es];exact hn
 have hcr:(mF s n).credit=x.cr:=by show s.credit=x.cr;rw[es];rfl
 have hr0:=hx.r0;have hr1:=hx.r1;rw[<-es]at hcfg⊢
 have hent:∀w:Int,1<=w->w<=65536->aJR ⟨0,0,0⟩ w:=λ w h1 h2=>⟨by simp[qI];omega,bY _,by show(0:Int)<=_;omega,bY _,bY _,by show(0:Int)<=_;omega⟩;refine⟨⟨oO,oO,hcp,oO,oO,by rw[gl,hl,hsl],oO,oO,by simp[mF],by simp[mF],λ g hg=>?_,bF _,λ g h0 hg=>?_,?_,λ g hg=>?_,λ c hc=>?_,λ g c hg hc=>?_,λ c hc=>?_,λ i hi=>absurd hi (bU _),λ a b _ hb=>absurd hb (bU _),λ c hc=>?_⟩,λ g c hg hc y hy=>?_,?_⟩;.have:g<s.ng:=oO;simp[mF,oZ,this]
 .rw[hpar];exact(hk.g g h0 oO).1
 .rw[hpar,hk.g0]
 .rw[hwt];by_cases h0:g=0;.subst h0;rw[hk.g0];exact⟨bY _,by show(1:Int)<=65536;omega⟩
  exact(hk.g g oO oO).2.1
 .have:(mF s n).clk c=0:=aCZ;rw[this];omega
 .rw[aLD];refine hent _ ?_ ?_<;>rw[hwt]<;>(by_cases h0:g=0);.subst h0;rw[hk.g0];exact bY _
  .exact(hk.g g oO oO).2.1.1
  .subst h0;rw[hk.g0];show(1:Int)<=65536;omega
  exact(hk.g g oO oO).2.1.2
 .rw[aLD];exact⟨rfl,rfl⟩
 .left;exact aCZ
 .unfold GY at hy;rw[UV rfl]at hy;cases hy
 simp only[jQ,aO,dTt,rP]at hcfg⊢
 have e1:(mF s n).st.ng=s.ng:=by show(mF s n).gl.length=s.ng;rw[gl,hl,sng]
 have e2:(mF s n).st.par=s.par:=funext λ g=>by show(mF s n).par g=_;rw[hpar,es];rfl
 have e3:(mF s n).st.wt=s.wt:=funext λ g=>by show(mF s n).wt g=_;rw[hwt,es];rfl
 have e4:okR (mF s n).st=okR s:=funext λ g=>by simp only[okR,okW,e2,e3]
 rw[e1,e2,e3,e4];exact hcfg
def Tk.slp (t:Tk):Tk:={t with ready:=aF}
def LSt.lv (L:LSt)(c i:Nat):LSt:=(L.setU c 0).setT i (L.tsk i).slp
def LSt.del (L:LSt)(i:Nat):LSt:={L with tl:=L.tl.eraseIdx i}
def bFO{c:Nat}(h:Rt0 L n)(hc:c<n)(hi:i<L.tl.length)(hid:(L.tsk i).id=L.cur c)(hic:(L.tsk i).cpu=c):Rt0 (L.lv c i) n/\Fwd L (L.lv c i)/\(∀d,d<n->(L.lv c i).cur d≠(L.tsk i).id):=by
 have h1:Rt0 (L.setU c 0) n:=h.setU hc (dE rfl);have hT:=h.tk i hi
 have hcu:∀d,d<n->(L.setU c 0).cur d≠(L.tsk i).id:=λ d hd e=>by
  rw[aBG (by rw[h.nu];exact hc)]at e;split at e;.have:=hT.id1;omega
  rename_i hne;rcases h.cur d hd with h0|⟨j,h2,h3,h4,h5⟩;.have:=hT.id1;omega
  have hji:j=i:=by
   rcases kR j i with hl|hl|hl;.have:=h.sorted j i hl hi;omega
   .exact hl
   have:=h.sorted i j hl h2;omega
  subst hji;rw[hic]at h4;omega
 refine⟨h1.setT hi ⟨hT.id1,hT.id2,hT.g0,hT.g1,hT.c0,hT.c1,hT.e,hT.v0,hT.v1,hT.r0,hT.m0,hT.m1,hT.m2,hT.m3⟩ rfl (λ d hd hcc _ _=>absurd hcc (hcu d hd)),?_,hcu⟩;have h2:Fwd L (L.setU c 0):=⟨rfl,rfl,rfl,λ _=>rfl,λ _=>bY _,λ _ _=>bY _,mG _,rfl⟩;exact h2.trans (Fwd.setT (L:=L.setU c 0) (i:=i) (t:=(L.tsk i).slp)) (dE qV)
def IU(hi:i<L.tl.length):(L.del i).tsk j=if j<i then L.tsk j else L.tsk (j+1):=by unfold LSt.del LSt.tsk;simp only[aU,List.getElem?_eraseIdx];split<;>rfl
def ZD(hi:i<L.tl.length):(L.del i).tl.length=L.tl.length-1:=by unfold LSt.del;exact List.length_eraseIdx_of_lt hi
def bCJ(h:Rt0 L n)(hi:i<L.tl.length)(hcu:∀d,d<n->L.cur d≠(L.tsk i).id):Rt0 (L.del i) n/\Fwd L (L.del i):=by
 have hl:=ZD hi;have key:∀x,TkOk L n x->TkOk (L.del i) n x:=λ x q=>⟨q.id1,q.id2,q.g0,q.g1,q.c0,q.c1,q.e,q.v0,q.v1,q.r0,q.m0,q.m1,q.m2,q.m3⟩;refine⟨⟨h.n1,h.n64,h.cpus,h.cr0,h.cr,h.ng,h.ns1,h.ns,h.nk,h.nu,h.rows,by have:=h.nt;omega,h.par,h.par0,h.wt,h.clk,h.sp,h.root,λ j hj=>?_,λ a b hab hb=>?_,λ c hc=>?_⟩,⟨rfl,rfl,rfl,λ _=>rfl,λ _=>bY _,λ _ _=>bY _,oO,rfl⟩⟩
 .rw[IU hi];split;.exact key _ (h.tk j oO)
  exact key _ (h.tk (j+1) oO)
 .rw[IU hi,IU hi];split<;>split;.exact h.sorted a b hab oO
  .exact h.sorted a (b+1) oO oO
  .omega
  exact h.sorted (a+1) (b+1) oO oO
 rcases h.cur c hc with h0|⟨j,h1,h2,h3,h4⟩;.exact dE h0
 refine dP ?_;have hji:j≠i:=λ e=>by subst e;exact hcu c hc h4.symm
 by_cases e:j<i;.exact⟨j,oO,by rw[IU hi,iP e];exact⟨h2,h3,h4⟩⟩
 refine⟨j-1,oO,?_⟩;rw[IU hi,iN oO,(oO:j-1+1=j)];exact⟨h2,h3,h4⟩
def VV{α β:Type}(f:α->β):∀(l:List α) (i:Nat),(l.eraseIdx i).map f=(l.map f).eraseIdx i
 |[],_=>rfl
 |a::r,0=>rfl
 |a::r,i+1=>by simp only[List.eraseIdx,bN,VV f r i]
def bDQ(hi:i<L.tl.length):MH m tk (L.del i)=(m,⟨8,aF,[[L.cpus,aD (aE aI L.credit),.sl (m+1) 0 L.gl.length,.sl (m+2) 0 L.kl.length,.sl (m+3) 0 L.ul.length,.sl tk 0 (L.tl.length-1),.sl (m+5) 0 L.sl.length,aB]]⟩)::(m+1,⟨2,aB,SP L⟩)::(m+2,⟨1,aB,TE L⟩)::(m+3,⟨1,aB,MP L⟩)::(m+5,⟨1,aF,HT m L⟩)::(tk,⟨8,aB,(pB L).eraseIdx i⟩)::nA (m+6) 3 L.sl.length (CP L):=by rw[MH,LH,fS,ZD hi,pB];have e:((L.del i).tl.map tkc)=(pB L).eraseIdx i:=VV tkc L.tl i;rw[e];rfl
def aKE(L:LSt):((pB L).all λ row=>row.all AM.one)=aB:=by rw[aY];intro row h;simp only[pB,dM]at h;obtain⟨t,_,rfl⟩:=h;rfl
def bJI{c:Nat}:MH m tk (L.lv c i)=(m,⟨8,aF,[fS m tk L]⟩)::(m+1,⟨2,aB,SP L⟩)::(m+2,⟨1,aB,TE L⟩)::(m+3,⟨1,aB,(MP L).set c [(0:Int)]⟩)::(m+5,⟨1,aF,HT m L⟩)::(tk,⟨8,aB,(pB L).set i (tkc (L.tsk i).slp)⟩)::nA (m+6) 3 L.sl.length (CP L):=by
 rw[LSt.lv,FD];have e1:MP (L.setU c 0)=(MP L).set c [(0:Int)]:=UD;have e2:fS m tk (L.setU c 0)=fS m tk L:=by simp[fS,LSt.setU]
 rw[e1,e2];rfl
def NT(k:Nat):Kp [0,1,3,4,5,6,7,12,23,45] (λ i=>if k<=i then i-k+1 else 0):=oR
def a8R(L:LSt)(n:Nat)(hS:Rt0 L n)(o:Opn)(m tk k:Nat)(hm:m+6+L.sl.length<=tk)(hk:tk<k):OpOk Γ 90 L n o m tk k:=by
 have hnt:=hS.nt;have hcp:=hS.cpus;have hnu:=hS.nu;have hn64:=hS.n64;have hns:=hS.ns;have hcpu:=cpu L o.cpu m tk (k+1) hm oO (Γ:=Γ);by_cases h1:0<=o.cpu/\o.cpu<L.cpus;rotate_left
 .rw[decide_eq_false h1]at hcpu;refine⟨L,0,300,tk,k,hS,⟨fZ L,dP rfl⟩,hm,⟨hk,dE rfl⟩,aJ _,?_⟩;obtain⟨RH,eRH⟩:=xE (MH m tk L:aS);obtain⟨RV,eRV⟩:=xE (kM (0) 300:AVal);refine uG (k:=k) eRV eRH rfl (fX oO oO) (bR Tryz.func90 rfl 60 rfl bB ?_);simp only[MH,LH];have kp:=NT k;refine fW ?_;refine mS [.far (aD (bC aF)) (k+1) [(k,⟨8,aB,[gS o]⟩)] (MH m tk L) (MH m tk L)] ?_;refine kS (zs ?_) (zs ?_) (zs ?_);.intro q;simp only[MH,LH,fS,gS,bA,aZ]
  .exact hY rfl
  simp only[MH,LH];refine fM ?_;refine fC λ ht=>?_;refine kX ?_;refine⟨?_,?_⟩;.rw[eRV];rfl
  rw[eRH];simp only[MH,LH];exact mX iV
 rw[decide_eq_true h1]at hcpu;obtain⟨c,hc⟩:∃c:Nat,o.cpu=(c:Int):=⟨o.cpu.toNat,oO⟩;rw[hc]at hcpu;have hcn:c<n:=oO;have hO:gS o=[aD (aE bM o.kind),aD (aE aH (c:Int)),aD (aE aH o.task),aD (aE aH o.group),aD (aE aH o.weight),aD (aE aH o.to),aD (aE aH o.ticks),aD (aE aI o.mask)]:=by rw[<-hc];rfl
 by_cases h4:L.cur c=0
 .refine⟨L,0,6,tk,k,hS,⟨fZ L,dP rfl⟩,hm,⟨hk,dE rfl⟩,aJ _,?_⟩;obtain⟨RH,eRH⟩:=xE (MH m tk L:aS);obtain⟨RV,eRV⟩:=xE (kM (0) 6:AVal);refine uG (k:=k) eRV eRH rfl (fX oO oO) (bR Tryz.func90 rfl 60 rfl bB ?_);simp only[MH,LH];have kp:=NT k;have uU:=zA hc h4;refine fW ?_;refine mS [.far (aD (bC aB)) (k+1) [(k,⟨8,aB,[gS o]⟩)] (MH m tk L) (MH m tk L)] ?_;refine kS (zs ?_) (zs ?_) (zs ?_);.intro q;simp only[MH,LH,fS,gS,hc,bA,aZ]
  .exact hY rfl
  simp only[MH,LH];refine fM ?_;refine uV ?_;refine kB (gB λ ht ht=>?_);have uU:=zA hc h4;refine kX ?_;refine⟨?_,?_⟩;.rw[eRV];rfl
  rw[eRH];simp only[MH,LH];exact mX iV
 obtain⟨i,hi,hir,hic,hid⟩:=(hS.cur c hcn).resolve_left h4;have hfc:=find L (L.cur c) i (dP ⟨i,hi,rfl,hid⟩) hS.sorted oO m tk (k+1) hm oO (Γ:=Γ);obtain⟨hV,hVF,hVc⟩:=bFO hS hcn hi hid hic;have eMH:=bJI (m:=m) (tk:=tk) (c:=c) (i:=i) (L:=L);simp only[fS,tkc,Tk.slp]at eMH;obtain⟨Kx,eK⟩:=xE (L.lv c i);rw[<-eK]at eMH hV hVF hVc;have hKs:Kx.sl.length=L.sl.length:=hVF.ns;have hKi:i<Kx.tl.length:=by rw[eK];show i<(L.setU c 0|>.setT i _).tl.length;rw[qV];exact hi
 have hKd:(Kx.tsk i).id=(L.tsk i).id:=by rw[eK,LSt.lv,HI (by exact hi),iP rfl];rfl
 have hsett:∀x,((pB L).set i x)[i]? =aA x:=λ x=>cE (by rw[uX];exact hi);by_cases h5:o.kind=4;rotate_left
 .refine⟨Kx,L.cur c,0,tk,k,hV,⟨hVF,dE rfl⟩,hm,⟨hk,dE rfl⟩,aJ _,?_⟩;obtain⟨RH,eRH⟩:=xE (MH m tk Kx:aS);obtain⟨RV,eRV⟩:=xE (kM (L.cur c) 0:AVal);refine uG (k:=k) eRV eRH rfl (fX oO oO) (bR Tryz.func90 rfl 60 rfl bB ?_);simp only[MH,LH];have kp:=NT k;have uU:=zA hc hsett;refine fW ?_;refine mS [.far (aD (bC aB)) (k+1) [(k,⟨8,aB,[gS o]⟩)] (MH m tk L) (MH m tk L)] ?_;refine kS (zs ?_) (zs ?_) (zs ?_);.intro q;simp only[MH,LH,fS,gS,hc,bA,aZ]
  .exact hY rfl
  simp only[MH,LH];refine fM ?_;refine uV ?_;refine kB (gB λ ht ht=>mS [.far (aD (aE aH (i:Int))) (k+1) [(k,⟨8,aB,[gS o]⟩)] (MH m tk L) (MH m tk L)] ?_);refine kS (zs ?_) (zs ?_) (zs ?_);.intro q;simp only[MH,LH,fS,gS,hc,bA,aZ]
  .exact hY rfl
  simp only[MH,LH];refine fM ?_;refine fC λ ht=>?_;rw[<-eMH];refine fW ?_;have uU:=zA hc hsett;refine kX ?_;refine⟨?_,?_⟩;.rw[eRV];rfl
  rw[eRH];simp only[MH,LH];exact mX iV
 obtain⟨hD,hDF⟩:=bCJ hV hKi (λ d hd=>by rw[hKd];exact hVc d hd);have hDs:(Kx.del i).sl.length=L.sl.length:=hKs;have hsd:=a2R (pB Kx) Kx.tl.length i tk (k+1) (uX _) hKi (by have:=hV.nt;omega) (aKE _) oO (Γ:=Γ);have hie:aH.wrap ((i:Int)+1)=(i:Int)+1:=wrap_i64 oO oO;have hle:(Kx.del i).tl.length=Kx.tl.length-1:=ZD hKi;refine⟨Kx.del i,L.cur c,0,tk,k,hD,⟨hVF.trans hDF (dP (by rw[eK];show(L.setU c 0|>.setT i _).tl.length<=_;rw[qV];exact aJ _)),dE rfl⟩,hm,⟨hk,dE rfl⟩,aJ _,?_⟩;obtain⟨RH,eRH⟩:=xE (MH m tk (Kx.del i):aS);obtain⟨RV,eRV⟩:=xE (kM (L.cur c) 0:AVal);refine uG (k:=k) eRV eRH rfl (fX oO oO) (bR Tryz.func90 rfl 60 rfl bB ?_);simp only[MH,LH];have kp:=NT k;have uU:=pJ hc hsett h5 hie;refine fW ?_;refine mS [.far (aD (bC aB)) (k+1) [(k,⟨8,aB,[gS o]⟩)] (MH m tk L) (MH m tk L)] ?_;refine kS (zs ?_) (zs ?_) (zs ?_);.intro q;simp only[MH,LH,fS,gS,hc,h5,bA,aZ]
 .exact hY rfl
 simp only[MH,LH];refine fM ?_;refine uV ?_;refine kB (gB λ ht ht=>mS [.far (aD (aE aH (i:Int))) (k+1) [(k,⟨8,aB,[gS o]⟩)] (MH m tk L) (MH m tk L)] ?_);refine kS (zs ?_) (zs ?_) (zs ?_);.intro q;simp only[MH,LH,fS,gS,hc,h5,bA,aZ]
 .exact hY rfl
 simp only[MH,LH];refine fM ?_;refine fC λ ht=>?_;rw[<-eMH];simp only[MH,LH];have uU:=uT hc h5 hie;refine fW ?_;refine sJ [.gen (.sl tk 0 (Kx.tl.length-1)) (k+1) [(tk,⟨8,aB,pB Kx⟩)] [(tk,⟨8,aB,(pB Kx).eraseIdx i⟩)]] ?_;refine fW ?_;have uU:=uT hc h5 hie;refine kX ?_;refine⟨?_,?_⟩;.rw[eRV];rfl
 rw[eRH,bDQ hKi];exact mX iV
def a2Q(R:List (List AVal))(row:List AVal)(n i tk vb k:Nat)(hn:R.length=n)(hi:i<=n)(hn2:n<=100000)(hone:(R.all λ row=>row.all AM.one)=aB)(hone1:row.all AM.one=aB)(hne:tk≠vb)(hk:tk<k)(hk2:vb<k):
 Tr aG Γ 165 k [.sl tk 0 n,i,.sl vb 0 1] [(tk,⟨8,aB,R⟩),(vb,⟨8,aB,[row]⟩)] (λ k1 r1 H1=>k1=k+1/\r1= .sl k 0 (n+1)/\H1=[(k,⟨8,aB,wG R i row⟩)]):=by
 obtain⟨RH,eRH⟩:=xE ([(k,⟨8,aB,wG R i row⟩)]:aS);refine Tr.mono (mO (kk:=k+1) (V:= .sl k 0 (n+1)) (RH:=RH) oO (by simp[bd,MG,iL,kC]) (by rw[eRH];exact jS (by simp only[kC,dTt];omega) rfl) ?_) (λ _ _ _ h=>⟨h.1,h.2.1,h.2.2.trans eRH⟩);by_cases hin:i=n
 .subst hin;have eI:wG R i row=R++[row]:=by unfold wG;rw[gU oO,List.drop_eq_nil_of_le oO]
  rw[eI]at eRH;refine bR Tryz.func165 rfl 95 rfl bB ?_;have kp:=kN k [0,1,2,6,7,8,9,16,22,31,68];refine vI ?_;refine kB (gB λ ht ht=>kX ?_);refine⟨rfl,?_⟩;rw[eRH];exact SX iV
 have hI:∀X:List (List AVal),(∀q,X[q]? =(wG R i row)[q]?)->X=wG R i row:=λ X h=>fF h;have hg:∀q,(wG R i row)[q]? =if q<i then R[q]? else if q=i then aA row else R[q-1]? :=insR_get? oO
 refine bR Tryz.func165 rfl 95 rfl bB ?_;obtain⟨q,hq⟩:=xE (n+1-i:Nat);have e1:aH.wrap ((n:Int)+1)=(n:Int)+1:=wrap_i64 oO oO;have e2:aH.wrap ((i:Int)+1)=(i:Int)+1:=wrap_i64 oO oO;have e3:aH.wrap ((n:Int)+1-(i:Int))=(q:Int):=by rw[wrap_i64 oO oO];omega
 have kp:=kN k [0,1,2,6,7,8,9,16,22,31,68];have uU:=uT e1 e2 e3;refine vI ?_;refine kB (gB λ ht ht=>aNT 0 rfl (fI) (λ h=>oO) (λ cap hc1 hc2=>cZ ?_));refine xJ [.raw (aA 30) ⟨aD (aE aH (cap:Int)),k,[],[tk]⟩] ?_;refine iA ?_ ?_;.exact aZI rfl kRf rfl (fI)
 refine vI ?_;refine pN (λ ht=>?_) λ ht=>?_
 .obtain⟨X1,eX1⟩:=xE (R.take i++bI q ztk:List (List AVal));have hX1:X1.length=n+1:=by rw[eX1];simp;omega
  obtain⟨X2,eX2⟩:=xE (gH X1 [row] i:List (List AVal));have hX2:X2.length=n+1:=by rw[eX2,tI sO,hX1]
  have hX3:gH X2 (((R.drop i).take (n-i)).take (n-i)) (i+1)=wG R i row:=hI _ λ p=>by
   rw[hg,setRows_get? oO,List.take_take,Nat.min_self,gU sO,aOA,hn];by_cases h1:p<i;.rw[iP oO,iP h1,eX2,setRows_get? oO,iP h1,eX1,dQ,iP sO,fA,iP h1]
   rw[iN h1];by_cases h2:p=i;.rw[iP oO,iP h2,eX2,setRows_get? oO,iN h1,iP sO,h2];simp
   rw[iN oO,iN h2];by_cases h3:p<i+1+(n-i);.rw[iP h3,fJ];congr 1;omega
   rw[iN h3,bE oO,bE oO]
  refine xJ [.raw (aA 34) ⟨.slc tk 0 i cap,k,[],[tk]⟩,.raw (aA 40) ⟨.sl k 0 (n+1),k+1,[(k,aA ⟨8,aB,X1⟩)],[tk]⟩] ?_;refine kS (zs ?_) (zs ?_) (zs ?_);.exact kP rfl (fI) kRf rfl rfl rfl oO oO oO oO oO oO
  .rw[eX1];exact aJC (kn:= .i64) rfl y7 kRf rfl (fI) rfl rfl oO oO oO oO (by show 0+i<=R.length;omega) rfl oO rfl
  refine gO ?_;refine xJ [.raw (aA 45) ⟨aD (aE aH 1),k+1,[(k,aA ⟨8,aB,X2⟩)],[k,vb]⟩] ?_;refine iA ?_ ?_;.exact AZ (B:=⟨8,aB,X1⟩) 1 rfl y7 rfl (by simp(disch:=omega)only[AM.look,iO,↓reduceIte]) rfl rfl (.sl (B:=⟨8,aB,[row]⟩) (by simp(disch:=omega)only[AM.look,iO,↓reduceIte]) (by show 0+1<=1;omega)) (by simp only[bKB,List.take_succ_cons,List.take_zero,gI,BK,hone1,iE]) (by show 1=min 1 _;omega) oO (by show i+_<=X1.length;omega) rfl (by rw[eX2];rfl)
  refine gO ?_;refine dlD [.raw (aA 53) ⟨.slc tk i (n-i) (cap-i),k+1,[],[tk]⟩,.raw (aA 54) ⟨aD (aE aH ((n-i:Nat):Int)),k+1,[(k,aA ⟨8,aB,wG R i row⟩)],[k,tk]⟩] ?_;refine kS (zs ?_) (zs ?_) (zs ?_);.exact kP rfl (fI) kRf rfl rfl rfl oO oO oO oO oO oO
  .rw[<-hX3];refine AZ (B:=⟨8,aB,X2⟩) (n-i) rfl y7 rfl (by simp(disch:=omega)only[AM.look,iO,↓reduceIte]) rfl rfl (.sl (B:=⟨8,aB,R⟩) (by simp(disch:=omega)only[AM.look,iO,↓reduceIte]) (by show i+(n-i)<=R.length;omega)) ?_ ?_ oO (by show((i:Int)+1).toNat+_<=X2.length;omega) rfl ?_
   .rw[aY]at hone⊢
    exact λ row h=>hone row (List.mem_of_mem_drop (bWG (bWG h)))
   .show n-i=min (n-i) _;omega
   rw[(oO:((i:Int)+1).toNat=i+1)]
  refine gO ?_;have uU:=uT e1 e2 e3;refine kX ?_;refine⟨rfl,?_⟩;rw[eRH];exact SX iV
 obtain⟨J,eJ⟩:=xE (bI 8 .junk:List AVal);obtain⟨X1,eX1⟩:=xE (R++[J]:List (List AVal));have hX1:X1.length=n+1:=by rw[eX1];simp;omega
 have hX1g:∀p,p<n->X1[p]? =R[p]? :=λ p hp=>by rw[eX1,dQ,iP oO]
 obtain⟨X2,eX2⟩:=xE (gH X1 (((X1.drop i).take (n+1-i)).take (n-i)) (i+1):List (List AVal));have hl2:(((X1.drop i).take (n+1-i)).take (n-i)).length=n-i:=by simp;omega
 have hX2:X2.length=n+1:=by rw[eX2,tI (by rw[hl2];omega),hX1]
 have hX3:gH X2 [row] i=wG R i row:=hI _ λ p=>by
  rw[hg,setRows_get? oO];by_cases h1:p<i;.rw[iP h1,iP h1,eX2,setRows_get? oO,iP oO,hX1g p oO]
  rw[iN h1,iN h1];by_cases h2:p=i;.rw[iP sO,iP h2,h2];simp
  rw[iN sO,iN h2,eX2,setRows_get? oO,iN oO,hl2];by_cases h3:p<i+1+(n-i);.rw[iP h3,fA,iP oO,fA,iP oO,fJ,(oO:i+(p-(i+1))=p-1),hX1g (p-1) oO]
  rw[iN h3,bE oO,bE oO]
 have hone2:((((X1.drop i).take (n+1-i)).take (n-i)).all λ row=>row.all AM.one)=aB:=by
  rw[aY]at hone⊢
  intro r hr;obtain⟨p,hp⟩:=pF hr;rw[fA]at hp;split at hp;.rw[fA,iP oO,fJ,hX1g _ oO]at hp;exact hone r (gL hp)
  cases hp
 refine xJ [.raw (aA 60) ⟨.slc tk 0 (n+1) cap,k,[(tk,aA ⟨8,aB,X1⟩)],[tk]⟩] ?_;refine iA ?_ ?_;.exact aOU (B:=⟨8,aB,R⟩) (e:=1) rfl (fI) kRf rfl rfl rfl oO oO oO (by show R.length+1<=0+cap;omega) oO oO oO (by rw[eX1,eJ];rfl)
 refine gO ?_;refine xJ [.raw (aA 66) ⟨.slc tk (i+1) (n-i) (cap-(i+1)),k,[],[tk]⟩,.raw (aA 67) ⟨aD (bC aF),k,[],[vb,tk]⟩] ?_;refine kS (zs ?_) (zs ?_) (zs ?_);.exact kP rfl (fI) kRf rfl rfl rfl oO oO oO oO oO oO
 .exact TB (s:=8) (e:=89) (B1:=⟨8,aB,[row]⟩) (B2:=⟨8,aB,X1⟩) rfl rfl rfl rfl rfl rfl rfl rfl kRf rfl rfl rfl oO (by simp(disch:=omega)only[AM.look,iO,↓reduceIte]) (fI) oO oO (by show 0<X1.length;omega) (by show 0<8;omega)
 refine gJ λ ht=>?_;refine dlD [.raw (aA 73) ⟨.slc tk (i+1) (n-i) (cap-(i+1)),k,[],[tk]⟩,.raw (aA 76) ⟨.slc tk i (n+1-i) (cap-i),k,[],[tk]⟩,.raw (aA 77) ⟨aD (aE aH ((n-i:Nat):Int)),k,[(tk,aA ⟨8,aB,X2⟩)],[tk,tk]⟩] ?_;refine FN (zs ?_) (zs ?_) (zs ?_) (zs ?_);.exact kP rfl (fI) kRf rfl rfl rfl oO oO oO oO oO oO
 .exact kP rfl (fI) kRf rfl rfl rfl oO oO oO oO oO oO
 .exact QR (AZ (B:=⟨8,aB,X1⟩) (n-i) rfl y7 rfl (by simp(disch:=omega)only[AM.look,iO,↓reduceIte]) rfl rfl (.sl (B:=⟨8,aB,X1⟩) (by simp(disch:=omega)only[AM.look,iO,↓reduceIte]) (by show i+(n+1-i)<=X1.length;omega)) hone2 (by show n-i=min (n+1-i) (n-i);omega) oO (by show i+1+(n-i)<=X1.length;omega) rfl (by rw[eX2]))
 refine gO ?_;refine xJ [.raw (aA 80) ⟨.slc tk i (n+1-i) (cap-i),k,[],[tk]⟩,.raw (aA 82) ⟨aD (aE aH 1),k,[(tk,aA ⟨8,aB,wG R i row⟩)],[tk,vb]⟩] ?_;refine kS (zs ?_) (zs ?_) (zs ?_);.exact kP rfl (fI) kRf rfl rfl rfl oO oO oO oO oO oO
 .exact QR (AZ (B:=⟨8,aB,X2⟩) 1 rfl y7 rfl (by simp(disch:=omega)only[AM.look,iO,↓reduceIte]) rfl rfl (.sl (B:=⟨8,aB,[row]⟩) (by simp(disch:=omega)only[AM.look,iO,↓reduceIte]) (by show 0+1<=1;omega)) (by simp only[bKB,List.take_succ_cons,List.take_zero,gI,BK,hone1,iE]) (by show 1=min 1 _;omega) oO (by show i+(n+1-i)<=X2.length;omega) rfl (by rw[<-hX3];rfl))
 refine gO ?_;refine gW (vG tk oO) (cZ ?_);refine gW (PC 6 rfl) (cZ ?_);have uU:=uT e1 e2 e3;refine kX ?_;refine⟨rfl,?_⟩;rw[eRH];exact SX iV
def aLE(x:Int)(n:Nat)(h1:1<=n)(h2:n<=64)(hx:0<=x)(hx2:x<18446744073709551616):Pure aG Γ 160 [aD (aE aI x),n] (decide (x/2^n≠0)):=by
 obtain⟨q,rfl⟩:∃q,n=q+1:=⟨n-1,oO⟩;have e1:aH.wrap ((q:Int)+1-1)=(q:Int):=by rw[wrap_i64 oO oO];omega
 have hp0:0<=x/2^q:=a7U hx (CJ oO);have e2:x.fdiv (2^min q 64)=x/2^q:=by rw[(oO:min q 64=q),fG _ (CJ oO)]
 have e3:(x/2^q).fdiv (2^min 1 64)=x/2^(q+1):=by rw[show(2:Int)^min 1 64=2 from rfl,fG _ oO,Int.ediv_ediv_of_nonneg (CJ oO),Int.pow_succ]
 have e4:((q:Int)<0)=False:=eq_false oO;refine cA Tryz.func160 rfl 11 rfl bB rfl λ k=>?_;have kp:=kN k [0,1,4];have uU:=pJ e1 e2 e3 e4;refine fW ?_;refine cB rfl ⟨_,rfl,bG ?_⟩;simp;rw[eY];simp
def a9Y(x T:Tk)(t k:Nat)(hk:t<k):Tr aG Γ 164 k [.agg (tkc x),.ptr t 0 0] [(t,⟨8,aB,[tkc T]⟩)] (λ k1 r1 H1=>k1=k/\r1=aD (bC (decide (T.id<x.id)))/\H1=[(t,⟨8,aB,[tkc T]⟩)]):=by
 obtain⟨RH,eRH⟩:=xE ([(t,⟨8,aB,[tkc T]⟩)]:aS);refine Tr.mono (mO (kk:=k) (V:=aD (bC (decide (T.id<x.id)))) (RH:=RH) oO rfl (by rw[eRH];exact jS (by simp only[kC,dTt];omega) rfl) ?_) (λ _ _ _ h=>⟨h.1,h.2.1,h.2.2.trans eRH⟩);refine bR Tryz.func164 rfl 9 rfl bB ?_;have kp:=kN k [0,1,2,3];refine fW ?_;refine kX ?_;refine⟨?_,?_⟩;.first|rfl|simp
 rw[eRH];exact mX iV
def a1A(L:LSt)(id:Int)(p:Nat):Prop:=p<=L.tl.length/\(∀q,q<p->(L.tsk q).id<id)/\∀q,p<=q->q<L.tl.length->id<(L.tsk q).id
def bBJ(L:LSt)(T:Tk)(p:Nat)(hp:a1A L T.id p)(hnt:L.tl.length<=100000)(r:Int)(hr:r=if p<L.tl.length then(p:Int)else-1)(tk t k:Nat)(hk:tk<k)(hk2:t<k)(hne:tk≠t):
 Tr aG Γ 125 k [.sl tk 0 L.tl.length,.fn 164 [.ptr t 0 0]] [(tk,⟨8,aB,pB L⟩),(t,⟨8,aB,[tkc T]⟩)]
  (λ k1 r1 H1=>k1=k/\r1=aD (aE aH r)/\H1=[(tk,⟨8,aB,pB L⟩),(t,⟨8,aB,[tkc T]⟩)]):=by
 obtain⟨RH,eRH⟩:=xE ([(tk,⟨8,aB,pB L⟩),(t,⟨8,aB,[tkc T]⟩)]:aS);obtain⟨RV,eRV⟩:=xE (.lit (.int .i64 r):AVal);refine uG (kk:=k) eRV eRH rfl (jS (by simp only[kC,dTt];omega) (jS (by simp only[kC,dTt];omega) rfl)) ?_;refine bR Tryz.func125 rfl 19 rfl bB ?_;have kp:=kN k [0,1,4,5,7,8,9,16];refine fW ?_;refine cD (X:=Nat) rfl [0,1,4,5,7,8,9,16] k (λ i=>[(8,i)]) (λ i=>[(tk,⟨8,aB,pB L⟩),(t,⟨8,aB,[tkc T]⟩)]) (λ i=>i<=L.tl.length/\i<=p) (λ i=>L.tl.length-i) 0 ?_ ⟨bF _,bF _⟩ ?_;.refine fM ?_;exact iC
 rintro i ⟨hi,hip⟩;refine fM ?_;refine uV ?_;refine pN (λ ht=>?_) λ ht=>?_
 .refine mS [.gen (aD (bC (decide (T.id<(L.tsk i).id)))) k [(t,⟨8,aB,[tkc T]⟩)] [(t,⟨8,aB,[tkc T]⟩)]] ?_;refine iA ?_ ?_;.exact a9Y (L.tsk i) T t k hk2
  refine uV ?_;refine pN (λ ht=>?_) λ ht=>?_
  .have hge:p<=i:=Nat.le_of_not_lt λ h=>by have:=hp.2.1 i h;omega
   refine kX ?_;refine⟨?_,?_⟩;.rw[eRV,hr,iP oO,(oO:p=i)]
   rw[eRH];exact mX iV
  have hge:i<p:=Nat.lt_of_not_le λ h=>by have:=hp.2.2 i h oO;omega
  refine⟨i+1,⟨oO,oO⟩,oO,fM ?_⟩;exact iC
 refine kX ?_;refine⟨?_,?_⟩;.rw[eRV,hr,iN oO]
 rw[eRH];exact mX iV
def LSt.ins (L:LSt)(p:Nat)(T:Tk):LSt:={L with tl:=wG L.tl p T}
def aMI(h:p<=L.tl.length):(L.ins p T).tl.length=L.tl.length+1:=aWX h
def IF(h:p<=L.tl.length):(L.ins p T).tsk j=if j<p then L.tsk j else if j=p then T else L.tsk (j-1):=by
 unfold LSt.tsk LSt.ins;simp only[aU,insR_get? h];split;.rfl
 split<;>rfl
def bBH(h:Rt0 L n)(hp:a1A L T.id p)(hT:TkOk L n T)(hl:L.tl.length<1000):Rt0 (L.ins p T) n/\Fwd L (L.ins p T):=by
 obtain⟨p1,p2,p3⟩:=hp;have hlen:=aMI (T:=T) p1;have key:∀x,TkOk L n x->TkOk (L.ins p T) n x:=λ x q=>⟨q.id1,q.id2,q.g0,q.g1,q.c0,q.c1,q.e,q.v0,q.v1,q.r0,q.m0,q.m1,q.m2,q.m3⟩;refine⟨⟨h.n1,h.n64,h.cpus,h.cr0,h.cr,h.ng,h.ns1,h.ns,h.nk,h.nu,h.rows,oO,h.par,h.par0,h.wt,h.clk,h.sp,h.root,λ j hj=>?_,λ a b hab hb=>?_,λ c hc=>?_⟩,⟨rfl,rfl,rfl,λ _=>rfl,λ _=>bY _,λ _ _=>bY _,oO,rfl⟩⟩
 .rw[IF p1];split;.exact key _ (h.tk j oO)
  split;.exact key _ hT
  exact key _ (h.tk (j-1) oO)
 .rw[IF p1,IF p1];by_cases a1:a<p
  .rw[iP a1];by_cases b1:b<p;.rw[iP b1];exact h.sorted a b hab oO
   rw[iN b1];split;.exact p2 a a1
   exact h.sorted a (b-1) oO oO
  rw[iN a1,iN (oO:¬b<p),iN (oO:¬b=p)];split;.exact p3 (b-1) oO oO
  exact h.sorted (a-1) (b-1) oO oO
 rcases h.cur c hc with h0|⟨j,h1,h2,h3,h4⟩;.exact dE h0
 refine dP ?_;by_cases e:j<p;.exact⟨j,oO,by rw[IF p1,iP e];exact⟨h2,h3,h4⟩⟩
 refine⟨j+1,oO,?_⟩;rw[IF p1,iN oO,iN oO,(oO:j+1-1=j)];exact⟨h2,h3,h4⟩
def aWW(f:α->β)(l:List α)(p:Nat)(x:α):(wG l p x).map f=wG (l.map f) p (f x):=by simp[wG,List.map_take,List.map_drop]
def bDP(hp:p<=L.tl.length):MH m tk (L.ins p T)=(m,⟨8,aF,[[L.cpus,aD (aE aI L.credit),.sl (m+1) 0 L.gl.length,.sl (m+2) 0 L.kl.length,.sl (m+3) 0 L.ul.length,.sl tk 0 (L.tl.length+1),.sl (m+5) 0 L.sl.length,aB]]⟩)::(m+1,⟨2,aB,SP L⟩)::(m+2,⟨1,aB,TE L⟩)::(m+3,⟨1,aB,MP L⟩)::(m+5,⟨1,aF,HT m L⟩)::(tk,⟨8,aB,wG (pB L) p (tkc T)⟩)::nA (m+6) 3 L.sl.length (CP L):=by rw[MH,LH,fS,aMI hp,pB];have e:((L.ins p T).tl.map tkc)=wG (pB L) p (tkc T):=aWW tkc L.tl p T;rw[e];rfl
def aUQ{id:Int}(hso:BJ L)(hno:∀i,i<L.tl.length->(L.tsk i).id≠id):∃p,a1A L id p:=by obtain⟨p,h1,h2,h3⟩:=aFY L hso id;exact⟨p,h1,h2,λ q hq hq2=>by have:=h3 q hq hq2;have:=hno q hq2;omega⟩
def aPC{s:Nat}{B:Blk}(h:id≠i):yL (cM id s l H) i B=cM id s l (yL H i B):=by
 cases l with
 |nil=>rfl
 |cons a r=>simp only[cM,yL];rw[iN h]
def a6R(h:id<k):bd (kC k) (dI id l)=aB:=aJA (by simp only[kC,dTt];exact h)
def aZW{s:Nat}(h:id<k):oU (kC k) (cM id s l H)=oU (kC k) H:=ON (by simp only[kC,dTt];exact h)
attribute [go_sem] aPC a6R aZW
def NS(g:Nat->Nat):Kp [0,1,3,4,5,6,7,8,9,11,15,21,26,40,60,66,117] g:=oR
def vB(k:Nat):Kp [0,1,3,4,5,6,7,8,9,11,15,21,26,40,60,66,117] (λ i=>if k<=i then i-k+1 else 0):=oR
def a9X(L:LSt)(n:Nat)(hS:Rt0 L n)(o:Opn)(hl:L.tl.length<1000)(hmk:0<=o.mask/\o.mask<18446744073709551616)(m tk k:Nat)(hm:m+6+L.sl.length<=tk)(hk:tk<k)(c g:Nat)(hc:o.cpu=(c:Int))(hgr:o.group=(g:Int))(hcn:c<n)(hg1:g<L.sl.length)(h2:1<=o.task/\o.task<=65535)(h4:1<=o.weight/\o.weight<=65536)(h5:¬o.mask=0)(h6:o.mask/2^n=0)(hr:GV L o.task (-1))(h7:o.mask/2^c%2=1):OpOk Γ 88 L n o m tk k:=by
 have hnt:=hS.nt;have hcp:=hS.cpus;have hnu:=hS.nu;have hn1:=hS.n1;have hn64:=hS.n64;have hns:=hS.ns;have hng:=hS.ng;have hcpu:=cpu L o.cpu m tk (k+1) hm oO (Γ:=Γ);have htask:=LQ o.task (Γ:=Γ);have hwgh:=xU o.weight (Γ:=Γ);have hwide:=aLE o.mask n hn1 hn64 hmk.1 hmk.2 (Γ:=Γ);rw[<-hcp]at hwide;rw[decide_eq_true oO,hc]at hcpu;rw[decide_eq_true h2]at htask;have hrow:=hS.rows g hg1;rw[decide_eq_true h4]at hwgh;rw[decide_eq_false (λ h=>h h6)]at hwide;have hfc:=find L o.task (-1) hr hS.sorted oO m tk (k+1) hm oO (Γ:=Γ);have hmb:aI.wrap ((BitVec.ofInt aI.bits (o.mask.fdiv (2^min c 64))&&&BitVec.ofInt aI.bits 1).toNat:Int)=o.mask/2^c%2:=by have:=rA (x:=o.mask) (c:=(c:Int)) hmk.1 hmk.2 oO oO;rwa [bW]at this
 have hneg:((c:Int)<0)=False:=eq_false oO;have hsa:=hS.sp g c hg1 hcn;obtain⟨T0,eT0⟩:=xE (⟨o.task,(g:Int),0,(c:Int),o.mask,aB,0,0⟩:Tk);obtain⟨T,eT⟩:=xE (⟨o.task,(g:Int),o.weight,(c:Int),o.mask,aB,(L.sp g c).floor,0⟩:Tk);have hT:TkOk L n T:=by rw[eT];exact⟨h2.1,h2.2,by show(0:Int)<=g;omega,by show(g:Int)<_;omega,by show(0:Int)<=c;omega,by show(c:Int)<n;omega,aMZ h4.1 h4.2,hsa.2.2.2.2.1,hsa.2.2.2.2.2,bY _,hmk.1,hmk.2,h6,by show o.mask/2^((c:Int)).toNat%2=1;rw[bW];exact h7⟩
 have hTid:T.id=o.task:=by rw[eT]
 obtain⟨p,hp⟩:=aUQ hS.sorted (id:=T.id) (λ i hi e=>by
  rcases hr with⟨_,h⟩|⟨j,_,h,_⟩;.exact h i hi (by rw[e,hTid])
  omega)
 obtain⟨hN,hNF⟩:=bBH hS hp hT hl;obtain⟨E,eE⟩:=xE (uM L L.sl.length g c);have hE1:∀x,x∈E->0<x/\x<L.sl.length:=by rw[eE];exact AW hS hg1
 have hE2:E.length<=g:=by rw[eE];exact AX hS hg1
 have hemp:=empty L n c g hS hcn hg1 E eE m tk (k+1) hm oO (Γ:=Γ);have hwk:=hN.wake hcn (l:=E) hE1;have hplen:=hp.1;obtain⟨r,er⟩:=xE (if p<L.tl.length then(p:Int)else-1:Int);have hidx:=bBJ L T p hp oO r er tk (k+2) (k+4) oO oO oO (Γ:=Γ);have hTc:tkc T=[aD (aE aH o.task),aD (aE aH (g:Int)),aD (aE aH o.weight),aD (aE aH (c:Int)),aD (aE aI o.mask),aD (bC aB),aD (aE aI (L.sp g c).floor),aD (aE aT 0)]:=by rw[eT];rfl
 have hT0c:tkc T0=[aD (aE aH o.task),aD (aE aH (g:Int)),aD (aE aH 0),aD (aE aH (c:Int)),aD (aE aI o.mask),aD (bC aB),aD (aE aI 0),aD (aE aT 0)]:=by rw[eT0];rfl
 have hput:=aPW T0 (L.sp g c).floor 0 o.weight [tkc T0] (k+2) 0 rfl oO oO (k+4) oO (Γ:=Γ);rw[show [tkc T0].set 0 (tkc {T0 with v:=(L.sp g c).floor,r:=0,weight:=o.weight})=[tkc T]by rw[eT0,eT];rfl]at hput;have hsin:=a2Q (pB L) (tkc T) L.tl.length p tk (k+4) (k+5) (uX _) hplen oO (aKE _) rfl oO oO oO (Γ:=Γ);rw[hTc]at hidx hput hsin;rw[hT0c]at hput;obtain⟨Nx,eN⟩:=xE (L.ins p T);have eMH:=bDP (m:=m) (tk:=k+5) (L:=L) (T:=T) hplen;rw[hTc,<-eN]at eMH;rw[<-eN]at hN hNF hwk;have hNs:Nx.sl.length=L.sl.length:=hNF.ns;have hwc:=wake Nx n c hN hcn E (λ x hx=>by rw[hNs];exact hE1 x hx) oO m (k+5) (k+6) (k+7) oO oO oO (Γ:=Γ);have hWs:(pA Nx c E).sl.length=L.sl.length:=by rw[hwk.2.1.ns,hNs]
 refine⟨pA Nx c E,0,0,k+5,k+7,hwk.1,⟨hNF.trans hwk.2.1 (dE (by rw[hwk.2.2])),dE rfl⟩,oO,⟨oO,dP oO⟩,oO,?_⟩;obtain⟨RH,eRH⟩:=xE (MH m (k+5) (pA Nx c E):aS);obtain⟨RV,eRV⟩:=xE (kM 0 0:AVal);refine uG (kk:=k+7) eRV eRH rfl (fX oO oO) (bR TS rfl 139 rfl bB ?_);simp only[MH,LH];have kp:=vB k;have uU:=zA hc hgr;refine fW ?_;refine mS [.far (aD (bC aB)) (k+1) [(k,⟨8,aB,[gS o]⟩)] (MH m tk L) (MH m tk L)] ?_;refine kS (zs ?_) (zs ?_) (zs ?_);.intro q;simp only[MH,LH,fS,gS,hc,hgr,bA,aZ]
 .exact hY rfl
 simp only[MH,LH];refine fM ?_;refine fC λ ht=>?_;refine sJ [.ret aB] ?_;refine uV ?_;refine kB (qS λ ht ht hg=>RD [.ret aB,.ret aF] ?_);refine kB (gZ λ hg=>?_);all_goals(try(exact absurd trivial ‹¬True›))
 refine fC λ ht=>?_;refine mS [.far (aD (aE aH (-1))) (k+1) [(k,⟨8,aB,[gS o]⟩)] (MH m tk L) (MH m tk L)] ?_;refine kS (zs ?_) (zs ?_) (zs ?_);.intro q;simp only[MH,LH,fS,gS,hc,hgr,bA,aZ]
 .exact hY rfl
 simp only[MH,LH];refine fM ?_;have uU:=GX hc hgr hmb hneg hrow;refine uV ?_;refine kB (gB λ ht ht=>mS [.far (dI (k+1) (gR E)) (k+2) [(k,⟨8,aB,[gS o]⟩)] (MH m tk L) (cM (k+1) 1 (gR E) (MH m tk L))] ?_);refine kS (zs ?_) (zs ?_) (zs ?_);.intro q;simp only[MH,LH,fS,gS,hc,hgr,bA,aZ]
 .exact SC (by simp only[AM.look];rw[iN oO]) (mQ (λ i hi=>by simp only[AM.look];rw[iN oO]) rfl)
 simp only[MH,LH];refine fM ?_;refine fW ?_;refine RD [.ret (.tup [enc (L.sp g c).floor 0 o.weight,(0:Int)])] ?_;refine iA ?_ ?_;.exact bLN _ _ h4.1 h4.2
 refine fW ?_;refine sJ [.gen (.tup []) (k+4) [(k+2,⟨8,aB,[[o.task,g,(0:Int),c,aD (aE aI o.mask),aB,aD (aE aI 0),aD (aE aT 0)]]⟩)] [(k+2,⟨8,aB,[[o.task,g,o.weight,c,aD (aE aI o.mask),aB,aD (aE aI (L.sp g c).floor),aD (aE aT 0)]]⟩)]] ?_;refine fW ?_;by_cases hpl:p<L.tl.length
 .rw[iP hpl]at er;rw[er]at hidx;refine sJ [.gen (aD (aE aH (p:Int))) (k+4) [(tk,⟨8,aB,pB L⟩),(k+2,⟨8,aB,[[o.task,g,o.weight,c,aD (aE aI o.mask),aB,aD (aE aI (L.sp g c).floor),aD (aE aT 0)]]⟩)] [(tk,⟨8,aB,pB L⟩),(k+2,⟨8,aB,[[o.task,g,o.weight,c,aD (aE aI o.mask),aB,aD (aE aI (L.sp g c).floor),aD (aE aT 0)]]⟩)]] ?_;refine fC λ ht=>?_;refine lO [0,1,3,4,5,6,7,8,9,11,15,21,26,40,60,66,117] (k+7) [(7,dI (k+6) (gR E))] ((k,⟨8,aB,[gS o]⟩)::cM (k+6) 1 (gR E) (MH m (k+5) Nx)) ?_ ?_;.have kp:=NS (λ i=>if i=tk then 1 else if k<=i then i-k+2 else 0);refine GJ [.gen (.sl (k+5) 0 (L.tl.length+1)) (k+6) [(tk,⟨8,aB,pB L⟩),(k+4,⟨8,aB,[[o.task,g,o.weight,c,aD (aE aI o.mask),aB,aD (aE aI (L.sp g c).floor),aD (aE aT 0)]]⟩)] [(k+5,⟨8,aB,wG (pB L) p [o.task,g,o.weight,c,aD (aE aI o.mask),aB,aD (aE aI (L.sp g c).floor),aD (aE aT 0)]⟩)]] ?_;rw[eMH];exact Mv.trans (vG (k+1) oO) (nC wgD)
  have kp:=NS (λ i=>if i=tk then 1 else if k<=i then i-k+2 else 0);refine fW ?_;refine mS [.far (.tup []) (k+7) [(k,⟨8,aB,[gS o]⟩)] (cM (k+6) 1 (gR E) (MH m (k+5) Nx)) (cM (k+6) 1 (gR E) (MH m (k+5) (pA Nx c E)))] ?_;refine zq5 (zs ?_) (zs ?_) (zs ?_) (zs ?_) (zs ?_);.exact JD (by rw[xC];trivial)
  .exact FB JL
  .intro q;simp only[gS,hc,hgr,bA,aZ]
  .exact FA (by simp only[AM.look];rw[iN oO]) (mQ (λ q hq=>by simp only[AM.look];rw[iN oO]) (by rw[hWs,hNs]))
  refine fW ?_;have uU:=GX hc hgr hmb hneg hrow;refine kX ?_;refine⟨?_,?_⟩;.rw[eRV];rfl
  rw[eRH];simp only[MH,LH];exact mX iV
 rw[iN hpl]at er;rw[er]at hidx;have hpe:p=L.tl.length:=oO;refine sJ [.gen (aD (aE aH (-1))) (k+4) [(tk,⟨8,aB,pB L⟩),(k+2,⟨8,aB,[[o.task,g,o.weight,c,aD (aE aI o.mask),aB,aD (aE aI (L.sp g c).floor),aD (aE aT 0)]]⟩)] [(tk,⟨8,aB,pB L⟩),(k+2,⟨8,aB,[[o.task,g,o.weight,c,aD (aE aI o.mask),aB,aD (aE aI (L.sp g c).floor),aD (aE aT 0)]]⟩)]] ?_;refine fC λ ht=>?_;rw[(oO:((L.tl.length:Nat):Int)=(p:Int))];refine lO [0,1,3,4,5,6,7,8,9,11,15,21,26,40,60,66,117] (k+7) [(7,dI (k+6) (gR E))] ((k,⟨8,aB,[gS o]⟩)::cM (k+6) 1 (gR E) (MH m (k+5) Nx)) ?_ ?_;.have kp:=NS (λ i=>if i=tk then 1 else if k<=i then i-k+2 else 0);refine GJ [.gen (.sl (k+5) 0 (L.tl.length+1)) (k+6) [(tk,⟨8,aB,pB L⟩),(k+4,⟨8,aB,[[o.task,g,o.weight,c,aD (aE aI o.mask),aB,aD (aE aI (L.sp g c).floor),aD (aE aT 0)]]⟩)] [(k+5,⟨8,aB,wG (pB L) p [o.task,g,o.weight,c,aD (aE aI o.mask),aB,aD (aE aI (L.sp g c).floor),aD (aE aT 0)]⟩)]] ?_;rw[eMH];exact Mv.trans (vG (k+1) oO) (nC wgD)
 have kp:=NS (λ i=>if i=tk then 1 else if k<=i then i-k+2 else 0);refine fW ?_;refine mS [.far (.tup []) (k+7) [(k,⟨8,aB,[gS o]⟩)] (cM (k+6) 1 (gR E) (MH m (k+5) Nx)) (cM (k+6) 1 (gR E) (MH m (k+5) (pA Nx c E)))] ?_;refine zq5 (zs ?_) (zs ?_) (zs ?_) (zs ?_) (zs ?_);.exact JD (by rw[xC];trivial)
 .exact FB JL
 .intro q;simp only[gS,hc,hgr,bA,aZ]
 .exact FA (by simp only[AM.look];rw[iN oO]) (mQ (λ q hq=>by simp only[AM.look];rw[iN oO]) (by rw[hWs,hNs]))
 refine fW ?_;have uU:=GX hc hgr hmb hneg hrow;refine kX ?_;refine⟨?_,?_⟩;.rw[eRV];rfl
 rw[eRH];simp only[MH,LH];exact mX iV
def bFD(L:LSt)(n:Nat)(hS:Rt0 L n)(o:Opn)(hl:L.tl.length<1000)(hmk:0<=o.mask/\o.mask<18446744073709551616)(m tk k:Nat)(hm:m+6+L.sl.length<=tk)(hk:tk<k):OpOk Γ 88 L n o m tk k:=by
 have hnt:=hS.nt;have hcp:=hS.cpus;have hnu:=hS.nu;have hn1:=hS.n1;have hn64:=hS.n64;have hns:=hS.ns;have hng:=hS.ng;have hcpu:=cpu L o.cpu m tk (k+1) hm oO (Γ:=Γ);have htask:=LQ o.task (Γ:=Γ);have hwgh:=xU o.weight (Γ:=Γ);have hwide:=aLE o.mask n hn1 hn64 hmk.1 hmk.2 (Γ:=Γ);rw[<-hcp]at hwide;by_cases h1:0<=o.cpu/\o.cpu<L.cpus;rotate_left
 .rw[decide_eq_false h1]at hcpu;refine⟨L,0,300,tk,k,hS,⟨fZ L,dP rfl⟩,hm,⟨hk,dE rfl⟩,aJ _,?_⟩;obtain⟨RH,eRH⟩:=xE (MH m tk L:aS);obtain⟨RV,eRV⟩:=xE (kM (0) 300:AVal);refine uG (k:=k) eRV eRH rfl (fX oO oO) (bR TS rfl 139 rfl bB ?_);simp only[MH,LH];have kp:=vB k;refine fW ?_;refine mS [.far (aD (bC aF)) (k+1) [(k,⟨8,aB,[gS o]⟩)] (MH m tk L) (MH m tk L)] ?_;refine kS (zs ?_) (zs ?_) (zs ?_);.intro q;simp only[MH,LH,fS,gS,bA,aZ]
  .exact hY rfl
  simp only[MH,LH];refine fM ?_;refine fC λ ht=>?_;refine kX ?_;refine⟨?_,?_⟩;.rw[eRV];rfl
  rw[eRH];simp only[MH,LH];exact mX iV
 rw[decide_eq_true h1]at hcpu;obtain⟨c,hc⟩:∃c:Nat,o.cpu=(c:Int):=⟨o.cpu.toNat,oO⟩;rw[hc]at hcpu;have hcn:c<n:=oO;by_cases h2:1<=o.task/\o.task<=65535;rotate_left
 .rw[decide_eq_false h2]at htask;refine⟨L,0,301,tk,k,hS,⟨fZ L,dP rfl⟩,hm,⟨hk,dE rfl⟩,aJ _,?_⟩;obtain⟨RH,eRH⟩:=xE (MH m tk L:aS);obtain⟨RV,eRV⟩:=xE (kM (0) 301:AVal);refine uG (k:=k) eRV eRH rfl (fX oO oO) (bR TS rfl 139 rfl bB ?_);simp only[MH,LH];have kp:=vB k;have uU:=hc;refine fW ?_;refine mS [.far (aD (bC aB)) (k+1) [(k,⟨8,aB,[gS o]⟩)] (MH m tk L) (MH m tk L)] ?_;refine kS (zs ?_) (zs ?_) (zs ?_);.intro q;simp only[MH,LH,fS,gS,hc,bA,aZ]
  .exact hY rfl
  simp only[MH,LH];refine fM ?_;refine fC λ ht=>?_;refine sJ [.ret aF] ?_;refine fC λ ht=>?_;have uU:=hc;refine kX ?_;refine⟨?_,?_⟩;.rw[eRV];rfl
  rw[eRH];simp only[MH,LH];exact mX iV
 rw[decide_eq_true h2]at htask;by_cases h3:0<=o.group/\o.group<L.sl.length;rotate_left
 .refine⟨L,0,302,tk,k,hS,⟨fZ L,dP rfl⟩,hm,⟨hk,dE rfl⟩,aJ _,?_⟩;obtain⟨RH,eRH⟩:=xE (MH m tk L:aS);obtain⟨RV,eRV⟩:=xE (kM (0) 302:AVal);refine uG (k:=k) eRV eRH rfl (fX oO oO) (bR TS rfl 139 rfl bB ?_);simp only[MH,LH];have kp:=vB k;have uU:=hc;refine fW ?_;refine mS [.far (aD (bC aB)) (k+1) [(k,⟨8,aB,[gS o]⟩)] (MH m tk L) (MH m tk L)] ?_;refine kS (zs ?_) (zs ?_) (zs ?_);.intro q;simp only[MH,LH,fS,gS,hc,bA,aZ]
  .exact hY rfl
  simp only[MH,LH];refine fM ?_;refine fC λ ht=>?_;refine sJ [.ret aB] ?_;refine uV ?_;refine WS (qS λ ht ht hg=>?_) (qS λ ht ht hg=>?_);all_goals(first|(exfalso;omega)|skip)
  iterate 2
   · have uU:=hc;refine kX ?_
     refine⟨?_,?_⟩
     · rw[eRV];rfl
     · rw[eRH]
       simp only[MH,LH]
       exact mX iV
 obtain⟨g,hgr⟩:∃g:Nat,o.group=(g:Int):=⟨o.group.toNat,oO⟩;have hg1:g<L.sl.length:=oO;have hrow:=hS.rows g hg1;have hO:gS o=[aD (aE bM o.kind),aD (aE aH (c:Int)),aD (aE aH o.task),aD (aE aH (g:Int)),aD (aE aH o.weight),aD (aE aH o.to),aD (aE aH o.ticks),aD (aE aI o.mask)]:=by rw[<-hc,<-hgr];rfl
 by_cases h4:1<=o.weight/\o.weight<=65536;rotate_left
 .rw[decide_eq_false h4]at hwgh;refine⟨L,0,2,tk,k,hS,⟨fZ L,dP rfl⟩,hm,⟨hk,dE rfl⟩,aJ _,?_⟩;obtain⟨RH,eRH⟩:=xE (MH m tk L:aS);obtain⟨RV,eRV⟩:=xE (kM (0) 2:AVal);refine uG (k:=k) eRV eRH rfl (fX oO oO) (bR TS rfl 139 rfl bB ?_);simp only[MH,LH];have kp:=vB k;have uU:=zA hc hgr;refine fW ?_;refine mS [.far (aD (bC aB)) (k+1) [(k,⟨8,aB,[gS o]⟩)] (MH m tk L) (MH m tk L)] ?_;refine kS (zs ?_) (zs ?_) (zs ?_);.intro q;simp only[MH,LH,fS,gS,hc,hgr,bA,aZ]
  .exact hY rfl
  simp only[MH,LH];refine fM ?_;refine fC λ ht=>?_;refine sJ [.ret aB] ?_;refine uV ?_;refine kB (qS λ ht ht hg=>GJ [.ret aF,.ret aB] ?_);refine fC λ ht=>?_;have uU:=zA hc hgr;refine kX ?_;refine⟨?_,?_⟩;.rw[eRV];rfl
  rw[eRH];simp only[MH,LH];exact mX iV
 rw[decide_eq_true h4]at hwgh;by_cases h5:o.mask=0
 .refine⟨L,0,2,tk,k,hS,⟨fZ L,dP rfl⟩,hm,⟨hk,dE rfl⟩,aJ _,?_⟩;obtain⟨RH,eRH⟩:=xE (MH m tk L:aS);obtain⟨RV,eRV⟩:=xE (kM (0) 2:AVal);refine uG (k:=k) eRV eRH rfl (fX oO oO) (bR TS rfl 139 rfl bB ?_);simp only[MH,LH];have kp:=vB k;have uU:=uT hc hgr h5;refine fW ?_;refine mS [.far (aD (bC aB)) (k+1) [(k,⟨8,aB,[gS o]⟩)] (MH m tk L) (MH m tk L)] ?_;refine kS (zs ?_) (zs ?_) (zs ?_);.intro q;simp only[MH,LH,fS,gS,hc,hgr,bA,aZ]
  .exact hY rfl
  simp only[MH,LH];refine fM ?_;refine fC λ ht=>?_;refine sJ [.ret aB] ?_;refine uV ?_;refine kB (qS λ ht ht hg=>GJ [.ret aB,.ret aB] ?_);refine fC λ ht=>?_;have uU:=uT hc hgr h5;refine kX ?_;refine⟨?_,?_⟩;.rw[eRV];rfl
  rw[eRH];simp only[MH,LH];exact mX iV
 by_cases h6:o.mask/2^n=0;rotate_left
 .rw[decide_eq_true h6]at hwide;refine⟨L,0,2,tk,k,hS,⟨fZ L,dP rfl⟩,hm,⟨hk,dE rfl⟩,aJ _,?_⟩;obtain⟨RH,eRH⟩:=xE (MH m tk L:aS);obtain⟨RV,eRV⟩:=xE (kM (0) 2:AVal);refine uG (k:=k) eRV eRH rfl (fX oO oO) (bR TS rfl 139 rfl bB ?_);simp only[MH,LH];have kp:=vB k;have uU:=zA hc hgr;refine fW ?_;refine mS [.far (aD (bC aB)) (k+1) [(k,⟨8,aB,[gS o]⟩)] (MH m tk L) (MH m tk L)] ?_;refine kS (zs ?_) (zs ?_) (zs ?_);.intro q;simp only[MH,LH,fS,gS,hc,hgr,bA,aZ]
  .exact hY rfl
  simp only[MH,LH];refine fM ?_;refine fC λ ht=>?_;refine sJ [.ret aB] ?_;refine uV ?_;refine kB (qS λ ht ht hg=>RD [.ret aB,.ret aB] ?_);refine kB (gZ λ hg=>?_);all_goals(try(exact absurd trivial ‹¬True›))
  refine fC λ ht=>?_;have uU:=zA hc hgr;refine kX ?_;refine⟨?_,?_⟩;.rw[eRV];rfl
  rw[eRH];simp only[MH,LH];exact mX iV
 rw[decide_eq_false (λ h=>h h6)]at hwide;rcases AS hS o.task with hr|⟨i,hi,hid,hr⟩;rotate_left
 .have hfc:=find L o.task i hr hS.sorted oO m tk (k+1) hm oO (Γ:=Γ);refine⟨L,0,303,tk,k,hS,⟨fZ L,dP rfl⟩,hm,⟨hk,dE rfl⟩,aJ _,?_⟩;obtain⟨RH,eRH⟩:=xE (MH m tk L:aS);obtain⟨RV,eRV⟩:=xE (kM (0) 303:AVal);refine uG (k:=k) eRV eRH rfl (fX oO oO) (bR TS rfl 139 rfl bB ?_);simp only[MH,LH];have kp:=vB k;have uU:=zA hc hgr;refine fW ?_;refine mS [.far (aD (bC aB)) (k+1) [(k,⟨8,aB,[gS o]⟩)] (MH m tk L) (MH m tk L)] ?_;refine kS (zs ?_) (zs ?_) (zs ?_);.intro q;simp only[MH,LH,fS,gS,hc,hgr,bA,aZ]
  .exact hY rfl
  simp only[MH,LH];refine fM ?_;refine fC λ ht=>?_;refine sJ [.ret aB] ?_;refine uV ?_;refine kB (qS λ ht ht hg=>RD [.ret aB,.ret aF] ?_);refine kB (gZ λ hg=>?_);all_goals(try(exact absurd trivial ‹¬True›))
  refine fC λ ht=>?_;refine mS [.far (aD (aE aH (i:Int))) (k+1) [(k,⟨8,aB,[gS o]⟩)] (MH m tk L) (MH m tk L)] ?_;refine kS (zs ?_) (zs ?_) (zs ?_);.intro q;simp only[MH,LH,fS,gS,hc,hgr,bA,aZ]
  .exact hY rfl
  simp only[MH,LH];refine fM ?_;refine fC λ ht=>?_;have uU:=zA hc hgr;refine kX ?_;refine⟨?_,?_⟩;.rw[eRV];rfl
  rw[eRH];simp only[MH,LH];exact mX iV
 have hfc:=find L o.task (-1) hr hS.sorted oO m tk (k+1) hm oO (Γ:=Γ);have hmb:aI.wrap ((BitVec.ofInt aI.bits (o.mask.fdiv (2^min c 64))&&&BitVec.ofInt aI.bits 1).toNat:Int)=o.mask/2^c%2:=by have:=rA (x:=o.mask) (c:=(c:Int)) hmk.1 hmk.2 oO oO;rwa [bW]at this
 have hneg:((c:Int)<0)=False:=eq_false oO;have hmod:=Int.emod_two_eq (o.mask/2^c);by_cases h7:o.mask/2^c%2=0
 .refine⟨L,0,305,tk,k,hS,⟨fZ L,dP rfl⟩,hm,⟨hk,dE rfl⟩,aJ _,?_⟩;obtain⟨RH,eRH⟩:=xE (MH m tk L:aS);obtain⟨RV,eRV⟩:=xE (kM (0) 305:AVal);refine uG (k:=k) eRV eRH rfl (fX oO oO) (bR TS rfl 139 rfl bB ?_);simp only[MH,LH];have kp:=vB k;have uU:=zA hc hgr;refine fW ?_;refine mS [.far (aD (bC aB)) (k+1) [(k,⟨8,aB,[gS o]⟩)] (MH m tk L) (MH m tk L)] ?_;refine kS (zs ?_) (zs ?_) (zs ?_);.intro q;simp only[MH,LH,fS,gS,hc,hgr,bA,aZ]
  .exact hY rfl
  simp only[MH,LH];refine fM ?_;refine fC λ ht=>?_;refine sJ [.ret aB] ?_;refine uV ?_;refine kB (qS λ ht ht hg=>RD [.ret aB,.ret aF] ?_);refine kB (gZ λ hg=>?_);all_goals(try(exact absurd trivial ‹¬True›))
  refine fC λ ht=>?_;refine mS [.far (aD (aE aH (-1))) (k+1) [(k,⟨8,aB,[gS o]⟩)] (MH m tk L) (MH m tk L)] ?_;refine kS (zs ?_) (zs ?_) (zs ?_);.intro q;simp only[MH,LH,fS,gS,hc,hgr,bA,aZ]
  .exact hY rfl
  simp only[MH,LH];refine fM ?_;have uU:=pJ hc hgr hmb hneg;refine uV ?_;refine kB (gB λ ht ht=>?_);have uU:=pJ hc hgr hmb hneg;refine kX ?_;refine⟨?_,?_⟩;.rw[eRV];rfl
  rw[eRH];simp only[MH,LH];exact mX iV
 exact a9X L n hS o hl hmk m tk k hm hk c g hc hgr hcn hg1 h2 h4 h5 h6 hr oO
def bJK(L:LSt)(c i:Nat):Prop:=i<L.tl.length/\(L.tsk i).ready=aB/\(L.tsk i).mask/2^c%2=1/\L.cur (L.tsk i).cpu.toNat≠(L.tsk i).id
def aRD(h:Rt0 L n)(hi:i<L.tl.length)(hc:L.cur (L.tsk i).cpu.toNat≠(L.tsk i).id):∀c,c<n->L.cur c≠(L.tsk i).id:=λ c hcn e=>by
 have hT:=h.tk i hi;rcases h.cur c hcn with h0|⟨j,h2,h3,h4,h5⟩;.have:=hT.id1;omega
 have hji:j=i:=by
  rcases kR j i with hl|hl|hl;.have:=h.sorted j i hl hi;omega
  .exact hl
  have:=h.sorted i j hl h2;omega
 subst hji;rw[h4,bW]at hc;exact hc e
def fmN(L:LSt)(c:Nat):Nat->Int×Int
 |0=>(-1, -1)
 |j+1=>if(j:Int)≠c/\(fmN L c j).2<JR L (j:Int) L.tl.length then((j:Int),JR L (j:Int) L.tl.length)else fmN L c j
def yU(L:LSt)(c:Nat)(fr:Int)(i:Nat):Prop:=(L.tsk i).ready=aB/\(L.tsk i).cpu=fr/\(L.tsk i).mask/2^c%2=1/\L.cur (L.tsk i).cpu.toNat≠(L.tsk i).id
def JB(L:LSt)(mo W:Int)(i:Nat)(b:Int):Prop:=2*(L.tsk i).weight<=aH.wrap (mo-W)/\(b<0\/(L.tsk b.toNat).weight<(L.tsk i).weight)
instance (L:LSt)(c:Nat)(fr:Int)(i:Nat):Decidable (yU L c fr i):=by unfold yU;infer_instance
instance (L:LSt)(mo W:Int)(i:Nat)(b:Int):Decidable (JB L mo W i b):=by unfold JB;infer_instance
def bsN(L:LSt)(c:Nat)(fr mo W:Int):Nat->Int
 |0=> -1
 |i+1=>if yU L c fr i/\JB L mo W i (bsN L c fr mo W i)then(i:Int)else bsN L c fr mo W i
def Bst(L:LSt)(c:Nat)(b:Int):Prop:=b= -1\/∃j:Nat,b=(j:Int)/\bJK L c j
def aIX{L:LSt}{c:Nat}{fr mo W:Int}:∀ {i:Nat},i<=L.tl.length->Bst L c (bsN L c fr mo W i)
 |0,_=> .inl rfl
 |i+1,hi=>by
  rw[bsN];split;.rename_i h;exact dP ⟨i,rfl,oO,h.1.1,h.1.2.2.1,h.1.2.2.2⟩
  exact aIX oO
def vA(k:Nat):Kp [0,1,3,4,5,6,7,8,9,10,11,12,13,14,19,25,26,27,40,48,49,50,51,116,120] (λ i=>if k<=i then i-k+1 else 0):=oR
def bLG(L:LSt)(n:Nat)(hS:Rt0 L n)(o:Opn)(m tk k:Nat)(hm:m+6+L.sl.length<=tk)(hk:tk<k)(c:Nat)(hc:o.cpu=(c:Int))(hcn:c<n)(i:Nat)(hi2:i<L.tl.length)(p:Int×Int)(W b:Int)(hwp:AM.Pure aG Γ 173 [.rp (mcL L),c] W)(hno:¬yU L c p.1 i)(N:Nat->Fr->aS->Prop)(Q:AQ)(hN:∀k1 fr1 H1,Mv k k1 fr1 H1 (k+1) (EN [0,1,3,4,5,6,7,8,9,10,11,12,13,14,19,25,26,27,40,48,49,50,51,116,120] [(50,(i+1:Nat)),(10,(b))] [(0,.ptr m 0 0),(3,.ptr k 0 0),(6,p.1),(7,p.2),(48,.sl tk 0 L.tl.length),(49,L.tl.length)]) ((k,⟨8,aB,[gS o]⟩)::MH m tk L)->N k1 fr1 H1):
 AM.W aG Γ 136 k (gV (gD Tryz.f96) [0,0,1,0,1,1,1,1,1]) (mW N Q) (k+1) (EN [0,1,3,4,5,6,7,8,9,10,11,12,13,14,19,25,26,27,40,48,49,50,51,116,120] [(50,i),(10,b)] [(0,.ptr m 0 0),(3,.ptr k 0 0),(6,p.1),(7,p.2),(48,.sl tk 0 L.tl.length),(49,L.tl.length)]) ((k,⟨8,aB,[gS o]⟩)::MH m tk L):=by
 have hnt:=hS.nt;have hcp:=hS.cpus;have hnu:=hS.nu;have hn1:=hS.n1;have hn64:=hS.n64;have hns:=hS.ns;have hneg:((c:Int)<0)=False:=eq_false oO;have hO:gS o=[aD (aE bM o.kind),aD (aE aH (c:Int)),aD (aE aH o.task),aD (aE aH o.group),aD (aE aH o.weight),aD (aE aH o.to),aD (aE aH o.ticks),aD (aE aI o.mask)]:=by rw[<-hc];rfl
 obtain⟨NM,eNM⟩:=xE ((MH m tk L).map (·.1));have hNM:nub (NM.map (λ i=>if k<=i then i-k+1 else 0))=[0]:=by rw[eNM];exact tZ hm hk (λ i hi=>iN oO)
 have hT:=hS.tk i hi2;have hTe:=hT.e;simp only[qI,dTt]at hTe;obtain⟨d,hd⟩:∃d:Nat,(L.tsk i).cpu=(d:Int):=⟨(L.tsk i).cpu.toNat,by have:=hT.c0;omega⟩;have hdn:d<n:=by have:=hT.c1;omega
 have hmb:aI.wrap ((BitVec.ofInt aI.bits ((L.tsk i).mask.fdiv (2^min c 64))&&&BitVec.ofInt aI.bits 1).toNat:Int)=(L.tsk i).mask/2^c%2:=by have:=rA (x:=(L.tsk i).mask) (c:=(c:Int)) hT.m0 hT.m1 oO oO;rwa [bW]at this
 have hmay:yU L c p.1 i↔(L.tsk i).ready=aB/\(d:Int)=p.1/\(L.tsk i).mask/2^c%2=1/\L.cur d≠(L.tsk i).id:=by unfold yU;rw[hd,bW]
 have hw2:aH.wrap (2*(L.tsk i).weight)=2*(L.tsk i).weight:=wrap_i64 oO oO;obtain⟨V,eV⟩:=xE (aH.wrap (p.2-W));have eV2:=eV.symm;have hcan:JB L p.2 W i b↔2*(L.tsk i).weight<=V/\(b<0\/(L.tsk b.toNat).weight<(L.tsk i).weight):=by unfold JB;rw[<-eV]
 rw[hO]at hN⊢
 simp only[MH,LH];try(simp-dsimp-implicitDefEqProofs (disch:=omega)only[go_sem,iO,↓reduceIte])
 rw[hmay]at hno;by_cases r1:(L.tsk i).ready=aB;rotate_left
 .have r1':(L.tsk i).ready=aF:=by simpa using r1
  have kp:=vA k;have uU:=yI hd hmb hneg hNM hw2 eV2 r1';refine fC λ ht=>?_;refine GJ [.raw (aA 95) ⟨aD (aE aH W),k+2,[],NM⟩] ?_;all_goals(first|exact TD (loc:=[(k+1,⟨8,aB,_⟩),(k,⟨8,aB,_⟩)]) hm rfl kRf rfl rfl rfl (λ x hx=>by simp only[fO,pM,or_false]at hx;rcases hx with hx|hx<;>rw[hx]<;>simp only[]<;>omega) hwp eNM|skip)
  all_goals((refine fC λ ht=>?_))
  all_goals(refine hN _ _ _ ?_)
  all_goals(try(simp only[MH,LH]))
  all_goals(try(simp-dsimp-implicitDefEqProofs (disch:=omega)only[go_sem,iO,hd,hmb,hneg,hNM,hw2,eV2,r1',↓reduceIte]))
  all_goals(exact iC)
 by_cases r2:(d:Int)=p.1;rotate_left
 .have r2b:((d:Int)==p.1)=aF:=by rw[beq_eq_false_iff_ne];exact r2
  have kp:=vA k;have uU:=xG hd hmb hneg hNM hw2 eV2 r1 r2b;refine fC λ ht=>?_;refine GJ [.raw (aA 95) ⟨aD (aE aH W),k+2,[],NM⟩] ?_;all_goals(first|exact TD (loc:=[(k+1,⟨8,aB,_⟩),(k,⟨8,aB,_⟩)]) hm rfl kRf rfl rfl rfl (λ x hx=>by simp only[fO,pM,or_false]at hx;rcases hx with hx|hx<;>rw[hx]<;>simp only[]<;>omega) hwp eNM|skip)
  all_goals((refine fC λ ht=>?_))
  all_goals(refine hN _ _ _ ?_)
  all_goals(try(simp only[MH,LH]))
  all_goals(try(simp-dsimp-implicitDefEqProofs (disch:=omega)only[go_sem,iO,hd,hmb,hneg,hNM,hw2,eV2,r1,r2b,↓reduceIte]))
  all_goals(exact iC)
 by_cases r3:(L.tsk i).mask/2^c%2=1;rotate_left
 .have r2b:((d:Int)==p.1)=aB:=by rw[beq_iff_eq];exact r2
  have r3b:((L.tsk i).mask/2^c%2==1)=aF:=by rw[beq_eq_false_iff_ne];exact r3
  have kp:=vA k;have uU:=fB hd hmb hneg hNM hw2 eV2 r1 r2b r3b;refine fC λ ht=>?_;refine GJ [.raw (aA 95) ⟨aD (aE aH W),k+2,[],NM⟩] ?_;all_goals(first|exact TD (loc:=[(k+1,⟨8,aB,_⟩),(k,⟨8,aB,_⟩)]) hm rfl kRf rfl rfl rfl (λ x hx=>by simp only[fO,pM,or_false]at hx;rcases hx with hx|hx<;>rw[hx]<;>simp only[]<;>omega) hwp eNM|skip)
  all_goals((refine fC λ ht=>?_))
  all_goals(refine hN _ _ _ ?_)
  all_goals(try(simp only[MH,LH]))
  all_goals(try(simp-dsimp-implicitDefEqProofs (disch:=omega)only[go_sem,iO,hd,hmb,hneg,hNM,hw2,eV2,r1,r2b,r3b,↓reduceIte]))
  all_goals(exact iC)
 have r4:L.cur d=(L.tsk i).id:=Decidable.byContradiction λ h=>hno ⟨r1,r2,r3,h⟩;have r2b:((d:Int)==p.1)=aB:=by rw[beq_iff_eq];exact r2
 have r4b:(L.cur d !=(L.tsk i).id)=aF:=by rw[r4];simp
 have kp:=vA k;have uU:=fB hd hmb hneg hNM hw2 eV2 r1 r2b (zA r3 r4b);refine fC λ ht=>?_;refine GJ [.raw (aA 95) ⟨aD (aE aH W),k+2,[],NM⟩] ?_;all_goals(first|exact TD (loc:=[(k+1,⟨8,aB,_⟩),(k,⟨8,aB,_⟩)]) hm rfl kRf rfl rfl rfl (λ x hx=>by simp only[fO,pM,or_false]at hx;rcases hx with hx|hx<;>rw[hx]<;>simp only[]<;>omega) hwp eNM|skip)
 all_goals((refine fC λ ht=>?_))
 all_goals(refine hN _ _ _ ?_)
 all_goals(try(simp only[MH,LH]))
 all_goals(try(simp-dsimp-implicitDefEqProofs (disch:=omega)only[go_sem,iO,hd,hmb,hneg,hNM,hw2,eV2,r1,r2b,r3,r4b,↓reduceIte]))
 all_goals(exact iC)
def bLK(L:LSt)(n:Nat)(hS:Rt0 L n)(o:Opn)(m tk k:Nat)(hm:m+6+L.sl.length<=tk)(hk:tk<k)(c:Nat)(hc:o.cpu=(c:Int))(hcn:c<n)(i:Nat)(hi2:i<L.tl.length)(p:Int×Int)(W b:Int)(hwp:AM.Pure aG Γ 173 [.rp (mcL L),c] W)(hyes:yU L c p.1 i)(hca:¬(2*(L.tsk i).weight<=aH.wrap (p.2-W)))(N:Nat->Fr->aS->Prop)(Q:AQ)(hN:∀k1 fr1 H1,Mv k k1 fr1 H1 (k+1) (EN [0,1,3,4,5,6,7,8,9,10,11,12,13,14,19,25,26,27,40,48,49,50,51,116,120] [(50,(i+1:Nat)),(10,(b))] [(0,.ptr m 0 0),(3,.ptr k 0 0),(6,p.1),(7,p.2),(48,.sl tk 0 L.tl.length),(49,L.tl.length)]) ((k,⟨8,aB,[gS o]⟩)::MH m tk L)->N k1 fr1 H1):
 AM.W aG Γ 136 k (gV (gD Tryz.f96) [0,0,1,0,1,1,1,1,1]) (mW N Q) (k+1) (EN [0,1,3,4,5,6,7,8,9,10,11,12,13,14,19,25,26,27,40,48,49,50,51,116,120] [(50,i),(10,b)] [(0,.ptr m 0 0),(3,.ptr k 0 0),(6,p.1),(7,p.2),(48,.sl tk 0 L.tl.length),(49,L.tl.length)]) ((k,⟨8,aB,[gS o]⟩)::MH m tk L):=by
 have hnt:=hS.nt;have hcp:=hS.cpus;have hnu:=hS.nu;have hn1:=hS.n1;have hn64:=hS.n64;have hns:=hS.ns;have hneg:((c:Int)<0)=False:=eq_false oO;have hO:gS o=[aD (aE bM o.kind),aD (aE aH (c:Int)),aD (aE aH o.task),aD (aE aH o.group),aD (aE aH o.weight),aD (aE aH o.to),aD (aE aH o.ticks),aD (aE aI o.mask)]:=by rw[<-hc];rfl
 obtain⟨NM,eNM⟩:=xE ((MH m tk L).map (·.1));have hNM:nub (NM.map (λ i=>if k<=i then i-k+1 else 0))=[0]:=by rw[eNM];exact tZ hm hk (λ i hi=>iN oO)
 have hT:=hS.tk i hi2;have hTe:=hT.e;simp only[qI,dTt]at hTe;obtain⟨d,hd⟩:∃d:Nat,(L.tsk i).cpu=(d:Int):=⟨(L.tsk i).cpu.toNat,by have:=hT.c0;omega⟩;have hdn:d<n:=by have:=hT.c1;omega
 have hmb:aI.wrap ((BitVec.ofInt aI.bits ((L.tsk i).mask.fdiv (2^min c 64))&&&BitVec.ofInt aI.bits 1).toNat:Int)=(L.tsk i).mask/2^c%2:=by have:=rA (x:=(L.tsk i).mask) (c:=(c:Int)) hT.m0 hT.m1 oO oO;rwa [bW]at this
 have hmay:yU L c p.1 i↔(L.tsk i).ready=aB/\(d:Int)=p.1/\(L.tsk i).mask/2^c%2=1/\L.cur d≠(L.tsk i).id:=by unfold yU;rw[hd,bW]
 have hw2:aH.wrap (2*(L.tsk i).weight)=2*(L.tsk i).weight:=wrap_i64 oO oO;obtain⟨V,eV⟩:=xE (aH.wrap (p.2-W));have eV2:=eV.symm;have hcan:JB L p.2 W i b↔2*(L.tsk i).weight<=V/\(b<0\/(L.tsk b.toNat).weight<(L.tsk i).weight):=by unfold JB;rw[<-eV]
 rw[hO]at hN⊢
 simp only[MH,LH];try(simp-dsimp-implicitDefEqProofs (disch:=omega)only[go_sem,iO,↓reduceIte])
 obtain⟨r1,r2,r3,r4⟩:=hmay.1 hyes;rw[<-eV]at hca;have q1:(2*(L.tsk i).weight<=V)=False:=eq_false hca;have r2b:((d:Int)==p.1)=aB:=by rw[beq_iff_eq];exact r2
 have r4b:(L.cur d !=(L.tsk i).id)=aB:=by simp[r4]
 have kp:Kp [0,1,3,4,5,6,7,8,9,10,11,12,13,14,19,25,26,27,40,48,49,50,51,116,120] (λ i=>if k<=i then i-k+1 else 0):=oR;have uU:=fB hd hmb hneg hNM hw2 eV2 r1 r2b (uT r3 r4b q1);refine fC λ ht=>?_;refine RD [.raw (aA 95) ⟨aD (aE aH W),k+2,[],NM⟩] ?_;refine iA ?_ ?_;all_goals(first|exact TD (loc:=[(k+1,⟨8,aB,_⟩),(k,⟨8,aB,_⟩)]) hm rfl kRf rfl rfl rfl (λ x hx=>by simp only[fO,pM,or_false]at hx;rcases hx with hx|hx<;>rw[hx]<;>simp only[]<;>omega) hwp eNM|skip)
 all_goals((refine fC λ ht=>?_))
 all_goals(refine hN _ _ _ ?_)
 all_goals(try(simp only[MH,LH]))
 all_goals(try(simp-dsimp-implicitDefEqProofs (disch:=omega)only[go_sem,iO,hd,hmb,hneg,hNM,hw2,eV2,r1,r2b,r3,r4b,q1,↓reduceIte]))
 all_goals(exact iC)
def bLJ(L:LSt)(n:Nat)(hS:Rt0 L n)(o:Opn)(m tk k:Nat)(hm:m+6+L.sl.length<=tk)(hk:tk<k)(c:Nat)(hc:o.cpu=(c:Int))(hcn:c<n)(i:Nat)(hi2:i<L.tl.length)(p:Int×Int)(W b:Int)(hwp:AM.Pure aG Γ 173 [.rp (mcL L),c] W)(hyes:yU L c p.1 i)(hca:2*(L.tsk i).weight<=aH.wrap (p.2-W))(hb:b= -1)(N:Nat->Fr->aS->Prop)(Q:AQ)(hN:∀k1 fr1 H1,Mv k k1 fr1 H1 (k+1) (EN [0,1,3,4,5,6,7,8,9,10,11,12,13,14,19,25,26,27,40,48,49,50,51,116,120] [(50,(i+1:Nat)),(10,((i:Int)))] [(0,.ptr m 0 0),(3,.ptr k 0 0),(6,p.1),(7,p.2),(48,.sl tk 0 L.tl.length),(49,L.tl.length)]) ((k,⟨8,aB,[gS o]⟩)::MH m tk L)->N k1 fr1 H1):
 AM.W aG Γ 136 k (gV (gD Tryz.f96) [0,0,1,0,1,1,1,1,1]) (mW N Q) (k+1) (EN [0,1,3,4,5,6,7,8,9,10,11,12,13,14,19,25,26,27,40,48,49,50,51,116,120] [(50,i),(10,b)] [(0,.ptr m 0 0),(3,.ptr k 0 0),(6,p.1),(7,p.2),(48,.sl tk 0 L.tl.length),(49,L.tl.length)]) ((k,⟨8,aB,[gS o]⟩)::MH m tk L):=by
 have hnt:=hS.nt;have hcp:=hS.cpus;have hnu:=hS.nu;have hn1:=hS.n1;have hn64:=hS.n64;have hns:=hS.ns;have hneg:((c:Int)<0)=False:=eq_false oO;have hO:gS o=[aD (aE bM o.kind),aD (aE aH (c:Int)),aD (aE aH o.task),aD (aE aH o.group),aD (aE aH o.weight),aD (aE aH o.to),aD (aE aH o.ticks),aD (aE aI o.mask)]:=by rw[<-hc];rfl
 obtain⟨NM,eNM⟩:=xE ((MH m tk L).map (·.1));have hNM:nub (NM.map (λ i=>if k<=i then i-k+1 else 0))=[0]:=by rw[eNM];exact tZ hm hk (λ i hi=>iN oO)
 have hT:=hS.tk i hi2;have hTe:=hT.e;simp only[qI,dTt]at hTe;obtain⟨d,hd⟩:∃d:Nat,(L.tsk i).cpu=(d:Int):=⟨(L.tsk i).cpu.toNat,by have:=hT.c0;omega⟩;have hdn:d<n:=by have:=hT.c1;omega
 have hmb:aI.wrap ((BitVec.ofInt aI.bits ((L.tsk i).mask.fdiv (2^min c 64))&&&BitVec.ofInt aI.bits 1).toNat:Int)=(L.tsk i).mask/2^c%2:=by have:=rA (x:=(L.tsk i).mask) (c:=(c:Int)) hT.m0 hT.m1 oO oO;rwa [bW]at this
 have hmay:yU L c p.1 i↔(L.tsk i).ready=aB/\(d:Int)=p.1/\(L.tsk i).mask/2^c%2=1/\L.cur d≠(L.tsk i).id:=by unfold yU;rw[hd,bW]
 have hw2:aH.wrap (2*(L.tsk i).weight)=2*(L.tsk i).weight:=wrap_i64 oO oO;obtain⟨V,eV⟩:=xE (aH.wrap (p.2-W));have eV2:=eV.symm;have hcan:JB L p.2 W i b↔2*(L.tsk i).weight<=V/\(b<0\/(L.tsk b.toNat).weight<(L.tsk i).weight):=by unfold JB;rw[<-eV]
 rw[hO]at hN⊢
 simp only[MH,LH];try(simp-dsimp-implicitDefEqProofs (disch:=omega)only[go_sem,iO,↓reduceIte])
 obtain⟨r1,r2,r3,r4⟩:=hmay.1 hyes;rw[<-eV]at hca;subst hb;have q1:(2*(L.tsk i).weight<=V)=True:=eq_true hca;have q3:((-1:Int)<0)=True:=eq_true oO;have r2b:((d:Int)==p.1)=aB:=by rw[beq_iff_eq];exact r2
 have r4b:(L.cur d !=(L.tsk i).id)=aB:=by simp[r4]
 have kp:Kp [0,1,3,4,5,6,7,8,9,10,11,12,13,14,19,25,26,27,40,48,49,50,51,116,120] (λ i=>if k<=i then i-k+1 else 0):=oR;have uU:=fB hd hmb hneg hNM hw2 eV2 r1 r2b (pJ r3 r4b q1 q3);refine fC λ ht=>?_;refine RD [.raw (aA 95) ⟨aD (aE aH W),k+2,[],NM⟩] ?_;refine iA ?_ ?_;all_goals(first|exact TD (loc:=[(k+1,⟨8,aB,_⟩),(k,⟨8,aB,_⟩)]) hm rfl kRf rfl rfl rfl (λ x hx=>by simp only[fO,pM,or_false]at hx;rcases hx with hx|hx<;>rw[hx]<;>simp only[]<;>omega) hwp eNM|skip)
 all_goals((refine fC λ ht=>?_))
 all_goals(refine hN _ _ _ ?_)
 all_goals(try(simp only[MH,LH]))
 all_goals(try(simp-dsimp-implicitDefEqProofs (disch:=omega)only[go_sem,iO,hd,hmb,hneg,hNM,hw2,eV2,r1,r2b,r3,r4b,q1,q3,↓reduceIte]))
 all_goals(exact iC)
def bLI(L:LSt)(n:Nat)(hS:Rt0 L n)(o:Opn)(m tk k:Nat)(hm:m+6+L.sl.length<=tk)(hk:tk<k)(c:Nat)(hc:o.cpu=(c:Int))(hcn:c<n)(i:Nat)(hi2:i<L.tl.length)(p:Int×Int)(W b:Int)(hwp:AM.Pure aG Γ 173 [.rp (mcL L),c] W)(hyes:yU L c p.1 i)(hca:2*(L.tsk i).weight<=aH.wrap (p.2-W))(y:Nat)(hb:b=(y:Int))(hy:y<L.tl.length)(q2:(L.tsk y).weight<(L.tsk i).weight)(N:Nat->Fr->aS->Prop)(Q:AQ)(hN:∀k1 fr1 H1,Mv k k1 fr1 H1 (k+1) (EN [0,1,3,4,5,6,7,8,9,10,11,12,13,14,19,25,26,27,40,48,49,50,51,116,120] [(50,(i+1:Nat)),(10,((i:Int)))] [(0,.ptr m 0 0),(3,.ptr k 0 0),(6,p.1),(7,p.2),(48,.sl tk 0 L.tl.length),(49,L.tl.length)]) ((k,⟨8,aB,[gS o]⟩)::MH m tk L)->N k1 fr1 H1):
 AM.W aG Γ 136 k (gV (gD Tryz.f96) [0,0,1,0,1,1,1,1,1]) (mW N Q) (k+1) (EN [0,1,3,4,5,6,7,8,9,10,11,12,13,14,19,25,26,27,40,48,49,50,51,116,120] [(50,i),(10,b)] [(0,.ptr m 0 0),(3,.ptr k 0 0),(6,p.1),(7,p.2),(48,.sl tk 0 L.tl.length),(49,L.tl.length)]) ((k,⟨8,aB,[gS o]⟩)::MH m tk L):=by
 have hnt:=hS.nt;have hcp:=hS.cpus;have hnu:=hS.nu;have hn1:=hS.n1;have hn64:=hS.n64;have hns:=hS.ns;have hneg:((c:Int)<0)=False:=eq_false oO;have hO:gS o=[aD (aE bM o.kind),aD (aE aH (c:Int)),aD (aE aH o.task),aD (aE aH o.group),aD (aE aH o.weight),aD (aE aH o.to),aD (aE aH o.ticks),aD (aE aI o.mask)]:=by rw[<-hc];rfl
 obtain⟨NM,eNM⟩:=xE ((MH m tk L).map (·.1));have hNM:nub (NM.map (λ i=>if k<=i then i-k+1 else 0))=[0]:=by rw[eNM];exact tZ hm hk (λ i hi=>iN oO)
 have hT:=hS.tk i hi2;have hTe:=hT.e;simp only[qI,dTt]at hTe;obtain⟨d,hd⟩:∃d:Nat,(L.tsk i).cpu=(d:Int):=⟨(L.tsk i).cpu.toNat,by have:=hT.c0;omega⟩;have hdn:d<n:=by have:=hT.c1;omega
 have hmb:aI.wrap ((BitVec.ofInt aI.bits ((L.tsk i).mask.fdiv (2^min c 64))&&&BitVec.ofInt aI.bits 1).toNat:Int)=(L.tsk i).mask/2^c%2:=by have:=rA (x:=(L.tsk i).mask) (c:=(c:Int)) hT.m0 hT.m1 oO oO;rwa [bW]at this
 have hmay:yU L c p.1 i↔(L.tsk i).ready=aB/\(d:Int)=p.1/\(L.tsk i).mask/2^c%2=1/\L.cur d≠(L.tsk i).id:=by unfold yU;rw[hd,bW]
 have hw2:aH.wrap (2*(L.tsk i).weight)=2*(L.tsk i).weight:=wrap_i64 oO oO;obtain⟨V,eV⟩:=xE (aH.wrap (p.2-W));have eV2:=eV.symm;have hcan:JB L p.2 W i b↔2*(L.tsk i).weight<=V/\(b<0\/(L.tsk b.toNat).weight<(L.tsk i).weight):=by unfold JB;rw[<-eV]
 rw[hO]at hN⊢
 simp only[MH,LH];try(simp-dsimp-implicitDefEqProofs (disch:=omega)only[go_sem,iO,↓reduceIte])
 obtain⟨r1,r2,r3,r4⟩:=hmay.1 hyes;rw[<-eV]at hca;subst hb;have q1:(2*(L.tsk i).weight<=V)=True:=eq_true hca;have q3:((y:Int)<0)=False:=eq_false oO;have q4:((L.tsk y).weight<(L.tsk i).weight)=True:=eq_true q2;have r2b:((d:Int)==p.1)=aB:=by rw[beq_iff_eq];exact r2
 have r4b:(L.cur d !=(L.tsk i).id)=aB:=by simp[r4]
 have kp:Kp [0,1,3,4,5,6,7,8,9,10,11,12,13,14,19,25,26,27,40,48,49,50,51,116,120] (λ i=>if k<=i then i-k+1 else 0):=oR;have uU:=fB hd hmb hneg hNM hw2 eV2 r1 r2b (GX r3 r4b q1 q3 q4);refine fC λ ht=>?_;refine RD [.raw (aA 95) ⟨aD (aE aH W),k+2,[],NM⟩] ?_;refine iA ?_ ?_;all_goals(first|exact TD (loc:=[(k+1,⟨8,aB,_⟩),(k,⟨8,aB,_⟩)]) hm rfl kRf rfl rfl rfl (λ x hx=>by simp only[fO,pM,or_false]at hx;rcases hx with hx|hx<;>rw[hx]<;>simp only[]<;>omega) hwp eNM|skip)
 all_goals((refine fC λ ht=>?_))
 all_goals(refine hN _ _ _ ?_)
 all_goals(try(simp only[MH,LH]))
 all_goals(try(simp-dsimp-implicitDefEqProofs (disch:=omega)only[go_sem,iO,hd,hmb,hneg,hNM,hw2,eV2,r1,r2b,r3,r4b,q1,q3,q4,↓reduceIte]))
 all_goals(exact iC)
def bLH(L:LSt)(n:Nat)(hS:Rt0 L n)(o:Opn)(m tk k:Nat)(hm:m+6+L.sl.length<=tk)(hk:tk<k)(c:Nat)(hc:o.cpu=(c:Int))(hcn:c<n)(i:Nat)(hi2:i<L.tl.length)(p:Int×Int)(W b:Int)(hwp:AM.Pure aG Γ 173 [.rp (mcL L),c] W)(hyes:yU L c p.1 i)(hca:2*(L.tsk i).weight<=aH.wrap (p.2-W))(y:Nat)(hb:b=(y:Int))(hy:y<L.tl.length)(q2:¬(L.tsk y).weight<(L.tsk i).weight)(N:Nat->Fr->aS->Prop)(Q:AQ)(hN:∀k1 fr1 H1,Mv k k1 fr1 H1 (k+1) (EN [0,1,3,4,5,6,7,8,9,10,11,12,13,14,19,25,26,27,40,48,49,50,51,116,120] [(50,(i+1:Nat)),(10,(b))] [(0,.ptr m 0 0),(3,.ptr k 0 0),(6,p.1),(7,p.2),(48,.sl tk 0 L.tl.length),(49,L.tl.length)]) ((k,⟨8,aB,[gS o]⟩)::MH m tk L)->N k1 fr1 H1):
 AM.W aG Γ 136 k (gV (gD Tryz.f96) [0,0,1,0,1,1,1,1,1]) (mW N Q) (k+1) (EN [0,1,3,4,5,6,7,8,9,10,11,12,13,14,19,25,26,27,40,48,49,50,51,116,120] [(50,i),(10,b)] [(0,.ptr m 0 0),(3,.ptr k 0 0),(6,p.1),(7,p.2),(48,.sl tk 0 L.tl.length),(49,L.tl.length)]) ((k,⟨8,aB,[gS o]⟩)::MH m tk L):=by
 have hnt:=hS.nt;have hcp:=hS.cpus;have hnu:=hS.nu;have hn1:=hS.n1;have hn64:=hS.n64;have hns:=hS.ns;have hneg:((c:Int)<0)=False:=eq_false oO;have hO:gS o=[aD (aE bM o.kind),aD (aE aH (c:Int)),aD (aE aH o.task),aD (aE aH o.group),aD (aE aH o.weight),aD (aE aH o.to),aD (aE aH o.ticks),aD (aE aI o.mask)]:=by rw[<-hc];rfl
 obtain⟨NM,eNM⟩:=xE ((MH m tk L).map (·.1));have hNM:nub (NM.map (λ i=>if k<=i then i-k+1 else 0))=[0]:=by rw[eNM];exact tZ hm hk (λ i hi=>iN oO)
 have hT:=hS.tk i hi2;have hTe:=hT.e;simp only[qI,dTt]at hTe;obtain⟨d,hd⟩:∃d:Nat,(L.tsk i).cpu=(d:Int):=⟨(L.tsk i).cpu.toNat,by have:=hT.c0;omega⟩;have hdn:d<n:=by have:=hT.c1;omega
 have hmb:aI.wrap ((BitVec.ofInt aI.bits ((L.tsk i).mask.fdiv (2^min c 64))&&&BitVec.ofInt aI.bits 1).toNat:Int)=(L.tsk i).mask/2^c%2:=by have:=rA (x:=(L.tsk i).mask) (c:=(c:Int)) hT.m0 hT.m1 oO oO;rwa [bW]at this
 have hmay:yU L c p.1 i↔(L.tsk i).ready=aB/\(d:Int)=p.1/\(L.tsk i).mask/2^c%2=1/\L.cur d≠(L.tsk i).id:=by unfold yU;rw[hd,bW]
 have hw2:aH.wrap (2*(L.tsk i).weight)=2*(L.tsk i).weight:=wrap_i64 oO oO;obtain⟨V,eV⟩:=xE (aH.wrap (p.2-W));have eV2:=eV.symm;have hcan:JB L p.2 W i b↔2*(L.tsk i).weight<=V/\(b<0\/(L.tsk b.toNat).weight<(L.tsk i).weight):=by unfold JB;rw[<-eV]
 rw[hO]at hN⊢
 simp only[MH,LH];try(simp-dsimp-implicitDefEqProofs (disch:=omega)only[go_sem,iO,↓reduceIte])
 obtain⟨r1,r2,r3,r4⟩:=hmay.1 hyes;rw[<-eV]at hca;subst hb;have q1:(2*(L.tsk i).weight<=V)=True:=eq_true hca;have q3:((y:Int)<0)=False:=eq_false oO;have q4:((L.tsk y).weight<(L.tsk i).weight)=False:=eq_false q2;have r2b:((d:Int)==p.1)=aB:=by rw[beq_iff_eq];exact r2
 have r4b:(L.cur d !=(L.tsk i).id)=aB:=by simp[r4]
 have kp:Kp [0,1,3,4,5,6,7,8,9,10,11,12,13,14,19,25,26,27,40,48,49,50,51,116,120] (λ i=>if k<=i then i-k+1 else 0):=oR;have uU:=fB hd hmb hneg hNM hw2 eV2 r1 r2b (GX r3 r4b q1 q3 q4);refine fC λ ht=>?_;refine RD [.raw (aA 95) ⟨aD (aE aH W),k+2,[],NM⟩] ?_;refine iA ?_ ?_;all_goals(first|exact TD (loc:=[(k+1,⟨8,aB,_⟩),(k,⟨8,aB,_⟩)]) hm rfl kRf rfl rfl rfl (λ x hx=>by simp only[fO,pM,or_false]at hx;rcases hx with hx|hx<;>rw[hx]<;>simp only[]<;>omega) hwp eNM|skip)
 all_goals((refine fC λ ht=>?_))
 all_goals(refine hN _ _ _ ?_)
 all_goals(try(simp only[MH,LH]))
 all_goals(try(simp-dsimp-implicitDefEqProofs (disch:=omega)only[go_sem,iO,hd,hmb,hneg,hNM,hw2,eV2,r1,r2b,r3,r4b,q1,q3,q4,↓reduceIte]))
 all_goals(exact iC)
def VD(k:Nat):Kp [0,1,3,4,5,6,7,8,9,10,11,12,13,14,19,25,26,27,40,48,49,50,51,116,120] (λ i=>if k<=i then i-k+1 else 0):=oR
def a6T(L:LSt)(n:Nat)(hS:Rt0 L n)(o:Opn)(m tk k:Nat)(hm:m+6+L.sl.length<=tk)(hk:tk<k):OpOk Γ 96 L n o m tk k:=by
 have hnt:=hS.nt;have hcp:=hS.cpus;have hnu:=hS.nu;have hn1:=hS.n1;have hn64:=hS.n64;have hns:=hS.ns;have hcpu:=cpu L o.cpu m tk (k+1) hm oO (Γ:=Γ);by_cases h1:0<=o.cpu/\o.cpu<L.cpus;rotate_left
 .rw[decide_eq_false h1]at hcpu;refine⟨L,0,300,tk,k,hS,⟨fZ L,dP rfl⟩,hm,⟨hk,dE rfl⟩,aJ _,?_⟩;obtain⟨RH,eRH⟩:=xE (MH m tk L:aS);obtain⟨RV,eRV⟩:=xE (kM (0) 300:AVal);refine uG (k:=k) eRV eRH rfl (fX oO oO) (bR Tryz.func96 rfl 136 rfl bB ?_);simp only[MH,LH];have kp:=VD k;refine fW ?_;refine mS [.far (aD (bC aF)) (k+1) [(k,⟨8,aB,[gS o]⟩)] (MH m tk L) (MH m tk L)] ?_;refine kS (zs ?_) (zs ?_) (zs ?_);.intro q;simp only[MH,LH,fS,gS,bA,aZ]
  .exact hY rfl
  simp only[MH,LH];refine fM ?_;refine fC λ ht=>?_;refine kX ?_;refine⟨?_,?_⟩;.rw[eRV];rfl
  rw[eRH];simp only[MH,LH];exact mX iV
 rw[decide_eq_true h1]at hcpu;obtain⟨c,hc⟩:∃c:Nat,o.cpu=(c:Int):=⟨o.cpu.toNat,oO⟩;rw[hc]at hcpu;have hcn:c<n:=oO;have hneg:((c:Int)<0)=False:=eq_false oO;have hO:gS o=[aD (aE bM o.kind),aD (aE aH (c:Int)),aD (aE aH o.task),aD (aE aH o.group),aD (aE aH o.weight),aD (aE aH o.to),aD (aE aH o.ticks),aD (aE aI o.mask)]:=by rw[<-hc];rfl
 obtain⟨NM,eNM⟩:=xE ((MH m tk L).map (·.1));have hNM:nub (NM.map (λ i=>if k<=i then i-k+1 else 0))=[0]:=by rw[eNM];exact tZ hm hk (λ i hi=>iN oO)
 have hwp:=a1R L (c:Int) oO (Γ:=Γ);obtain⟨W,eW⟩:=xE (JR L (c:Int) L.tl.length);rw[<-eW]at hwp;obtain⟨fm,efm⟩:=xE (fmN L c n);obtain⟨B,eB⟩:=xE (bsN L c fm.1 fm.2 W L.tl.length);have hBst:Bst L c B:=by rw[eB];exact aIX (aJ _)
 suffices hmain:∀(RV:AVal) (RH:aS) (L':LSt),L'.sl.length=L.sl.length->(B= -1->RV=kM 0 6/\RH=MH m tk L)->(∀j:Nat,B=(j:Int)->j<L.tl.length/\RV=kM (L.tsk j).id 0/\RH=MH m tk L'/\Tr aG Γ 172 (k+1) [.ptr m 0 0,j,c] (MH m tk L) (λ k1 r1 H1=>k1=k+1/\r1= .tup []/\H1=MH m tk L'))->Tr aG Γ 96 k [.ptr m 0 0,.agg (gS o)] (MH m tk L) (λ k1 r1 H1=>r1=RV/\IA H1 RH)by
  rcases hBst with hb|⟨j,hb,hj⟩;.refine⟨L,0,6,tk,k,hS,⟨fZ L,dP rfl⟩,hm,⟨hk,dE rfl⟩,aJ _,?_⟩;obtain⟨RH,eRH⟩:=xE (MH m tk L:aS);obtain⟨RV,eRV⟩:=xE (kM 0 6:AVal);exact uG (kk:=k) eRV eRH rfl (fX oO oO) (hmain RV RH L rfl (λ _=>⟨eRV,eRH⟩) (λ j h=>oO))
  obtain⟨L',hL',hF',hmove⟩:=move L n hS j hj.1 c hcn hj.2.2.1 (aRD hS hj.1 hj.2.2.2) m tk (k+1) hm oO (Γ:=Γ);have hLs:=hF'.ns;refine⟨L',(L.tsk j).id,0,tk,k,hL',⟨hF',dE rfl⟩,hm,⟨hk,dE rfl⟩,aJ _,?_⟩;obtain⟨RH,eRH⟩:=xE (MH m tk L':aS);obtain⟨RV,eRV⟩:=xE (kM (L.tsk j).id 0:AVal);refine uG (kk:=k) eRV eRH rfl (fX oO oO) ?_;exact hmain RV RH L' hLs (λ h=>oO) (λ q hq=>by obtain rfl:q=j:=oO;exact⟨hj.1,eRV,eRH,hmove⟩)
 intro RV RH L' hL' hno hyes;refine bR Tryz.func96 rfl 136 rfl bB ?_;simp only[MH,LH];have kp:=VD k;have uU:=hc;refine fW ?_;refine mS [.far (aD (bC aB)) (k+1) [(k,⟨8,aB,[gS o]⟩)] (MH m tk L) (MH m tk L)] ?_;refine kS (zs ?_) (zs ?_) (zs ?_);.intro q;simp only[MH,LH,fS,gS,hc,bA,aZ]
 .exact hY rfl
 simp only[MH,LH];refine fM ?_;refine fC λ ht=>?_;refine cD (X:=Nat) rfl [0,1,3,4,5,6,7,8,9,10,11,12,13,14,19,25,26,27,40,48,49,50,51,116,120] (k+1) (λ j=>[(26,j),(6,aD (aE aH (fmN L c j).1)),(7,aD (aE aH (fmN L c j).2))]) (λ j=>(k,⟨8,aB,[gS o]⟩)::MH m tk L) (λ j=>j<=n) (λ j=>n-j) 0 ?_ (bF _) ?_
 .simp only[MH,LH];try simp only[gS,hc]
  rw[fmN];refine fM ?_;exact iC
 intro j hj;obtain⟨p,ep⟩:=xE (fmN L c j);rw[<-ep];simp only[MH,LH];try simp only[gS,hc]
 refine fM ?_;by_cases hj2:j<n
 .have hw:=weight L (j:Int) m tk (k+1) hm oO oO (Γ:=Γ);obtain⟨w,ew⟩:=xE (JR L (j:Int) L.tl.length);rw[<-ew]at hw;have hsu:fmN L c (j+1)=if(j:Int)≠c/\p.2<w then((j:Int),w)else p:=by rw[fmN,<-ep,<-ew]
  refine fC λ ht=>?_;refine mS [.far (aD (aE aH w)) (k+1) [(k,⟨8,aB,[gS o]⟩)] (MH m tk L) (MH m tk L)] ?_;refine kS (zs ?_) (zs ?_) (zs ?_);.intro q;simp only[MH,LH,fS,gS,hc,bA,aZ]
  .exact hY rfl
  simp only[MH,LH];refine fM ?_;by_cases hq:(j:Int)≠c/\p.2<w
  .rw[iP hq]at hsu;refine uV ?_;refine kB (HA λ ht hg=>⟨j+1,oO,oO,?_⟩);rw[hsu];simp only[MH,LH];try simp only[gS,hc]
   refine fM ?_;exact iC
  rw[iN hq]at hsu;refine uV ?_;refine WS (HA λ ht hg=>?_) (HA λ ht hg=>?_);all_goals(refine⟨j+1,oO,oO,?_⟩)
  all_goals(rw[hsu])
  all_goals(try(simp only[MH,LH]))
  all_goals(try simp only[gS,hc])
  all_goals(try(simp-dsimp-implicitDefEqProofs (disch:=omega)only[go_sem,iO,hc,↓reduceIte]))
  all_goals(exact iC)
 have hjn:j=n:=oO;rw[hjn,<-efm]at ep;subst ep;refine fC λ ht=>?_;refine gW (nC (fr1:=[(0,.ptr m 0 0),(3,.ptr k 0 0),(6,aD (aE aH p.1)),(7,aD (aE aH p.2)),(48,.sl tk 0 L.tl.length),(49,aD (aE aH (L.tl.length:Int))),(50,aD (aE aH 0)),(10,aD (aE aH (-1)))]) (k1:=k+1) (H1:=(k,⟨8,aB,[gS o]⟩)::MH m tk L) (sA oO (sW @hc) (by rw[hO];simp only[MH,LH];simp-dsimp-implicitDefEqProofs (disch:=omega)only[go_sem,iO,hc,aQ,↓reduceIte]) (by simp-dsimp-implicitDefEqProofs (disch:=omega)only[go_sem,iO,TC,ltB_iff,aQ,↓reduceIte]) (by rw[hO];simp only[MH,LH];simp-dsimp-implicitDefEqProofs (disch:=omega)only[go_sem,iO,TC,ltB_iff,aQ,↓reduceIte]))) ?_;refine cD (X:=Nat) rfl [0,1,3,4,5,6,7,8,9,10,11,12,13,14,19,25,26,27,40,48,49,50,51,116,120] (k+1) (λ i=>[(50,i),(10,(bsN L c p.1 p.2 W i))]) (λ i=>(k,⟨8,aB,[gS o]⟩)::MH m tk L) (λ i=>i<=L.tl.length) (λ i=>L.tl.length-i) 0 ?_ (bF _) ?_
 .rw[bsN,hO];simp only[MH,LH];try(simp-dsimp-implicitDefEqProofs (disch:=omega)only[go_sem,iO,hc,↓reduceIte])
  exact iC
 intro i hi;obtain⟨b,eb⟩:=xE (bsN L c p.1 p.2 W i);have hB:Bst L c b:=by rw[eb];exact aIX hi
 rw[<-eb];by_cases hi2:i<L.tl.length
 .have hsu:bsN L c p.1 p.2 W (i+1)=if yU L c p.1 i/\JB L p.2 W i b then(i:Int)else b:=by rw[bsN,<-eb]
  by_cases hmay:yU L c p.1 i;rotate_left
  .refine bLG L n hS o m tk k hm hk c hc hcn i hi2 p W b hwp hmay _ _ (λ k1 fr1 H1 h=>⟨i+1,oO,oO,?_⟩);rw[hsu,iN (λ h=>hmay h.1)];exact h
  by_cases hca:2*(L.tsk i).weight<=aH.wrap (p.2-W);rotate_left
  .refine bLK L n hS o m tk k hm hk c hc hcn i hi2 p W b hwp hmay hca _ _ (λ k1 fr1 H1 h=>⟨i+1,oO,oO,?_⟩);rw[hsu,iN (λ h=>hca h.2.1)];exact h
  rcases hB with hb|⟨y,hb,hy⟩;.refine bLJ L n hS o m tk k hm hk c hc hcn i hi2 p W b hwp hmay hca hb _ _ (λ k1 fr1 H1 h=>⟨i+1,oO,oO,?_⟩);rw[hsu,iP ⟨hmay,hca,dE oO⟩];exact h
  by_cases q2:(L.tsk y).weight<(L.tsk i).weight;.refine bLI L n hS o m tk k hm hk c hc hcn i hi2 p W b hwp hmay hca y hb hy.1 q2 _ _ (λ k1 fr1 H1 h=>⟨i+1,oO,oO,?_⟩);rw[hsu,iP ⟨hmay,hca,dP (by rw[hb,bW];exact q2)⟩];exact h
  refine bLH L n hS o m tk k hm hk c hc hcn i hi2 p W b hwp hmay hca y hb hy.1 q2 _ _ (λ k1 fr1 H1 h=>⟨i+1,oO,oO,?_⟩);rw[hsu,iN (λ h=>by have:=h.2.2;rw[hb,bW]at this;omega)]
  exact h
 rw[hO];simp only[MH,LH];try(simp-dsimp-implicitDefEqProofs (disch:=omega)only[go_sem,iO,hc,↓reduceIte])
 have hil:i=L.tl.length:=oO;rw[hil,<-eB]at eb;subst eb;rcases hB with hb|⟨y,hb,hy⟩
 .obtain⟨eRV,eRH⟩:=hno hb;subst hb;refine uV ?_;refine kB (gB λ ht ht=>?_);have uU:=hc;refine kX ?_;refine⟨?_,?_⟩;.rw[eRV];rfl
  rw[eRH];simp only[MH,LH];exact mX iV
 obtain⟨hy1,eRV,eRH,hmv⟩:=hyes y hb;subst hb;refine uV ?_;refine kB (gB λ ht ht=>mS [.far (.tup []) (k+1) [(k,⟨8,aB,[gS o]⟩)] (MH m tk L) (MH m tk L')] ?_);refine kS (zs ?_) (zs ?_) (zs ?_);.intro q;simp only[MH,LH,fS,gS,hc,bA,aZ]
 .exact mQ (λ i hi=>by simp only[AM.look];repeat(rw[iN oO])) hL'
 simp only[MH,LH];refine fM ?_;refine fW ?_;have uU:=hc;refine kX ?_;refine⟨?_,?_⟩;.rw[eRV];rfl
 rw[eRH];simp only[MH,LH];exact mX iV
end Go.Proofs.T
end
