import Derived.Test.YteimiejbhhgljaaGreatDoorZAK
set_option linter.unusedVariables false
set_option linter.unusedSimpArgs false
set_option maxHeartbeats 0
set_option maxRecDepth 100000
open Bool renaming and_eq_false_iff->AF,and_eq_true->aH,and_true->iC,eq_iff_iff->bH,false->aE,not_eq_false'->jI,true->aB,true_and->lG
open Int renaming ediv_nonneg->a5D,emod_lt_of_pos->rU,emod_nonneg->RZ,fdiv_eq_ediv_of_nonneg->dU,le_refl->bR,pow_nonneg->AW,tmod_eq_emod_of_nonneg->dS,toNat_natCast->bP
open Go.IntKind renaming i64->aL,u64->aY
open List renaming all_cons->fU,all_eq_true->aW,all_nil->AA,append_eq_nil_iff->bBK,cons_append->aV,ext_getElem?->dZ,getD->oH,getD_eq_getElem?_getD->aR,getElem?_append->dN,getElem?_drop->dW,getElem?_eq_getElem->aJ,getElem?_eq_none->aX,getElem?_of_mem->oN,getElem?_replicate->oG,getElem?_set_self->fW,getElem?_take->fE,getElem_mem->JR,length_append->bM,length_cons->gS,length_drop->aLW,length_map->cX,length_nil->RY,length_replicate->gI,map->rS,map_append->aM,map_congr_left->fD,map_cons->bI,map_map->jM,map_nil->bQ,mem_map->dB,mem_of_getElem?->iG,mem_of_mem_take->bOU,mem_range->dK,nil_append->aU,range->aN,replicate->bE,take_of_length_le->kG
open Nat renaming add_assoc->gD,add_sub_cancel->a4V,add_sub_cancel_left->lE,eq_zero_or_pos->a4U,le_refl->aF,le_succ->mF,lt_trichotomy->kA,mul_one->HW,not_lt_zero->bO,reduceAdd->YG,sub_self->RX,zero_le->aZ
open Option renaming getD_some->aLU,isNone_iff_eq_none->qQ,isSome_iff_exists->fS,none->aC,some->aA
open Go.Proofs.Tryz renaming prog->aD
section
namespace Go.Proofs.T
open Go Go.AM Go.Proofs
theorem aLN{o:Option Mb}{y:Mb}{P:Int->Prop}(h:OMin (o.map (·.v)) P):OMin ((FM o y).map (·.v)) (λ x=>P x\/x=y.v):=by
 cases o with
 |none=>
  refine⟨.inr rfl,λ x hx=>?_⟩;rcases hx with hx|hx;.exact absurd hx (h x)
  rw[hx];exact bR _
 |some b=>
  obtain⟨h1,h2⟩:=h;have h1:P b.v:=h1;have h2:∀x,P x->b.v<=x:=h2;simp only[FM];by_cases hl:aNR y b=aB
  .rw[iP hl];simp only[aNR,dTt]at hl;refine⟨.inr rfl,λ x hx=>?_⟩;show y.v<=x;rcases hx with hx|hx;.have:=h2 x hx;omega
   omega
  rw[iN hl];simp only[aNR,dTt]at hl;refine⟨.inl h1,λ x hx=>?_⟩;show b.v<=x;rcases hx with hx|hx;.exact h2 x hx
  omega
theorem aUF{L:LSt}{g c:Nat}(hk:FloorOk L.st):∀i,i<=L.tl.length->OMin ((lT L g c i).map (·.v)) (λ x=>∃j,j<i/\tL L.st c j=aB/\(L.st.tsk j).group.toNat=g/\x=(L.st.tsk j).v)
 |0,_=>λ x ⟨j,h,_⟩=>absurd h (bO _)
 |i+1,hi=>by
  have ih:=aUF (g:=g) (c:=c) hk i oO;have hgp:0<=(L.tsk i).group/\(L.tsk i).group<L.sl.length:=hk.grp i (by show i<L.tl.length;omega);rw[lT];by_cases ht:uL L g c i=aB
  .rw[iP ht];obtain⟨t1,t2,t3⟩:=takes_iff.1 ht;refine(aLN ih).congr λ x=>⟨?_,?_⟩
   .rintro(⟨j,h1,h2⟩|h1);.exact⟨j,oO,h2⟩
    refine⟨i,oO,?_,?_,h1⟩;.simp only[tL,aH,dTt];exact⟨t1,t3⟩
    show(L.tsk i).group.toNat=g;omega
   rintro⟨j,h1,h2,h3,h4⟩;by_cases e:j=i;.subst e;exact .inr h4
   exact .inl ⟨j,oO,h2,h3,h4⟩
  rw[iN ht];refine ih.congr λ x=>⟨λ⟨j,h1,h2⟩=>⟨j,oO,h2⟩,?_⟩;rintro⟨j,h1,h2,h3,h4⟩;by_cases e:j=i;.subst e;refine absurd (takes_iff.2 ?_) ht;simp only[tL,aH,dTt]at h2;have h3':(L.tsk j).group.toNat=g:=h3;exact⟨h2.1,oO,h2.2⟩
  exact⟨j,oO,h2,h3,h4⟩
theorem aUG{L:LSt}{F:Nat->Option Mb}{g c:Nat}(hk:FloorOk L.st):∀i,OMin ((lS L F g c i).map (·.v)) (λ x=>(∃j,j<L.tl.length/\tL L.st c j=aB/\(L.st.tsk j).group.toNat=g/\x=(L.st.tsk j).v)\/∃h,g<h/\h<g+1+i/\L.par h=g/\(F h).isSome=aB/\x=(L.sp h c).v)
 |0=>(aUF hk L.tl.length (aF _)).congr λ x=>⟨.inl,λ hx=>hx.elim id λ⟨h,h1,h2,_⟩=>oO⟩
 |i+1=>by
  have ih:=aUG (F:=F) (g:=g) (c:=c) hk i;rw[lS];by_cases ht:L.par (g+1+i)=g/\(F (g+1+i)).isSome=aB
  .rw[iP ht];refine(aLN ih).congr λ x=>⟨?_,?_⟩
   .rintro((h|⟨h,h1,h2,h3⟩)|h);.exact .inl h
    .exact .inr ⟨h,h1,oO,h3⟩
    exact .inr ⟨g+1+i,oO,oO,ht.1,ht.2,h⟩
   rintro(h|⟨h,h1,h2,h3,h4,h5⟩);.exact .inl (.inl h)
   by_cases e:h=g+1+i;.subst e;exact .inr h5
   exact .inl (.inr ⟨h,h1,oO,h3,h4,h5⟩)
  rw[iN ht];refine ih.congr λ x=>⟨?_,?_⟩
  .rintro(h|⟨h,h1,h2,h3⟩);.exact .inl h
   exact .inr ⟨h,h1,oO,h3⟩
  rintro(h|⟨h,h1,h2,h3,h4,h5⟩);.exact .inl h
  by_cases e:h=g+1+i;.subst e;exact absurd ⟨h3,h4⟩ ht
  exact .inr ⟨h,h1,oO,h3,h4,h5⟩
theorem OL{L:LSt}(hk:FloorOk L.st)(c:Nat):∀f g,g<L.sl.length->L.sl.length-g<=f->OMin ((iH L f g c).map (·.v)) (aNX L.st c (L.sl.length-1-g) g)
 |0,g,hg,hf=>oO
 |f+1,g,hg,hf=>by
  have ih:=OL hk c f;rw[iH];refine(aUG hk _).congr λ x=>?_;have hpar:∀h,0<h->h<L.sl.length->0<=L.par h/\L.par h<h:=λ h h1 h2=>hk.par h h1 h2;have sub:∀h,g<h->h<L.sl.length->((iH L f h c).isSome=aB↔(dF L.st c (L.sl.length-1-h) h).isSome=aB):=λ h h1 h2=>by have e1:=(ih h h2 oO).some_iff;have e2:=(PR L.st c h (L.sl.length-1-h)).some_iff;rw[e2,<-e1,Option.isSome_map]
  unfold aNX;constructor
  .rintro(h|⟨h,h1,h2,h3,h4,h5⟩);.exact .inl h
   have e:L.sl.length-1-(L.sl.length-1-h)=h:=oO;refine .inr ⟨L.sl.length-1-h,oO,?_,?_,?_,?_⟩;.show 0<L.sl.length-1-(L.sl.length-1-h);omega
   .show(dF L.st c (L.sl.length-1-h) (L.sl.length-1-(L.sl.length-1-h))).isSome=aB;rw[e];exact(sub h h1 oO).1 h4
   .show(L.par (L.sl.length-1-(L.sl.length-1-h))).toNat=g;rw[e];omega
   show x=(L.sp (L.sl.length-1-(L.sl.length-1-h)) c).v;rw[e];exact h5
  rintro(h|⟨q,hq,h1,h2,h3,h4⟩);.exact .inl h
  obtain⟨h,eh⟩:∃h,h=L.sl.length-1-q:=⟨_,rfl⟩;have h1:0<L.sl.length-1-q:=h1;have h2:(dF L.st c q (L.sl.length-1-q)).isSome=aB:=h2;have h3:(L.par (L.sl.length-1-q)).toNat=g:=h3;have h4:x=(L.sp (L.sl.length-1-q) c).v:=h4;rw[<-eh]at h1 h2 h3 h4;have hq':q=L.sl.length-1-h:=oO;rw[hq']at h2;have hp:=hpar h h1 oO;have hgh:g<h:=oO;exact .inr ⟨h,hgh,oO,oO,(sub h hgh oO).2 h2,h4⟩
theorem OMin.unique {o q:Option Int}{P:Int->Prop}(h:OMin o P)(g:OMin q P):o=q:=by
 cases o with
 |none=>
  cases q with
  |none=>rfl
  |some b=>exact absurd g.1 (h b)
 |some a=>
  cases q with
  |none=>exact absurd h.1 (g a)
  |some b=>have:=h.2 b g.1;have:=g.2 a h.1;congr 1;omega
theorem a8G{L:LSt}(hk:FloorOk L.st){g c:Nat}(hg:g<L.sl.length):(FL L g c).map (·.v)=dF L.st c (L.sl.length-1-g) g:=
 (OL hk c _ g hg oO).unique (PR L.st c g _)
def aOJ(L:LSt)(g c:Nat):List Flt:=match FL L g c with
 |none=>[]
 |some x=>iQ (decide ((L.sp g c).floor<x.v)) ⟨14,(g:Int),(c:Int)⟩
theorem a2O{L:LSt}(hk:FloorOk L.st){g c:Nat}(hg:g<L.sl.length):UB L.st g c=aOJ L g c:=by
 rw[<-aBO L.st hk g c hg];have e:L.st.ns-1-(L.st.ns-1-g)=g:=by show L.sl.length-1-(L.sl.length-1-g)=g;omega
 unfold rI;rw[e];unfold FT;have h:=a8G hk hg (c:=c);have h':dF L.st c (L.st.ns-1-g) g=(FL L g c).map (·.v):=h.symm;rw[h'];unfold aOJ
 cases FL L g c with
 |none=>rfl
 |some x=>rfl
theorem flats_nil_iff{f:Nat->List Flt}:∀ {n:Nat},cD f n=[]↔∀i,i<n->f i=[]
 |0=>⟨λ _ i h=>absurd h (bO _),λ _=>rfl⟩
 |n+1=>by
  rw[cD,bBK,flats_nil_iff];constructor
  .rintro⟨h1,h2⟩ i hi;by_cases e:i=n;.rw[e];exact h2
   exact h1 i oO
  exact λ h=>⟨λ i hi=>h i oO,h n oO⟩
theorem Rt0.floorOk {L:LSt}{n:Nat}(h:Rt0 L n)(h12:L.sl.length<=12):FloorOk L.st:=
 ⟨λ i hi=>⟨(h.tk i hi).g0,(h.tk i hi).g1⟩,λ g h1 h2=>h.par g h1 h2,λ g hg=>by show((L.sl.getD g []).length:Int)=L.cpus;rw[h.rows g hg,h.cpus],by show L.sl.length<=L.gl.length;rw[h.ng];exact aF _,
  by show 0<=L.cpus;rw[h.cpus];omega,by show L.cpus<=64;rw[h.cpus];have:=h.n64;omega,h12⟩
theorem qD{α:Type}{l:List α}{i:Nat}{d:α}(h:l.length<=i):l.getD i d=d:=by simp[oH,h]
theorem Rt0.sp_all {L:LSt}{n:Nat}(h:Rt0 L n)(g c:Nat):0<=(L.sp g c).v/\(L.sp g c).v<=18446744073709551615/\0<=(L.sp g c).r:=by
 by_cases hg:g<L.sl.length
 .by_cases hc:c<n;.have:=h.sp g c hg hc;exact⟨this.2.1,this.2.2.1,this.2.2.2.1⟩
  have e:L.sp g c=default:=by unfold LSt.sp;exact qD (by rw[h.rows g hg];omega)
  rw[e];exact⟨bR _,by show(0:Int)<=_;omega,bR _⟩
 have e:L.sp g c=default:=by unfold LSt.sp;rw[qD (l:=L.sl) oO];rfl
 rw[e];exact⟨bR _,by show(0:Int)<=_;omega,bR _⟩
theorem Rt0.tk_all {L:LSt}{n:Nat}(h:Rt0 L n)(i:Nat):0<=(L.tsk i).mask/\(L.tsk i).mask<18446744073709551616/\(L.tsk i).v<=18446744073709551615/\0<=(L.tsk i).r:=by
 by_cases hi:i<L.tl.length;.have:=h.tk i hi;exact⟨this.m0,this.m1,this.v1,this.r0⟩
 have e:L.tsk i=default:=by unfold LSt.tsk;exact qD oO
 rw[e];exact⟨bR _,by show(0:Int)<_;omega,by show(0:Int)<=_;omega,bR _⟩
theorem Rt0.kinds {L:LSt}{n:Nat}(h:Rt0 L n):Kinds L.st:=
 ⟨⟨λ i=>(h.tk_all i).1,λ i=>(h.tk_all i).2.1,λ i=>(h.tk_all i).2.2.1,λ i=>(h.tk_all i).2.2.2,λ g c=>(h.sp_all g c).2.1,λ g c=>(h.sp_all g c).2.2⟩,λ g c=>(h.sp_all g c).1⟩
theorem Rt0.preOk {L:LSt}{n:Nat}(h:Rt0 L n)(h12:L.sl.length<=12)(hn:n<=12):PreOk L.st:=
 ⟨⟨by show L.gl.length<=1000;rw[h.ng];omega,by show L.kl.length<=1000;rw[h.nk];omega,by show L.ul.length<=1000;rw[h.nu];omega,h.nt,by show L.sl.length<=1000;omega,λ g hg=>by show(L.sl.getD g []).length<=1000;rw[h.rows g hg];omega⟩,h12,λ g hg=>by show(L.sl.getD g []).length<=12;rw[h.rows g hg];exact hn⟩
theorem Rt0.brk_no {L:LSt}{n:Nat}(h:Rt0 L n){i:Nat}(hi:i<L.tl.length)(r:Int):brk L.st i r=aE:=by
 have t:=h.tk i hi;have hc:=h.cpus;have hn:=h.n64;have hon:onB L.st i=aB:=by simp only[onB,dTt];exact⟨t.c0,by show(L.tsk i).cpu<L.cpus;rw[hc];exact t.c1⟩
 unfold brk;split
 .simp only[t4,AF,dFn];by_cases h0:0<(i:Int);.right;have:=h.sorted (i-1) i oO hi;show ¬(L.tsk i).id<=(L.tsk (i-1)).id;omega
  exact .inl h0
 split;.simp only[t5,dFn];show ¬((L.tsk i).id<1\/65535<(L.tsk i).id);have:=t.id1;have:=t.id2;omega
 split;.simp only[t6,dFn];show ¬((L.tsk i).group<0\/(L.gl.length:Int)<=(L.tsk i).group);have:=t.g0;have:=t.g1;have:=h.ng;omega
 split;.simp only[t7,hon];rfl
 split;.rw[<-aQT L.st h.kinds.wf i (by show 0<=L.cpus;omega) (by show L.cpus<=64;omega)];simp only[t8,AF,dFn];right;show ¬0<shr (L.tsk i).mask L.cpus;rw[shr,hc,(oO:min ((n:Int).toNat) 64=n),dU _ (AW oO),t.m2];omega
 split;.simp only[r9,hon,lG,jI];show aHH (L.tsk i).mask (L.tsk i).cpu.toNat=aB;simp only[aHH,dTt];exact t.m3
 simp only[t10,jI];exact t.e
theorem Rt0.parts_nil {L:LSt}{n:Nat}(h:Rt0 L n):oQ L.st=[]:=by
 have hc:=h.cpus;unfold oQ;have e1:cD (pF L.st) L.st.nk=[]:=flats_nil_iff.2 λ c hcc=>by have hcc:c<L.kl.length:=hcc;have:=h.clk c (by rw[h.nk]at hcc;exact hcc);unfold pF;rw[mD,dFn];show ¬(L.clk c<0\/281474976710656<L.clk c);omega
 have e2:cD (XS L.st) 7=[]:=flats_nil_iff.2 λ r _=>flats_nil_iff.2 λ i hi=>by unfold KP;rw[mD];exact h.brk_no hi _
 have e3:cD (KX L.st) L.st.ns=[]:=flats_nil_iff.2 λ g hg=>by
  have hg:g<L.sl.length:=hg;unfold KX;split;.rfl
  refine flats_nil_iff.2 λ c hcc=>?_;have hcc:c<(L.sl.getD g []).length:=hcc;rw[h.rows g hg]at hcc;unfold aIP;rw[mD,jI];exact(h.sp g c hg hcc).1
 have hcn:L.st.cpus.toNat=n:=by show L.cpus.toNat=n;omega
 have e4:cD (BJ L.st) L.st.cpus.toNat=[]:=flats_nil_iff.2 λ c hcc=>by rw[hcn]at hcc;have:=h.root c hcc;unfold BJ;rw[mD,dFn];show ¬(0<(L.sp 0 c).v\/0<(L.sp 0 c).r);omega
 have e5:cD (AJ L.st) L.st.cpus.toNat=[]:=flats_nil_iff.2 λ c hcc=>by
  rw[hcn]at hcc;unfold AJ;rw[mD];show(decide (L.cur c≠0)&& !(mM (lZ L.st (L.cur c) c) L.tl.length))=aE;rcases h.cur c hcc with h0|⟨j,h1,h2,h3,h4⟩;.simp[h0]
  have:mM (lZ L.st (L.cur c) c) L.tl.length=aB:=anyB_iff.2 ⟨j,h1,by simp only[lZ,aH,dTt];exact⟨h4,h2,h3⟩⟩
  rw[this];simp
 rw[e1,e2,e3,e4,e5];rfl
def bAV(L:LSt)(n:Nat):Prop:=∀g c,g<L.sl.length->c<n->∀x,FL L g c=aA x->x.v<=(L.sp g c).floor
theorem aFW{L:LSt}{n:Nat}(h:Rt0 L n)(h12:L.sl.length<=12):wR L.st=cD (λ g=>cD (aOJ L g) n) L.sl.length:=by unfold wR;refine nF λ g hg=>?_;have hg:g<L.sl.length:=hg;unfold aOI;rw[show L.st.cpus.toNat=n by show L.cpus.toNat=n;have:=h.cpus;omega];exact nF λ c _=>a2O (h.floorOk h12) hg
theorem flrL_nil{L:LSt}{g c:Nat}:aOJ L g c=[]↔∀x,FL L g c=aA x->x.v<=(L.sp g c).floor:=by
 unfold aOJ
 cases FL L g c with
 |none=>simp
 |some x=>
  simp only[mD,dFn,aA.injEq];constructor;.rintro h y rfl;omega
  intro h;have:=h x rfl;omega
theorem Rt0.shapes_nil {L:LSt}{n:Nat}(h:Rt0 L n):kX L.st=[]:=by
 have hc:=h.cpus;have h1:(L.st.nk:Int)=L.st.cpus:=by show(L.kl.length:Int)=L.cpus;rw[h.nk,hc]
 have h2:(L.st.nu:Int)=L.st.cpus:=by show(L.ul.length:Int)=L.cpus;rw[h.nu,hc]
 have h3:L.st.ns=L.st.ng:=h.ng.symm;unfold kX;rw[iN (λ e=>e h1),iN (λ e=>e h2),iN (λ e=>e h3)];simp only[aU];refine flats_nil_iff.2 λ g hg=>?_;have hg:g<L.sl.length:=hg;unfold lN;rw[iP];show((L.sl.getD g []).length:Int)=L.cpus;rw[h.rows g hg,hc]
theorem Rt0.check {L:LSt}{n:Nat}(h:Rt0 L n)(h12:L.sl.length<=12)(hr:iZ L.st=aB):dQ L.st=cD (λ g=>cD (aOJ L g) n) L.sl.length:=by unfold dQ;rw[iN (by rw[hr];simp),h.shapes_nil,h.parts_nil,iN sS,iN sS];exact aFW h h12
theorem aCI{L:LSt}{n:Nat}(h:Rt0 L n)(hf:bAV L n)(h12:L.sl.length<=12)(hr:iZ L.st=aB):dQ L.st=[]:=by rw[h.check h12 hr];exact flats_nil_iff.2 λ g hg=>flats_nil_iff.2 λ c hc=>flrL_nil.2 (hf g c hg hc)
structure SameQ (L M:LSt):Prop where
 tl:M.tl=L.tl
 ns:M.sl.length=L.sl.length
 gl:M.gl=L.gl
 v:∀g c,(M.sp g c).v=(L.sp g c).v
theorem JO (L:LSt):SameQ L L:=⟨rfl,rfl,rfl,λ _ _=>rfl⟩
theorem SameQ.trans {A B C:LSt}(h:SameQ A B)(g:SameQ B C):SameQ A C:=⟨g.tl.trans h.tl,g.ns.trans h.ns,g.gl.trans h.gl,λ a c=>(g.v a c).trans (h.v a c)⟩
theorem SameQ.par {L M:LSt}(h:SameQ L M)(g:Nat):M.par g=L.par g:=by unfold LSt.par;rw[h.gl]
theorem aKC{L M:LSt}(h:SameQ L M){g c:Int}:∀i,lT M g c i=lT L g c i
 |0=>rfl
 |i+1=>by
  have e:M.tsk i=L.tsk i:=by unfold LSt.tsk;rw[h.tl]
  rw[lT,lT,aKC h i,uL,uL,e]
theorem aKE{L M:LSt}(h:SameQ L M){F G:Nat->Option Mb}(hF:∀x,F x=G x){g c:Nat}:∀i,lS M F g c i=lS L G g c i
 |0=>by rw[lS,lS,aKC h,h.tl]
 |i+1=>by rw[lS,lS,aKE h hF i,h.par,h.v,hF]
theorem KD{L M:LSt}(h:SameQ L M){c:Nat}:∀f g,iH M f g c=iH L f g c
 |0,_=>rfl
 |f+1,g=>by rw[iH,iH,aKE h (λ x=>KD h f x),h.ns]
theorem aAK{L M:LSt}(h:SameQ L M){g c:Nat}:FL M g c=FL L g c:=by unfold FL;rw[KD h,h.ns]
def FlAt(L:LSt)(g c:Nat):Prop:=∀x,FL L g c=aA x->x.v<=(L.sp g c).floor
theorem aNB{L:LSt}{n g c:Nat}(h:Rt0 L n)(hg:g<L.sl.length)(hc:c<n):SameQ L (rise1 L g c)/\FlAt (rise1 L g c) g c/\(∀a b,¬(a=g/\b=c)->(rise1 L g c).sp a b=L.sp a b)/\Fwd L (rise1 L g c):=by
 have hcr:c<(L.sl.getD g []).length:=by rw[h.rows g hg];exact hc
 unfold rise1
 cases hl:FL L g c with
 |none=>simp only;exact⟨JO L,λ x hx=>(by rw[hl]at hx;cases hx),λ _ _ _=>trivial,fN L⟩
 |some x=>
  simp only
  have hs:SameQ L (L.setS g c {L.sp g c with floor:=LE (L.sp g c).floor x.v}):=⟨rfl,rY,rfl,λ a b=>by
   rw[yL hg hcr];split;.rename_i e;rw[e.1,e.2]
   rfl⟩
  refine⟨hs,λ y hy=>?_,λ a b hab=>by rw[yL hg hcr,iN hab],Fwd.setS hg hcr ?_⟩;.rw[aAK hs,hl]at hy;cases hy;rw[yL hg hcr,iP ⟨rfl,rfl⟩];show x.v<=LE _ _;unfold LE;split<;>omega
  show(L.sp g c).floor<=LE _ _;unfold LE;split<;>omega
theorem FlAt.same {L M:LSt}{g c:Nat}(h:SameQ L M)(hf:(M.sp g c).floor=(L.sp g c).floor):FlAt M g c↔FlAt L g c:=by unfold FlAt;rw[aAK h,hf]
theorem aIW{L:LSt}{n g:Nat}(h:Rt0 L n)(hg:g<L.sl.length):∀ {j:Nat},j<=n->SameQ L (SW L g j)/\(∀c,c<j->FlAt (SW L g j) g c)/\(∀a b,¬(a=g/\b<j)->(SW L g j).sp a b=L.sp a b)/\Fwd L (SW L g j)
 |0,_=>⟨JO L,λ c hc=>absurd hc (bO _),λ _ _ _=>rfl,fN L⟩
 |j+1,hj=>by
  obtain⟨h1,h2,h3,h4⟩:=aIW h hg (j:=j) oO;obtain⟨h5,h6⟩:=VV h hg (j:=j) oO;obtain⟨k1,k2,k3,k4⟩:=aNB h5 (g:=g) (c:=j) oO oO;refine⟨h1.trans k1,λ c hc=>?_,λ a b hab=>?_,h4.trans k4 (.inl (by show(rise1 (SW L g j) g j).tl.length=_;rw[k1.tl]))⟩
  .by_cases e:c=j;.subst e;exact k2
   exact(FlAt.same k1 (by rw[k3 g c (λ hh=>e hh.2)])).2 (h2 c oO)
  show(rise1 (SW L g j) g j).sp a b=L.sp a b;rw[k3 a b (λ hh=>hab ⟨hh.1,oO⟩),h3 a b (λ hh=>hab ⟨hh.1,oO⟩)]
theorem aIT{L:LSt}{n:Nat}(h:Rt0 L n):∀ {i:Nat},i<=L.sl.length->SameQ L (rgN L n i)/\(∀g c,g<i->c<n->FlAt (rgN L n i) g c)/\Fwd L (rgN L n i)
 |0,_=>⟨JO L,λ g c hg=>absurd hg (bO _),fN L⟩
 |i+1,hi=>by
  obtain⟨h1,h2,h4⟩:=aIT h (i:=i) oO;obtain⟨h5,h6⟩:=NP h (i:=i) oO;obtain⟨k1,k2,k3,k4⟩:=aIW h5 (g:=i) oO (aF n);refine⟨h1.trans k1,λ g c hg hc=>?_,h4.trans k4 (.inl (by show(SW (rgN L n i) i n).tl.length=_;rw[k1.tl]))⟩;by_cases e:g=i;.subst e;exact k2 c hc
  exact(FlAt.same k1 (by rw[k3 g c (λ hh=>e hh.1)])).2 (h2 g c oO hc)
theorem aSD{L:LSt}{n:Nat}(h:Rt0 L n):Rt0 (xJ L n) n/\bAV (xJ L n) n/\Fwd L (xJ L n)/\(xJ L n).tl=L.tl:=by obtain⟨h1,h2,h3⟩:=aIT h (aF _);obtain⟨h4,h5⟩:=NP h (aF _);refine⟨h4,λ g c hg hc=>h2 g c ?_ hc,h3,h1.tl⟩;have:(xJ L n).sl.length=L.sl.length:=h5;omega
structure Later (L L':LSt):Prop where
 cpus:L'.cpus=L.cpus
 credit:L'.credit=L.credit
 ns:L'.sl.length=L.sl.length
 par:∀g,L'.par g=L.par g
 clk:∀c,L.clk c<=L'.clk c
 fl:∀g c,(L.sp g c).floor<=(L'.sp g c).floor
 w0:L'.wt 0=L.wt 0
theorem JS (L:LSt):Later L L:=⟨rfl,rfl,rfl,λ _=>rfl,λ _=>bR _,λ _ _=>bR _,rfl⟩
theorem Later.trans {A B C:LSt}(h:Later A B)(g:Later B C):Later A C:=
 ⟨g.cpus.trans h.cpus,g.credit.trans h.credit,g.ns.trans h.ns,λ x=>(g.par x).trans (h.par x),λ c=>Int.le_trans (h.clk c) (g.clk c),λ a c=>Int.le_trans (h.fl a c) (g.fl a c),g.w0.trans h.w0⟩
theorem Fwd.later {A B:LSt}(h:Fwd A B):Later A B:=⟨h.cpus,h.credit,h.ns,h.par,h.clk,h.fl,h.w0⟩
structure Rt (L:LSt) (n:Nat):Prop where
 r0:Rt0 L n
 fl:bAV L n
 cfg:iZ L.st=aB
theorem aPB{A B:LSt}{n:Nat}(ha:Rt0 A n)(hb:Rt0 B n)(h:Later A B)(hc:iZ A.st=aB):iZ B.st=aB:=by
 obtain⟨⟨h1,h2,h3,h4,h5,h6,h7⟩,hall⟩:=gT hc;have e1:B.st.ng=A.st.ng:=by show B.gl.length=A.gl.length;rw[hb.ng,ha.ng,h.ns]
 have e2:B.st.par=A.st.par:=funext h.par;simp only[iZ,aH,dTt,qQ];refine⟨⟨by rw[show B.st.cpus=A.st.cpus from h.cpus];exact h1,by rw[show B.st.cpus=A.st.cpus from h.cpus];exact h2,by rw[show B.st.credit=A.st.credit from h.credit];exact h3,oO,oO,by rw[e2];exact h6,by rw[show B.st.wt 0=A.st.wt 0 from h.w0];exact h7⟩,fb_none_iff.2 λ g hg hgn=>?_⟩;have:=hall g hg oO;simp only[okR,aH,dTt,okW]at this⊢
 rw[e2]
 have hgl:g<A.gl.length:=by have:g<A.st.ng:=oO
                            exact this
 exact⟨hb.wt g (by rw[h.ns,<-ha.ng];exact hgl),this.2⟩
end Go.Proofs.T
end
section
namespace Go.Proofs.T
open Go Go.AM Go.Proofs
variable{Γ:dL}
def LC(n i:Nat):List (List AVal):=bE i [.rd 3 n (λ _=>zS)]
theorem DA(n i:Nat):(LC n i).length=i:=by simp[LC]
theorem OB(n i:Nat):LC n (i+1)=LC n i++[[.rd 3 n (λ _=>zS)]]:=by simp[LC,List.replicate_succ']
theorem DB(n i:Nat):((LC n i).all λ row=>row.all clean)=aB:=by rw[aW];intro row h;have:=List.eq_of_mem_replicate h;subst this;rfl
theorem aSV(n i:Nat):LC n (i+1)=[.rd 3 n (λ _=>zS)]::LC n i:=rfl
attribute [go_sem] DA
def lL(s:St)(n:Nat):LSt:=⟨s.cpus,s.credit,(aN s.ng).map λ i=>(s.par i,s.wt i),bE n 0,bE n 0,[],bE s.ng (bE n ⟨0,0,0⟩)⟩
theorem VU{α β:Type}(n:Nat)(a:α)(f:α->β):(bE n a).map f=(aN n).map λ _=>f a:=dZ λ j=>by
 by_cases h:j<n;.simp[h]
 rw[aX (by simp;omega),aX (by simp;omega)]
theorem bAO{s:St}{n ng m tk:Nat}(hn:s.cpus=(n:Int))(hng:ng=s.ng):MH m tk (lL s n)=(m,⟨8,aE,[[n,.lit (.int .u64 s.credit),.sl (m+1) 0 ng,.sl (m+2) 0 n,.sl (m+3) 0 n,.sl tk 0 0,.sl (m+5) 0 ng,aB]]⟩)::(m+1,⟨2,aB,(aN ng).map (gf s)⟩)::(m+2,⟨1,aB,(aN n).map λ _=>zI⟩)::(m+3,⟨1,aB,(aN n).map λ _=>zI⟩)::(m+5,⟨1,aE,sY (m+6) ng n ng⟩)::(tk,⟨8,aB,[]⟩)::mE (m+6) 3 ng (λ _=>(aN n).map λ _=>zS):=by
 have e1:QT (lL s n)=(aN ng).map (gf s):=by simp[QT,lL,hng,glc,gf,Function.comp_def]
 have e2:RG (lL s n)=(aN n).map λ _=>zI:=VU n 0 inc;have e3:KW (lL s n)=(aN n).map λ _=>zI:=VU n 0 inc;have hl:(lL s n).sl.length=ng:=by simp[lL,hng]
 have hg:∀g,g<ng->(lL s n).sl.getD g []=bE n ⟨0,0,0⟩:=λ g h=>by have:g<s.ng:=oO;simp[lL,oH,this]
 have e4:GD m (lL s n)=sY (m+6) ng n ng:=by rw[sG,GD,hl];refine fD λ g h=>?_;rw[ouF,hg g (dK.1 h),gI]
 have e5:mE (m+6) 3 (lL s n).sl.length (BB (lL s n))=mE (m+6) 3 ng (λ _=>(aN n).map λ _=>zS):=by rw[hl];refine AM.fam_congr λ g h=>?_;rw[BB,hg g h];exact VU n ⟨0,0,0⟩ spc
 have e6:fG m tk (lL s n)=[.lit (.int .i64 (n:Int)),.lit (.int .u64 s.credit),.sl (m+1) 0 ng,.sl (m+2) 0 n,.sl (m+3) 0 n,.sl tk 0 0,.sl (m+5) 0 ng,.lit (.bool aB)]:=by simp[fG,lL,hn,<-hng]
 rw[MH,LH,e1,e2,e3,e4,e5,e6];rfl
theorem aEW(n:Nat):VLe (.rd 3 n (λ q=>(bE n [AVal.lit (.int .u64 0),.lit (.int .u32 0),.lit (.int .u64 0)]).getD q [])) (.rd 3 n (λ _=>zS)):=VLe.rd λ i hi=>by simp[aR,hi,zS]
theorem bHV(s:St)(n:Nat)(hn:s.cpus=(n:Int))(hmc:nB s=aB)(h1:1<=n)(h2:n<=64)(h3:1<=s.ng)(h4:s.ng<=256)(k:Nat):
 Tr aD Γ 29 k [.agg s.cfg] [] (λ k1 r1 H1=>k1=k+(23+s.ng)/\r1= .tup [.ptr (k+14) 0 0,(0:Int)]/\H1=MH (k+14) (k+(22+s.ng)) (lL s n)):=by
 obtain⟨ng,eng⟩:∃x,x=s.ng:=⟨_,rfl⟩;rw[<-eng]at h3 h4⊢
 obtain⟨RH,eRH⟩:∃x:aO,x=MH (k+14) (k+(22+ng)) (lL s n):=⟨_,rfl⟩;obtain⟨RV,eRV⟩:∃x:AVal,x= .tup [.ptr (k+14) 0 0,.lit (.int .i64 0)]:=⟨_,rfl⟩;have hLl:(lL s n).sl.length=ng:=by simp[lL,eng]
 refine Tr.mono (dR (kk:=k+(23+ng)) (V:=RV) (RH:=RH) oO (by rw[eRV];simp[bd,LJ,iM,jS];omega) (by rw[eRH];exact fL (by rw[hLl];omega) oO) ?_) (λ _ _ _ h=>⟨h.1,h.2.1.trans eRV,h.2.2.trans eRH⟩);have hrc:=wN (MM Γ) s;rw[hmc]at hrc;refine cN Tryz.func29 rfl 34 rfl bB ?_;have kp:Kp [0,1,2,3,4,7,18,19,20] (λ i=>if k<=i then i-k else 0):=jZ;refine dJ ?_;refine cA ?_;refine jR [.ret aB] ?_;refine iE ?_ ?_;.exact hrc
 have uU:=zA hn (Eq.symm (eng));refine dJ ?_;refine dI λ ht=>?_;refine bY (X:=Nat) rfl [0,1,2,3,4,7,18,19,20] (k+5) (λ i=>[(19,i)]) (λ i=>(k+3,⟨7,aE,[[n,.lit (.int .u64 s.credit),.rd 2 ng (gf s),.sl (k+1) 0 n,.sl (k+2) 0 n,(),dG (k+4) (LC n i)]]⟩)::cL (k+4) 1 (LC n i) [(k,⟨3,aB,[[n,.lit (.int .u64 s.credit),.rd 2 ng (gf s)]]⟩),(k+1,⟨1,aB,bE n [.lit (.int .i64 0)]⟩),(k+2,⟨1,aB,bE n [.lit (.int .i64 0)]⟩)]) (λ i=>i<=ng) (λ i=>ng-i) 0 ?_ (aZ _) ?_;.rw[show LC n 0=[]from rfl];refine fR ?_;apply zN;exact gM
 intro i hi;refine fR ?_;apply zN;by_cases hi2:i<ng
 .have hcl:((LC n i++[[AVal.rd 3 n (λ _=>zS)]]).all λ row=>row.all clean)=aB:=by rw[<-OB];exact DB n (i+1)
  have zero2:=aEW n;rcases a4U i with hi0|hi0
  .subst hi0;rw[show LC n 0=[]from rfl];refine dJ ?_;refine dI λ ht=>?_;refine⟨0+1,oO,oO,?_⟩;rw[OB];try rw[show LC n 0=[]from rfl]
   refine Mv.trans (gK (k+5) (by simp-dsimp-implicitDefEqProofs (disch:=omega)only[go_sem,gY,hn,<-eng,eq_self,↓reduceIte];rfl) rfl) ?_;simp-dsimp-implicitDefEqProofs only[pS,jA,go_sem,gI,aF,kC (DB n 0),hn,<-eng,eq_self,↓reduceIte];refine Mv.trans (Mv.row (k+7) (l:=[]) [.rd 3 n (λ _=>zS)] (by simp(disch:=omega)only[AM.look,gY,↓reduceIte,aU];rfl) (.cons (aEW n) .nil) hcl) ?_;exact DZ (k+7) (k+4) wgD
  obtain⟨j,rfl⟩:∃j,i=j+1:=⟨i-1,oO⟩;rw[aSV];refine dJ ?_;refine dI λ ht=>?_;refine⟨j+1+1,oO,oO,?_⟩;rw[OB];refine Mv.trans (gK (k+5) (by simp-dsimp-implicitDefEqProofs (disch:=omega)only[go_sem,gY,hn,<-eng,eq_self,↓reduceIte];rfl) rfl) ?_;simp-dsimp-implicitDefEqProofs only[pS,jA,go_sem,gI,aF,kC (DB n j),hn,<-eng,eq_self,↓reduceIte];refine Mv.trans (Mv.row (k+7) (l:=LC n (j+1)) [.rd 3 n (λ _=>zS)] (by simp(disch:=omega)only[AM.look,gY,↓reduceIte,aU];rfl) (.cons (aEW n) .nil) hcl) ?_;exact DZ (k+7) (k+4) wgD
 have hil:i=ng:=oO;subst hil;obtain⟨j,ej⟩:∃j,i=j+1:=⟨i-1,oO⟩;have ens:LC n i=[.rd 3 n (λ _=>zS)]::LC n j:=by rw[ej];rfl
 rw[ens];have elen:(LC n j).length+1=i:=by rw[DA];omega
 refine fR ?_;apply zN;refine dJ ?_;refine dI λ ht=>?_;have hone:(((aN i).map (gf s)).all λ row=>row.all AM.one)=aB:=jG _ _ λ _=>rfl;have hco:=a3L (n:Int) s.credit i n i (gf s) hone oO oO h1 oO oO oO (k+5) (Γ:=Γ);rw[(oO:k+5+(16+i)=k+(21+i))]at hco;simp only[gD,YG]at hco;obtain⟨GR,eG⟩:∃GR,GR=(aN i).map (gf s):=⟨_,rfl⟩;obtain⟨KR,eK⟩:∃KR,KR=(aN n).map λ _=>zI:=⟨_,rfl⟩;obtain⟨SR,eS⟩:∃SR,SR=(aN n).map λ _=>zS:=⟨_,rfl⟩;have eMH:=bAO (m:=k+14) (tk:=k+(22+i)) hn eng;simp only[gD,YG]at eMH;rw[<-eG,<-eK,<-eS]at hco eMH;have zI2:VLe (.rd 1 n (λ q=>(bE n [AVal.lit (.int .i64 0)]).getD q [])) (.rd 1 n (λ _=>zI)):=VLe.rd λ q hq=>by simp[aR,hq,zI]
 have zN2:VLe (.rd 1 i (λ q=>([.rd 3 n (λ _=>[.lit (.int .u64 0),.lit (.int .u32 0),.lit (.int .u64 0)])]::LC n j).getD q [])) (.rd 1 i (λ _=>[.rd 3 n (λ _=>zS)])):=VLe.rd λ q hq=>by have:([AVal.rd 3 n (λ _=>[.lit (.int .u64 0),.lit (.int .u32 0),.lit (.int .u64 0)])]::LC n j)=LC n i:=ens.symm;rw[this];simp[LC,aR,hq]
 have hfzr:∀(id:Nat) (B:Blk),(LC n j).map (λ row=>row.map (kH id B))=LC n j:=λ _ _=>kC (DB n j);refine gL (gK (k+4) (B:=⟨1,aB,[.rd 3 n (λ _=>[.lit (.int .u64 0),.lit (.int .u32 0),.lit (.int .u64 0)])]::LC n j⟩) (by simp(disch:=omega)only[AM.look,gY,↓reduceIte]) rfl) ?_;simp-dsimp-implicitDefEqProofs only[pS,jA,go_sem,gI,aF,gS,DA,<-ej,hfzr,hn,<-eng,eq_self,↓reduceIte];refine gL (gK (k+1) (B:=⟨1,aB,bE n [.lit (.int .i64 0)]⟩) (by simp(disch:=omega)only[AM.look,gY,↓reduceIte]) rfl) ?_;simp-dsimp-implicitDefEqProofs only[pS,jA,go_sem,gI,aF,gS,DA,<-ej,hfzr,hn,<-eng,eq_self,↓reduceIte];refine gL (gK (k+2) (B:=⟨1,aB,bE n [.lit (.int .i64 0)]⟩) (by simp(disch:=omega)only[AM.look,gY,↓reduceIte]) rfl) ?_;simp-dsimp-implicitDefEqProofs only[pS,jA,go_sem,gI,aF,gS,DA,<-ej,hfzr,hn,<-eng,eq_self,↓reduceIte];refine gL (Mv.row (k+3) (l:=[]) [n,.lit (.int .u64 s.credit),.rd 2 i (gf s),.rd 1 n (λ _=>zI),.rd 1 n (λ _=>zI),(),.rd 1 i (λ _=>[.rd 3 n (λ _=>zS)])] (by simp(disch:=omega)only[AM.look,gY,↓reduceIte,aU];rfl) (.cons (bJ _) (.cons (bJ _) (.cons (bJ _) (.cons zI2 (.cons zI2 (.cons (bJ _) (.cons zN2 .nil))))))) rfl) ?_;have uU:=AO @lrN @aF @lcN @DA (Eq.symm (ej)) hfzr hn (Eq.symm (eng));refine fR ?_;apply zN;refine dJ ?_;refine cA ?_;refine jR [.far (.agg [n,.lit (.int .u64 s.credit),.sl (k+15) 0 i,.sl (k+16) 0 n,.sl (k+17) 0 n,(),.sl (k+19) 0 i]) (k+(21+i)) [(k+3,⟨7,aB,[[n,.lit (.int .u64 s.credit),.rd 2 i (gf s),.rd 1 n (λ _=>zI),.rd 1 n (λ _=>zI),(),.rd 1 i (λ _=>[.rd 3 n (λ _=>zS)])]]⟩),(k,⟨3,aB,[[n,.lit (.int .u64 s.credit),.rd 2 i (gf s)]]⟩)] [] ((k+15,⟨2,aB,GR⟩)::(k+16,⟨1,aB,KR⟩)::(k+17,⟨1,aB,KR⟩)::(k+19,⟨1,aE,sY (k+20) i n i⟩)::mE (k+20) 3 i (λ _=>SR))] ?_;refine CM (zs ?_) (zs ?_) (zs ?_) (zs ?_);.exact λ q=>rfl
 .exact λ q hq=>by
   rcases hq with hq|hq;.simp[eQ,AM.look]at hq
   have:k+15<=q:=by
    simp only[eQ,AM.look]at hq;repeat'(split at hq;(· omega))
    obtain⟨B,hB⟩:=fS.1 hq;have:=IZ hB;omega
   simp only[AM.look];repeat rw[iN oO]
 .exact hco
 have ho14:((sY (k+20) i n i).map λ row=>row.map (AP (k+(21+i)) (k+14)))=sY (k+20) i n i:=by rw[sG,jM];refine fD λ g hg=>?_;have:=dK.1 hg;simp only[Function.comp,bI,bQ,AP,sw];rw[iN oO,iN oO]
 refine gL (Mv.swap (k+(21+i)) (k+14) ⟨oO,oO⟩ ⟨oO,oO⟩) ?_;have uU:=ho14;refine fR ?_;apply zN;refine gL (UZ k 8 (B:=⟨3,aB,[[n,.lit (.int .u64 s.credit),.rd 2 i (gf s)]]⟩) (by simp(disch:=omega)only[AM.look,gY,↓reduceIte]) oO) ?_;refine fR ?_;apply zN;rw[(oO:k+(22+i)=k+(21+(i+1)))]at eMH eRH;refine gL (aDK (k+14) 5 (k+(21+(i+1))) 0 0 (B:=⟨8,aE,[[n,.lit (.int .u64 s.credit),.sl (k+15) 0 i,.sl (k+16) 0 n,.sl (k+17) 0 n,(),.sl (k+19) 0 i,aB]]⟩) (T:=⟨8,aB,[]⟩) (by simp(disch:=omega)only[AM.look,gY,↓reduceIte]) (by simp(disch:=omega)only[AM.look,gY,↓reduceIte]) oO rfl rfl rfl) ?_;refine fR ?_;apply zN;have uU:=ho14;refine kJ (zN ?_);refine⟨?_,?_⟩;.rw[eRV]
 rw[eRH,eMH];exact fR gG
structure Nums where
 c:Int
 g:Int
 cr:Int
 p:Nat->Int
 w:Nat->Int
def Nums.cells (x:Nums):List AVal:=[.lit (.int .u8 x.c),.lit (.int .u8 x.g),.lit (.int .u32 x.cr),.lit (.int .u8 (x.p 0)),.lit (.int .u8 (x.p 1)),.lit (.int .u8 (x.p 2)),.lit (.int .u8 (x.p 3)),.lit (.int .u8 (x.p 4)),.lit (.int .u16 (x.w 0)),.lit (.int .u16 (x.w 1)),.lit (.int .u16 (x.w 2)),.lit (.int .u16 (x.w 3)),.lit (.int .u16 (x.w 4))]
structure NumsOk (x:Nums):Prop where
 c0:0<=x.c
 c1:x.c<=255
 g0:0<=x.g
 g1:x.g<=255
 r0:0<=x.cr
 r1:x.cr<=4294967295
 p0:∀i,i<5->0<=x.p i/\x.p i<=255
 w0:∀i,i<5->0<=x.w i/\x.w i<=65535
theorem a1D{x:Nums}{i:Nat}(h:i<5):x.cells[3+i*1]? =aA (.lit (.int .u8 (x.p i))):=by
 match i,h with
 |0,_=>rfl
 |1,_=>rfl
 |2,_=>rfl
 |3,_=>rfl
 |4,_=>rfl
theorem a1C{x:Nums}{i:Nat}(h:i<5):x.cells[8+i*1]? =aA (.lit (.int .u16 (x.w i))):=by
 match i,h with
 |0,_=>rfl
 |1,_=>rfl
 |2,_=>rfl
 |3,_=>rfl
 |4,_=>rfl
def kB(x:Nums):Nat->List (Int×Int)×List Int
 |0=>([(0,1)],[0])
 | i+1=>
   let u0:=(x.p i%((i:Int)+1))
   let u:=if(kB x i).2.getD u0.toNat 0=4 then 0 else u0
   ((kB x i).1++[(u,1+x.w i)],(kB x i).2++[(kB x i).2.getD u.toNat 0+1])
theorem uT(x:Nums):∀i,(kB x i).1.length=i+1/\(kB x i).2.length=i+1
 |0=>⟨rfl,rfl⟩
 |i+1=>by obtain⟨h1,h2⟩:=uT x i;simp only[kB,bM,gS,RY];omega
def dpR(l:List Int):List (List AVal):=l.map λ d=>[.lit (.int .i64 d)]
def HJ(cpus cr:Int)(G:List (Int×Int)):St:=⟨cpus,cr,G.length,λ i=>(G.getD i (0,0)).1,λ i=>(G.getD i (0,0)).2,0,λ _=>0,0,λ _=>0,0,λ _=>default,0,λ _=>0,λ _ _=>⟨0,0,0⟩⟩
theorem xT{α:Type}(l:List α)(a d:α)(j:Nat):(l++[a]).getD j d=if j<l.length then l.getD j d else if j=l.length then a else d:=by
 simp only[aR,dN];by_cases h1:j<l.length;.rw[iP h1,iP h1]
 rw[iN h1,iN h1];by_cases h2:j=l.length;.subst h2;simp
 rw[iN h2,aX (by simp;omega)];rfl
structure MkOk (x:Nums) (i:Nat):Prop where
 d:∀j,j<=i->0<=(kB x i).2.getD j 0/\(kB x i).2.getD j 0<=4
 d0:(kB x i).2.getD 0 0=0
 g0:(kB x i).1.getD 0 (0,0)=(0,1)
 g:∀j,1<=j->j<=i->(0<=((kB x i).1.getD j (0,0)).1/\((kB x i).1.getD j (0,0)).1<j)/\(1<=((kB x i).1.getD j (0,0)).2/\((kB x i).1.getD j (0,0)).2<=65536)/\(kB x i).2.getD j 0=(kB x i).2.getD ((kB x i).1.getD j (0,0)).1.toNat 0+1
theorem aJO{x:Nums}(hx:NumsOk x):∀ {i:Nat},i<=5->MkOk x i
 |0,_=>⟨λ j hj=>by obtain rfl:j=0:=oO
                   exact⟨bR _,by show(0:Int)<=4;omega⟩,rfl,rfl,λ j h1 h2=>oO⟩
 |i+1,hi=>by
  obtain⟨h1,h2,h3,h4⟩:=aJO hx (i:=i) oO;obtain⟨l1,l2⟩:=uT x i;have hp:=hx.p0 i oO;have hw:=hx.w0 i oO;obtain⟨D,eD⟩:∃D,D=(kB x i).2:=⟨_,rfl⟩;obtain⟨G,eG⟩:∃G,G=(kB x i).1:=⟨_,rfl⟩;obtain⟨u0,eu0⟩:∃u,u=x.p i%((i:Int)+1):=⟨_,rfl⟩;have hu0:0<=u0/\u0<(i:Int)+1:=by rw[eu0];exact⟨RZ _ oO,rU _ oO⟩
  obtain⟨u,eu⟩:∃u,u=(if D.getD u0.toNat 0=4 then 0 else u0):=⟨_,rfl⟩;rw[<-eD]at h1 h2 h4 l2;rw[<-eG]at h3 h4 l1
  have hu:0<=u/\u<(i:Int)+1/\D.getD u.toNat 0<=3:=by
   rw[eu];split;.exact⟨bR _,oO,by show D.getD 0 0<=3;omega⟩
   have:=h1 u0.toNat oO;exact⟨oO,oO,oO⟩
  have eN:kB x (i+1)=(G++[(u,1+x.w i)],D++[D.getD u.toNat 0+1]):=by simp only[kB,<-eD,<-eG,<-eu0,<-eu]
  have hdu:=h1 u.toNat oO;have key:∀j,j<=i->(D++[D.getD u.toNat 0+1]).getD j 0=D.getD j 0:=λ j hj=>by rw[xT,iP oO]
  have keyG:∀j,j<=i->(G++[(u,1+x.w i)]).getD j (0,0)=G.getD j (0,0):=λ j hj=>by rw[xT,iP oO]
  refine⟨λ j hj=>?_,?_,?_,λ j hj hj2=>?_⟩<;>simp only[eN]
  .by_cases e:j<=i;.rw[key j e];exact h1 j e
   rw[xT,iN oO,iP oO];omega
  .rw[key 0 oO];exact h2
  .rw[keyG 0 oO];exact h3
  by_cases e:j<=i;.have:=h4 j hj e;rw[keyG j e,key j e,key _ oO];exact this
  have ej:j=i+1:=oO;have eg:(G++[(u,1+x.w i)]).getD j (0,0)=(u,1+x.w i):=by rw[xT,iN oO,iP oO]
  have ed:(D++[D.getD u.toNat 0+1]).getD j 0=D.getD u.toNat 0+1:=by rw[xT,iN oO,iP oO]
  rw[eg,ed];refine⟨⟨hu.1,by show u<(j:Int);omega⟩,⟨by show 1<=1+x.w i;omega,by show 1+x.w i<=65536;omega⟩,?_⟩;show _=(D++_).getD u.toNat 0+1;rw[key _ oO]
theorem bCP(x:Nums)(hx:NumsOk x):AM.Pure aD Γ 30 [.agg x.cells] (.agg (HJ (1+x.c%4) x.cr (kB x (x.g%6).toNat).1).cfg):=by
 obtain⟨hc0,hc1,hg0,hg1,hr0,hr1,hp,hw⟩:=hx;obtain⟨q,hq⟩:∃q:Nat,x.g%6=(q:Int):=⟨(x.g%6).toNat,oO⟩;have hq5:q<=5:=oO;rw[hq,bP];have e1:x.c.tmod 4=x.c%4:=dS hc0;have e2:x.g.tmod 6=(q:Int):=by rw[dS hg0,hq]
 have e3:aL.wrap x.c=x.c:=wrap_i64 oO oO;have e4:aL.wrap x.g=x.g:=wrap_i64 oO oO;have e5:aL.wrap (x.c%4)=x.c%4:=wrap_i64 oO oO;have e6:aL.wrap (q:Int)=(q:Int):=wrap_i64 oO oO;have e7:aY.wrap x.cr=x.cr:=wrap_u64 oO oO;have e8:aL.wrap (1+x.c%4)=1+x.c%4:=wrap_i64 oO oO;obtain⟨RC,eRC⟩:∃r,r=x.cells:=⟨_,rfl⟩;refine bT Tryz.func30 rfl 63 rfl bB rfl λ k=>?_;have kp:=gZ k [0,1,2,3,4,5,6,22,23,24,39];have uU:=fP @Nums.cells.eq_1 e1 e2 e3 e4 e5 e6 e7 e8;refine dJ ?_;refine cA ?_;refine bY (X:=Nat) rfl [0,1,2,3,4,5,6,22,23,24,39] (k+5) (λ i=>[(23,i),(4,.sl (k+4) 0 (i+1))]) (λ i=>(k+4,⟨1,aB,dpR (kB x i).2⟩)::(k+3,⟨3,aE,[[(1+x.c%4:Int),.lit (.int .u64 x.cr),.sl (k+2) 0 (i+1)]]⟩)::(k+2,⟨2,aB,(kB x i).1.map glc⟩)::(k+1,⟨3,aB,[[(0:Int),.lit (.int .u64 0),()]]⟩)::[(k,⟨13,aB,[x.cells]⟩)]) (λ i=>i<=q) (λ i=>q-i) 0 ?_ (aZ _) ?_;.rw[show dpR (kB x 0).2=[[.lit (.int .i64 0)]]from rfl,show(kB x 0).1.map glc=[[.lit (.int .i64 0),.lit (.int .i64 1)]]from rfl];refine fR ?_;apply zN;exact gM
 intro i hi;obtain⟨D,eD⟩:∃D,D=(kB x i).2:=⟨_,rfl⟩;obtain⟨G,eG⟩:∃G,G=(kB x i).1:=⟨_,rfl⟩;obtain⟨l1,l2⟩:=uT x i;rw[<-eD,<-eG];rw[<-eD]at l2;rw[<-eG]at l1;refine fR ?_;apply zN;by_cases hi2:i<q
 .have fp:=a1D (x:=x) (oO:i<5);have fw:=a1C (x:=x) (oO:i<5);simp only[Nums.cells]at fp fw;have hpi:=hp i oO;have hwi:=hw i oO;obtain⟨md,md0,mg0,mg⟩:=aJO ⟨hc0,hc1,hg0,hg1,hr0,hr1,hp,hw⟩ (i:=i) oO;rw[<-eD]at md md0;obtain⟨u0,eu0⟩:∃u,u=x.p i%((i:Int)+1):=⟨_,rfl⟩;have hu0:0<=u0/\u0<(i:Int)+1:=by rw[eu0];exact⟨RZ _ oO,rU _ oO⟩
  obtain⟨v0,hv0⟩:∃v:Nat,u0=(v:Int):=⟨u0.toNat,oO⟩;have f1:(x.p i).tmod ((i:Int)+1)=(v0:Int):=by rw[dS hpi.1,<-eu0,hv0]
  have f2:aL.wrap (x.p i)=x.p i:=wrap_i64 oO oO;have f3:aL.wrap (v0:Int)=(v0:Int):=wrap_i64 oO oO;have f4:((i:Int)+1=0)=False:=eq_false oO;have f5:(dpR D)[v0]? =aA [.lit (.int .i64 (D.getD v0 0))]:=by have:v0<D.length:=oO;simp[dpR,oH,this]
  have f6:(dpR D).length=i+1:=by simp[dpR,l2]
  have f7:(G.map glc).length=i+1:=by simp[l1]
  have f8:aL.wrap (x.w i)=x.w i:=wrap_i64 oO oO;have f9:aL.wrap (1+x.w i)=1+x.w i:=wrap_i64 oO oO;have hdv:=md v0 oO;have eN:∀u,u=(if D.getD v0 0=4 then 0 else(v0:Int))->kB x (i+1)=(G++[(u,1+x.w i)],D++[D.getD u.toNat 0+1]):=λ u hu=>by have e:=hu0;simp only[kB,<-eD,<-eG,<-eu0,hv0,bP];rw[<-hu]
  by_cases hd4:D.getD v0 0=4
  .have eN:=eN 0 (by rw[iP hd4]);have eN:kB x (i+1)=(G++[(0,1+x.w i)],D++[1]):=by rw[eN];show(_,D++[D.getD 0 0+1])=_;rw[md0];rfl
   have g1:(dpR D)[0]? =aA [.lit (.int .i64 0)]:=by have h0:0<D.length:=oO;have:D.getD 0 0=0:=md0;rw[oH,aJ h0]at this;simp only[aLU]at this;simp[dpR,this,h0]
   have g2:aL.wrap (0+1)=1:=rfl;have uU:=fP fp fw @f1 @f2 @f3 @f4 @f5 f6 (ID f7 f8 f9 g1 g2);refine dJ ?_;refine oU ⟨λ ht ht=>zN ?_⟩;refine⟨i+1,oO,oO,?_⟩;rw[eN];simp only[dpR,aM,bI,bQ,glc];refine Mv.trans (Mv.swap (k+6) (k+4) ⟨oO,oO⟩ ⟨oO,oO⟩) ?_;refine fR ?_;apply zN;refine Mv.trans (Mv.swap (k+8) (k+2) ⟨oO,oO⟩ ⟨oO,oO⟩) ?_;refine fR ?_;apply zN;exact gM
  have eN:=eN (v0:Int) (by rw[iN hd4]);have g2:aL.wrap (D.getD v0 0+1)=D.getD v0 0+1:=wrap_i64 oO oO;have uU:=fP fp fw @f1 @f2 @f3 @f4 @f5 f6 (DR f7 f8 f9 g2);refine dJ ?_;refine oU ⟨λ ht ht=>zN ?_⟩;refine⟨i+1,oO,oO,?_⟩;rw[eN,bP];simp only[dpR,aM,bI,bQ,glc];refine Mv.trans (Mv.swap (k+6) (k+4) ⟨oO,oO⟩ ⟨oO,oO⟩) ?_;refine fR ?_;apply zN;refine Mv.trans (Mv.swap (k+8) (k+2) ⟨oO,oO⟩ ⟨oO,oO⟩) ?_;refine fR ?_;apply zN;exact gM
 have hiq:i=q:=oO;subst hiq;have uU:=Go.AM.uU;refine dJ ?_;refine dI λ ht=>?_;refine gL (gK (k+2) (B:=⟨2,aB,G.map glc⟩) (by simp(disch:=omega)only[AM.look,gY,↓reduceIte]) rfl) ?_;simp-dsimp-implicitDefEqProofs only[pS,jA,go_sem,cX,l1,aF,eq_self,↓reduceIte];refine bV rfl ?_;simp-dsimp-implicitDefEqProofs (disch:=omega)only[go_sem,gY,cX,l1,aF,eq_self,↓reduceIte];refine⟨_,rfl,?_⟩;have hG:VLe (.rd 2 (i+1) (λ j=>(G.map glc).getD j [])) (.rd 2 (i+1) (gf (HJ (1+x.c%4) x.cr G))):=VLe.rd λ j hj=>by have:j<G.length:=oO;simp[oH,this,glc,gf,HJ]
 refine DP (.cons (bJ _) (.cons (bJ _) (.cons ?_ .nil)));rw[<-eG,show(HJ (1+x.c%4) x.cr G).ng=i+1 from l1];exact hG
theorem aIV{x:Nums}{q:Nat}(hk:MkOk x q)(cp cr:Int):∀(f g n:Nat),g<=q->(kB x q).2.getD g 0<f->QY (HJ cp cr (kB x q).1).par f g n=n+((kB x q).2.getD g 0).toNat
 |0,g,n,hg,hf=>by have:=hk.d g hg;omega
 |f+1,g,n,hg,hf=>by
  rw[QY];by_cases h0:g=0;.subst h0;rw[iP rfl,hk.d0];rfl
  rw[iN h0];obtain⟨⟨a1,a2⟩,a3,a4⟩:=hk.g g oO hg;have ep:(HJ cp cr (kB x q).1).par g=((kB x q).1.getD g (0,0)).1:=rfl;rw[ep,iN oO];have hd:=hk.d ((kB x q).1.getD g (0,0)).1.toNat oO;rw[aIV hk cp cr f _ (n+1) oO oO];omega
theorem aWX{x:Nums}(hx:NumsOk x){q:Nat}(hq:q<=5):iZ (HJ (1+x.c%4) x.cr (kB x q).1)=aB:=by
 have hk:=aJO hx hq;have hl:=(uT x q).1;have hr0:=hx.r0;have hr1:=hx.r1;have hc0:=hx.c0;have ng:(HJ (1+x.c%4) x.cr (kB x q).1).ng=q+1:=hl;have g0:=hk.g0;simp only[iZ,aH,dTt,qQ];refine⟨⟨?_,?_,?_,oO,oO,?_,?_⟩,fb_none_iff.2 λ g h1 h2=>?_⟩;.show 1<=1+x.c%4;omega
 .show 1+x.c%4<=64;omega
 .show x.cr<=1099511627776;omega
 .show((kB x q).1.getD 0 (0,0)).1=0;rw[g0]
 .show((kB x q).1.getD 0 (0,0)).2=1;rw[g0]
 rw[ng]at h2;obtain⟨a1,a3,a4⟩:=hk.g g h1 oO;have hd:=hk.d g oO;simp only[okR,okW,aH,dTt];refine⟨a3,?_⟩;rw[aIV hk _ _ 5 g 0 oO oO];omega
theorem TI{L:LSt}(h:L.tl=[]):∀(f g c:Nat),iH L f g c=aC
 |0,_,_=>rfl
 |f+1,g,c=>by
  rw[iH];have ih:=TI h f
  have:∀i,lS L (λ h=>iH L f h c) g c i=aC:=λ i=>by
   induction i with
   |zero=>rw[lS,h];rfl
   |succ i hi=>rw[lS,iN (by rw[ih];simp),hi]
  exact this _
theorem a1G(cp cr:Int)(G:List (Int×Int))(n:Nat):(lL (HJ cp cr G) n).gl=G:=dZ λ j=>by
 show((aN G.length).map λ i=>((G.getD i (0,0)).1,(G.getD i (0,0)).2))[j]? =G[j]?;by_cases h:j<G.length;.simp[h,oH]
 rw[aX (by simp;omega),aX oO]
theorem aJJ(s:St)(n g c:Nat):(lL s n).sp g c=⟨0,0,0⟩:=by
 unfold LSt.sp;show((bE s.ng (bE n (⟨0,0,0⟩:Sp))).getD g []).getD c default=_;simp only[aR,oG];split
 .simp only[aLU,oG];split;.rfl
  rfl
 simp;rfl
theorem aBF{n i:Nat}:(bE n (0:Int)).getD i 0=0:=by simp only[aR,oG];split<;>rfl
theorem a1F{x:Nums}(hx:NumsOk x){q n:Nat}(hq:q<=5)(hn:1+x.c%4=(n:Int)):Rt (lL (HJ (1+x.c%4) x.cr (kB x q).1) n) n:=by
 have hk:=aJO hx hq;have hl:=(uT x q).1;have hc0:=hx.c0;obtain⟨s,es⟩:∃s,s=HJ (1+x.c%4) x.cr (kB x q).1:=⟨_,rfl⟩;have hcfg:=aWX hx hq;have gl:(lL s n).gl=(kB x q).1:=by rw[es];exact a1G _ _ _ _
 have sng:s.ng=q+1:=by rw[es];exact hl
 have hsl:(lL s n).sl.length=q+1:=by simp[lL,sng]
 have hpar:∀g,(lL s n).par g=((kB x q).1.getD g (0,0)).1:=λ g=>by unfold LSt.par;rw[gl]
 have hwt:∀g,(lL s n).wt g=((kB x q).1.getD g (0,0)).2:=λ g=>by unfold LSt.wt;rw[gl]
 have hcp:(lL s n).cpus=n:=by show s.cpus=n;rw[es];exact hn
 have hcr:(lL s n).credit=x.cr:=by show s.credit=x.cr;rw[es];rfl
 have hr0:=hx.r0;have hr1:=hx.r1;rw[<-es]at hcfg⊢
 have hent:∀w:Int,1<=w->w<=65536->aHZ ⟨0,0,0⟩ w:=λ w h1 h2=>⟨by simp[pK];omega,bR _,by show(0:Int)<=_;omega,bR _,bR _,by show(0:Int)<=_;omega⟩;refine⟨⟨oO,oO,hcp,oO,oO,by rw[gl,hl,hsl],oO,oO,by simp[lL],by simp[lL],λ g hg=>?_,aZ _,λ g h0 hg=>?_,?_,λ g hg=>?_,λ c hc=>?_,λ g c hg hc=>?_,λ c hc=>?_,λ i hi=>absurd hi (bO _),λ a b _ hb=>absurd hb (bO _),λ c hc=>?_⟩,λ g c hg hc y hy=>?_,?_⟩;.have:g<s.ng:=oO;simp[lL,oH,this]
 .rw[hpar];exact(hk.g g h0 oO).1
 .rw[hpar,hk.g0]
 .rw[hwt];by_cases h0:g=0;.subst h0;rw[hk.g0];exact⟨bR _,by show(1:Int)<=65536;omega⟩
  exact(hk.g g oO oO).2.1
 .have:(lL s n).clk c=0:=aBF;rw[this];omega
 .rw[aJJ];refine hent _ ?_ ?_<;>rw[hwt]<;>(by_cases h0:g=0);.subst h0;rw[hk.g0];exact bR _
  .exact(hk.g g oO oO).2.1.1
  .subst h0;rw[hk.g0];show(1:Int)<=65536;omega
  exact(hk.g g oO oO).2.1.2
 .rw[aJJ];exact⟨rfl,rfl⟩
 .left;exact aBF
 .unfold FL at hy;rw[TI rfl]at hy;cases hy
 simp only[iZ,aH,dTt,qQ]at hcfg⊢
 have e1:(lL s n).st.ng=s.ng:=by show(lL s n).gl.length=s.ng;rw[gl,hl,sng]
 have e2:(lL s n).st.par=s.par:=funext λ g=>by show(lL s n).par g=_;rw[hpar,es];rfl
 have e3:(lL s n).st.wt=s.wt:=funext λ g=>by show(lL s n).wt g=_;rw[hwt,es];rfl
 have e4:okR (lL s n).st=okR s:=funext λ g=>by simp only[okR,okW,e2,e3]
 rw[e1,e2,e3,e4];exact hcfg
def Tk.slp (t:Tk):Tk:={t with ready:=aE}
def LSt.lv (L:LSt)(c i:Nat):LSt:=(L.setU c 0).setT i (L.tsk i).slp
def LSt.del (L:LSt)(i:Nat):LSt:={L with tl:=L.tl.eraseIdx i}
theorem bCM{L:LSt}{n c i:Nat}(h:Rt0 L n)(hc:c<n)(hi:i<L.tl.length)(hid:(L.tsk i).id=L.cur c)(hic:(L.tsk i).cpu=c):Rt0 (L.lv c i) n/\Fwd L (L.lv c i)/\(∀d,d<n->(L.lv c i).cur d≠(L.tsk i).id):=by
 have h1:Rt0 (L.setU c 0) n:=h.setU hc (.inl rfl);have hT:=h.tk i hi
 have hcu:∀d,d<n->(L.setU c 0).cur d≠(L.tsk i).id:=λ d hd e=>by
  rw[ZI (by rw[h.nu];exact hc)]at e;split at e;.have:=hT.id1;omega
  rename_i hne;rcases h.cur d hd with h0|⟨j,h2,h3,h4,h5⟩;.have:=hT.id1;omega
  have hji:j=i:=by
   rcases kA j i with hl|hl|hl;.have:=h.sorted j i hl hi;omega
   .exact hl
   have:=h.sorted i j hl h2;omega
  subst hji;rw[hic]at h4;omega
 refine⟨h1.setT hi ⟨hT.id1,hT.id2,hT.g0,hT.g1,hT.c0,hT.c1,hT.e,hT.v0,hT.v1,hT.r0,hT.m0,hT.m1,hT.m2,hT.m3⟩ rfl (λ d hd hcc _ _=>absurd hcc (hcu d hd)),?_,hcu⟩;have h2:Fwd L (L.setU c 0):=⟨rfl,rfl,rfl,λ _=>rfl,λ _=>bR _,λ _ _=>bR _,mF _,rfl⟩;exact h2.trans (Fwd.setT (L:=L.setU c 0) (i:=i) (t:=(L.tsk i).slp)) (.inl pW)
theorem HE{L:LSt}{i j:Nat}(hi:i<L.tl.length):(L.del i).tsk j=if j<i then L.tsk j else L.tsk (j+1):=by unfold LSt.del LSt.tsk;simp only[aR,List.getElem?_eraseIdx];split<;>rfl
theorem XH{L:LSt}{i:Nat}(hi:i<L.tl.length):(L.del i).tl.length=L.tl.length-1:=by unfold LSt.del;exact List.length_eraseIdx_of_lt hi
theorem a9O{L:LSt}{n i:Nat}(h:Rt0 L n)(hi:i<L.tl.length)(hcu:∀d,d<n->L.cur d≠(L.tsk i).id):Rt0 (L.del i) n/\Fwd L (L.del i):=by
 have hl:=XH hi;have key:∀x,TkOk L n x->TkOk (L.del i) n x:=λ x q=>⟨q.id1,q.id2,q.g0,q.g1,q.c0,q.c1,q.e,q.v0,q.v1,q.r0,q.m0,q.m1,q.m2,q.m3⟩;refine⟨⟨h.n1,h.n64,h.cpus,h.cr0,h.cr,h.ng,h.ns1,h.ns,h.nk,h.nu,h.rows,by have:=h.nt;omega,h.par,h.par0,h.wt,h.clk,h.sp,h.root,λ j hj=>?_,λ a b hab hb=>?_,λ c hc=>?_⟩,⟨rfl,rfl,rfl,λ _=>rfl,λ _=>bR _,λ _ _=>bR _,oO,rfl⟩⟩
 .rw[HE hi];split;.exact key _ (h.tk j oO)
  exact key _ (h.tk (j+1) oO)
 .rw[HE hi,HE hi];split<;>split;.exact h.sorted a b hab oO
  .exact h.sorted a (b+1) oO oO
  .omega
  exact h.sorted (a+1) (b+1) oO oO
 rcases h.cur c hc with h0|⟨j,h1,h2,h3,h4⟩;.exact .inl h0
 refine .inr ?_;have hji:j≠i:=λ e=>by subst e;exact hcu c hc h4.symm
 by_cases e:j<i;.exact⟨j,oO,by rw[HE hi,iP e];exact⟨h2,h3,h4⟩⟩
 refine⟨j-1,oO,?_⟩;rw[HE hi,iN oO,(oO:j-1+1=j)];exact⟨h2,h3,h4⟩
theorem UH{α β:Type}(f:α->β):∀(l:List α) (i:Nat),(l.eraseIdx i).map f=(l.map f).eraseIdx i
 |[],_=>rfl
 |a::r,0=>rfl
 |a::r,i+1=>by simp only[List.eraseIdx,bI,UH f r i]
theorem bAQ{m tk i:Nat}{L:LSt}(hi:i<L.tl.length):MH m tk (L.del i)=(m,⟨8,aE,[[L.cpus,.lit (.int .u64 L.credit),.sl (m+1) 0 L.gl.length,.sl (m+2) 0 L.kl.length,.sl (m+3) 0 L.ul.length,.sl tk 0 (L.tl.length-1),.sl (m+5) 0 L.sl.length,aB]]⟩)::(m+1,⟨2,aB,QT L⟩)::(m+2,⟨1,aB,RG L⟩)::(m+3,⟨1,aB,KW L⟩)::(m+5,⟨1,aE,GD m L⟩)::(tk,⟨8,aB,(oJ L).eraseIdx i⟩)::mE (m+6) 3 L.sl.length (BB L):=by rw[MH,LH,fG,XH hi,oJ];have e:((L.del i).tl.map tkc)=(oJ L).eraseIdx i:=UH tkc L.tl i;rw[e];rfl
theorem aIN(L:LSt):((oJ L).all λ row=>row.all AM.one)=aB:=by rw[aW];intro row h;simp only[oJ,dB]at h;obtain⟨t,_,rfl⟩:=h;rfl
theorem bGA{m tk c i:Nat}{L:LSt}:MH m tk (L.lv c i)=(m,⟨8,aE,[fG m tk L]⟩)::(m+1,⟨2,aB,QT L⟩)::(m+2,⟨1,aB,RG L⟩)::(m+3,⟨1,aB,(KW L).set c [(0:Int)]⟩)::(m+5,⟨1,aE,GD m L⟩)::(tk,⟨8,aB,(oJ L).set i (tkc (L.tsk i).slp)⟩)::mE (m+6) 3 L.sl.length (BB L):=by
 rw[LSt.lv,DQ];have e1:KW (L.setU c 0)=(KW L).set c [(0:Int)]:=SP;have e2:fG m tk (L.setU c 0)=fG m tk L:=by simp[fG,LSt.setU]
 rw[e1,e2];rfl
theorem a5W(L:LSt)(n:Nat)(hS:Rt0 L n)(o:Opn)(m tk k:Nat)(hm:m+6+L.sl.length<=tk)(hk:tk<k):OpOk Γ 90 L n o m tk k:=by
 have hnt:=hS.nt;have hcp:=hS.cpus;have hnu:=hS.nu;have hn64:=hS.n64;have hns:=hS.ns;have hcpu:=cpu L o.cpu m tk (k+1) hm oO (Γ:=Γ);by_cases h1:0<=o.cpu/\o.cpu<L.cpus;rotate_left
 .rw[decide_eq_false h1]at hcpu;refine⟨L,0,300,tk,k,hS,⟨fN L,.inr rfl⟩,hm,⟨hk,.inl rfl⟩,aF _,?_⟩;obtain⟨RH,eRH⟩:∃x:aO,x=MH m tk L:=⟨_,rfl⟩;obtain⟨RV,eRV⟩:∃x:AVal,x=jQ (0) 300:=⟨_,rfl⟩;refine Tr.mono (dR (k:=k) (V:=RV) (RH:=RH) oO (by rw[eRV];rfl) (by rw[eRH];exact fL oO oO) ?_) (λ _ _ _ h=>⟨h.1,h.2.1.trans eRV,h.2.2.trans eRH⟩);refine cN Tryz.func90 rfl 60 rfl bB ?_;simp only[MH,LH];have kp:Kp [0,1,3,4,5,6,7,12,23,45] (λ i=>if k<=i then i-k+1 else 0):=jZ;refine dJ ?_;refine cA ?_;refine jR [.far (.lit (.bool aE)) (k+1) [(k,⟨8,aB,[gJ o]⟩)] (MH m tk L) (MH m tk L)] ?_;refine jV (zs ?_) (zs ?_) (zs ?_);.intro q;simp only[MH,LH,fG,gJ,aV,aU]
  .exact cB (λ i hi=>by simp only[AM.look];repeat(rw[iN oO])) rfl
  simp only[MH,LH];refine fR ?_;apply zN;refine dJ ?_;refine dI λ ht=>?_;refine kJ (zN ?_);refine⟨?_,?_⟩;.rw[eRV];rfl
  rw[eRH];simp only[MH,LH];exact fR gG
 rw[decide_eq_true h1]at hcpu;obtain⟨c,hc⟩:∃c:Nat,o.cpu=(c:Int):=⟨o.cpu.toNat,oO⟩;rw[hc]at hcpu;have hcn:c<n:=oO;have hO:gJ o=[.lit (.int .u8 o.kind),.lit (.int .i64 (c:Int)),.lit (.int .i64 o.task),.lit (.int .i64 o.group),.lit (.int .i64 o.weight),.lit (.int .i64 o.to),.lit (.int .i64 o.ticks),.lit (.int .u64 o.mask)]:=by rw[<-hc];rfl
 by_cases h4:L.cur c=0
 .refine⟨L,0,6,tk,k,hS,⟨fN L,.inr rfl⟩,hm,⟨hk,.inl rfl⟩,aF _,?_⟩;obtain⟨RH,eRH⟩:∃x:aO,x=MH m tk L:=⟨_,rfl⟩;obtain⟨RV,eRV⟩:∃x:AVal,x=jQ (0) 6:=⟨_,rfl⟩;refine Tr.mono (dR (k:=k) (V:=RV) (RH:=RH) oO (by rw[eRV];rfl) (by rw[eRH];exact fL oO oO) ?_) (λ _ _ _ h=>⟨h.1,h.2.1.trans eRV,h.2.2.trans eRH⟩);refine cN Tryz.func90 rfl 60 rfl bB ?_;simp only[MH,LH];have kp:Kp [0,1,3,4,5,6,7,12,23,45] (λ i=>if k<=i then i-k+1 else 0):=jZ;have uU:=zA hc h4;refine dJ ?_;refine cA ?_;refine jR [.far (.lit (.bool aB)) (k+1) [(k,⟨8,aB,[gJ o]⟩)] (MH m tk L) (MH m tk L)] ?_;refine jV (zs ?_) (zs ?_) (zs ?_);.intro q;simp only[MH,LH,fG,gJ,hc,aV,aU]
  .exact cB (λ i hi=>by simp only[AM.look];repeat(rw[iN oO])) rfl
  simp only[MH,LH];refine fR ?_;apply zN;refine dJ ?_;refine oU ⟨λ ht ht=>zN ?_⟩;have uU:=zA hc h4;refine kJ (zN ?_);refine⟨?_,?_⟩;.rw[eRV];rfl
  rw[eRH];simp only[MH,LH];exact fR gG
 obtain⟨i,hi,hir,hic,hid⟩:=(hS.cur c hcn).resolve_left h4;have hfc:=find L (L.cur c) i (.inr ⟨i,hi,rfl,hid⟩) hS.sorted oO m tk (k+1) hm oO (Γ:=Γ);obtain⟨hV,hVF,hVc⟩:=bCM hS hcn hi hid hic;have eMH:=bGA (m:=m) (tk:=tk) (c:=c) (i:=i) (L:=L);simp only[fG,tkc,Tk.slp]at eMH;obtain⟨Kx,eK⟩:∃Kx,Kx=L.lv c i:=⟨_,rfl⟩;rw[<-eK]at eMH hV hVF hVc;have hKs:Kx.sl.length=L.sl.length:=hVF.ns;have hKi:i<Kx.tl.length:=by rw[eK];show i<(L.setU c 0|>.setT i _).tl.length;rw[pW];exact hi
 have hKd:(Kx.tsk i).id=(L.tsk i).id:=by rw[eK,LSt.lv,FV (by exact hi),iP rfl];rfl
 have hsett:∀x,((oJ L).set i x)[i]? =aA x:=λ x=>fW (by rw[tN];exact hi);by_cases h5:o.kind=4;rotate_left
 .refine⟨Kx,L.cur c,0,tk,k,hV,⟨hVF,.inl rfl⟩,hm,⟨hk,.inl rfl⟩,aF _,?_⟩;obtain⟨RH,eRH⟩:∃x:aO,x=MH m tk Kx:=⟨_,rfl⟩;obtain⟨RV,eRV⟩:∃x:AVal,x=jQ (L.cur c) 0:=⟨_,rfl⟩;refine Tr.mono (dR (k:=k) (V:=RV) (RH:=RH) oO (by rw[eRV];rfl) (by rw[eRH];exact fL oO oO) ?_) (λ _ _ _ h=>⟨h.1,h.2.1.trans eRV,h.2.2.trans eRH⟩);refine cN Tryz.func90 rfl 60 rfl bB ?_;simp only[MH,LH];have kp:Kp [0,1,3,4,5,6,7,12,23,45] (λ i=>if k<=i then i-k+1 else 0):=jZ;have uU:=zA hc hsett;refine dJ ?_;refine cA ?_;refine jR [.far (.lit (.bool aB)) (k+1) [(k,⟨8,aB,[gJ o]⟩)] (MH m tk L) (MH m tk L)] ?_;refine jV (zs ?_) (zs ?_) (zs ?_);.intro q;simp only[MH,LH,fG,gJ,hc,aV,aU]
  .exact cB (λ i hi=>by simp only[AM.look];repeat(rw[iN oO])) rfl
  simp only[MH,LH];refine fR ?_;apply zN;refine dJ ?_;refine oU ⟨λ ht ht=>zN ?_⟩;refine jR [.far (.lit (.int .i64 (i:Int))) (k+1) [(k,⟨8,aB,[gJ o]⟩)] (MH m tk L) (MH m tk L)] ?_;refine jV (zs ?_) (zs ?_) (zs ?_);.intro q;simp only[MH,LH,fG,gJ,hc,aV,aU]
  .exact cB (λ i hi=>by simp only[AM.look];repeat(rw[iN oO])) rfl
  simp only[MH,LH];refine fR ?_;apply zN;refine dJ ?_;refine dI λ ht=>?_;rw[<-eMH];refine dJ ?_;refine cA ?_;have uU:=zA hc hsett;refine kJ (zN ?_);refine⟨?_,?_⟩;.rw[eRV];rfl
  rw[eRH];simp only[MH,LH];exact fR gG
 obtain⟨hD,hDF⟩:=a9O hV hKi (λ d hd=>by rw[hKd];exact hVc d hd);have hDs:(Kx.del i).sl.length=L.sl.length:=hKs;have hsd:=a0E (oJ Kx) Kx.tl.length i tk (k+1) (tN _) hKi (by have:=hV.nt;omega) (aIN _) oO (Γ:=Γ);have hie:aL.wrap ((i:Int)+1)=(i:Int)+1:=wrap_i64 oO oO;have hle:(Kx.del i).tl.length=Kx.tl.length-1:=XH hKi;refine⟨Kx.del i,L.cur c,0,tk,k,hD,⟨hVF.trans hDF (.inr (by rw[eK];show(L.setU c 0|>.setT i _).tl.length<=_;rw[pW];exact aF _)),.inl rfl⟩,hm,⟨hk,.inl rfl⟩,aF _,?_⟩;obtain⟨RH,eRH⟩:∃x:aO,x=MH m tk (Kx.del i):=⟨_,rfl⟩;obtain⟨RV,eRV⟩:∃x:AVal,x=jQ (L.cur c) 0:=⟨_,rfl⟩;refine Tr.mono (dR (k:=k) (V:=RV) (RH:=RH) oO (by rw[eRV];rfl) (by rw[eRH];exact fL oO oO) ?_) (λ _ _ _ h=>⟨h.1,h.2.1.trans eRV,h.2.2.trans eRH⟩);refine cN Tryz.func90 rfl 60 rfl bB ?_;simp only[MH,LH];have kp:Kp [0,1,3,4,5,6,7,12,23,45] (λ i=>if k<=i then i-k+1 else 0):=jZ;have uU:=DR hc hsett h5 hie;refine dJ ?_;refine cA ?_;refine jR [.far (.lit (.bool aB)) (k+1) [(k,⟨8,aB,[gJ o]⟩)] (MH m tk L) (MH m tk L)] ?_;refine jV (zs ?_) (zs ?_) (zs ?_);.intro q;simp only[MH,LH,fG,gJ,hc,h5,aV,aU]
 .exact cB (λ i hi=>by simp only[AM.look];repeat(rw[iN oO])) rfl
 simp only[MH,LH];refine fR ?_;apply zN;refine dJ ?_;refine oU ⟨λ ht ht=>zN ?_⟩;refine jR [.far (.lit (.int .i64 (i:Int))) (k+1) [(k,⟨8,aB,[gJ o]⟩)] (MH m tk L) (MH m tk L)] ?_;refine jV (zs ?_) (zs ?_) (zs ?_);.intro q;simp only[MH,LH,fG,gJ,hc,h5,aV,aU]
 .exact cB (λ i hi=>by simp only[AM.look];repeat(rw[iN oO])) rfl
 simp only[MH,LH];refine fR ?_;apply zN;refine dJ ?_;refine dI λ ht=>?_;rw[<-eMH];simp only[MH,LH];have uU:=tZ hc h5 hie;refine dJ ?_;refine cA ?_;refine jR [.gen (.sl tk 0 (Kx.tl.length-1)) (k+1) [(tk,⟨8,aB,oJ Kx⟩)] [(tk,⟨8,aB,(oJ Kx).eraseIdx i⟩)]] ?_;refine cA ?_;refine dJ ?_;refine cA ?_;have uU:=tZ hc h5 hie;refine kJ (zN ?_);refine⟨?_,?_⟩;.rw[eRV];rfl
 rw[eRH,bAQ hKi];exact fR gG
theorem a0D(R:List (List AVal))(row:List AVal)(n i tk vb k:Nat)(hn:R.length=n)(hi:i<=n)(hn2:n<=100000)(hone:(R.all λ row=>row.all AM.one)=aB)(hone1:row.all AM.one=aB)(hne:tk≠vb)(hk:tk<k)(hk2:vb<k):
 Tr aD Γ 165 k [.sl tk 0 n,i,.sl vb 0 1] [(tk,⟨8,aB,R⟩),(vb,⟨8,aB,[row]⟩)] (λ k1 r1 H1=>k1=k+1/\r1= .sl k 0 (n+1)/\H1=[(k,⟨8,aB,vA R i row⟩)]):=by
 obtain⟨RH,eRH⟩:∃x:aO,x=[(k,⟨8,aB,vA R i row⟩)]:=⟨_,rfl⟩;refine Tr.mono (dR (kk:=k+1) (V:= .sl k 0 (n+1)) (RH:=RH) oO (by simp[bd,LJ,iM,jS]) (by rw[eRH];exact jB (by simp only[jS,dTt];omega) rfl) ?_) (λ _ _ _ h=>⟨h.1,h.2.1,h.2.2.trans eRH⟩);by_cases hin:i=n
 .subst hin;have eI:vA R i row=R++[row]:=by unfold vA;rw[kG oO,List.drop_eq_nil_of_le oO]
  rw[eI]at eRH;refine cN Tryz.func165 rfl 95 rfl bB ?_;have kp:=gZ k [0,1,2,6,7,8,9,16,22,31,68];refine fC ?_;refine oU ⟨λ ht ht=>zN ?_⟩;refine kJ (zN ?_);refine⟨rfl,?_⟩;rw[eRH];exact fJ gG
 have hI:∀X:List (List AVal),(∀q,X[q]? =(vA R i row)[q]?)->X=vA R i row:=λ X h=>dZ h;have hg:∀q,(vA R i row)[q]? =if q<i then R[q]? else if q=i then aA row else R[q-1]? :=insR_get? oO
 refine cN Tryz.func165 rfl 95 rfl bB ?_;obtain⟨q,hq⟩:∃q:Nat,q=n+1-i:=⟨_,rfl⟩;have e1:aL.wrap ((n:Int)+1)=(n:Int)+1:=wrap_i64 oO oO;have e2:aL.wrap ((i:Int)+1)=(i:Int)+1:=wrap_i64 oO oO;have e3:aL.wrap ((n:Int)+1-(i:Int))=(q:Int):=by rw[wrap_i64 oO oO];omega
 have kp:=gZ k [0,1,2,6,7,8,9,16,22,31,68];have uU:=tZ e1 e2 e3;refine fC ?_;refine oU ⟨λ ht ht=>zN ?_⟩;refine aLP 0 rfl (dV) (λ h=>oO) (λ cap hc1 hc2=>?_);refine fJ ?_;apply zN;refine pP [.raw (aA 30) ⟨.lit (.int .i64 (cap:Int)),k,[],[tk]⟩] ?_;refine iE ?_ ?_;.exact aXB rfl iF rfl (dV)
 refine fC ?_;refine oT (λ ht=>?_) λ ht=>?_
 .obtain⟨X1,eX1⟩:∃X1:List (List AVal),X1=R.take i++bE q ztk:=⟨_,rfl⟩;have hX1:X1.length=n+1:=by rw[eX1];simp;omega
  obtain⟨X2,eX2⟩:∃X2:List (List AVal),X2=gC X1 [row] i:=⟨_,rfl⟩;have hX2:X2.length=n+1:=by rw[eX2,rZ (by simp;omega),hX1]
  have hX3:gC X2 (((R.drop i).take (n-i)).take (n-i)) (i+1)=vA R i row:=hI _ λ p=>by
   rw[hg,setRows_get? oO,List.take_take,Nat.min_self,kG (by simp;omega),aLW,hn];by_cases h1:p<i;.rw[iP oO,iP h1,eX2,setRows_get? oO,iP h1,eX1,dN,iP (by simp;omega),fE,iP h1]
   rw[iN h1];by_cases h2:p=i;.rw[iP oO,iP h2,eX2,setRows_get? oO,iN h1,iP (by simp;omega),h2];simp
   rw[iN oO,iN h2];by_cases h3:p<i+1+(n-i);.rw[iP h3,dW];congr 1;omega
   rw[iN h3,aX oO,aX oO]
  refine pP [.raw (aA 34) ⟨.slc tk 0 i cap,k,[],[tk]⟩,.raw (aA 40) ⟨.sl k 0 (n+1),k+1,[(k,aA ⟨8,aB,X1⟩)],[tk]⟩] ?_;refine jV (zs ?_) (zs ?_) (zs ?_);.exact jX rfl (dV) iF rfl rfl rfl oO oO oO oO oO oO
  .rw[eX1];exact aHL (kn:= .i64) rfl y7 iF rfl (dV) rfl rfl oO oO oO oO (by show 0+i<=R.length;omega) rfl oO rfl
  refine fC ?_;refine cA ?_;refine pP [.raw (aA 45) ⟨.lit (.int .i64 1),k+1,[(k,aA ⟨8,aB,X2⟩)],[k,vb]⟩] ?_;refine iE ?_ ?_;.exact zL (B:=⟨8,aB,X1⟩) 1 rfl y7 rfl (by simp(disch:=omega)only[AM.look,gY,↓reduceIte]) rfl rfl (.sl (B:=⟨8,aB,[row]⟩) (by simp(disch:=omega)only[AM.look,gY,↓reduceIte]) (by show 0+1<=1;omega)) (by simp only[List.drop_zero,List.take_succ_cons,List.take_zero,fU,AA,hone1,iC]) (by show 1=min 1 _;omega) oO (by show i+_<=X1.length;omega) rfl (by rw[eX2];rfl)
  refine fC ?_;refine cA ?_;refine YO [.raw (aA 53) ⟨.slc tk i (n-i) (cap-i),k+1,[],[tk]⟩,.raw (aA 54) ⟨.lit (.int .i64 ((n-i:Nat):Int)),k+1,[(k,aA ⟨8,aB,vA R i row⟩)],[k,tk]⟩] ?_;refine jV (zs ?_) (zs ?_) (zs ?_);.exact jX rfl (dV) iF rfl rfl rfl oO oO oO oO oO oO
  .rw[<-hX3];refine zL (B:=⟨8,aB,X2⟩) (n-i) rfl y7 rfl (by simp(disch:=omega)only[AM.look,gY,↓reduceIte]) rfl rfl (.sl (B:=⟨8,aB,R⟩) (by simp(disch:=omega)only[AM.look,gY,↓reduceIte]) (by show i+(n-i)<=R.length;omega)) ?_ ?_ oO (by show((i:Int)+1).toNat+_<=X2.length;omega) rfl ?_
   .rw[aW]at hone⊢
    exact λ row h=>hone row (List.mem_of_mem_drop (bOU (bOU h)))
   .show n-i=min (n-i) _;omega
   rw[(oO:((i:Int)+1).toNat=i+1)]
  refine fC ?_;refine cA ?_;have uU:=tZ e1 e2 e3;refine kJ (zN ?_);refine⟨rfl,?_⟩;rw[eRH];exact fJ gG
 obtain⟨J,eJ⟩:∃J:List AVal,J=bE 8 .junk:=⟨_,rfl⟩;obtain⟨X1,eX1⟩:∃X1:List (List AVal),X1=R++[J]:=⟨_,rfl⟩;have hX1:X1.length=n+1:=by rw[eX1];simp;omega
 have hX1g:∀p,p<n->X1[p]? =R[p]? :=λ p hp=>by rw[eX1,dN,iP oO]
 obtain⟨X2,eX2⟩:∃X2:List (List AVal),X2=gC X1 (((X1.drop i).take (n+1-i)).take (n-i)) (i+1):=⟨_,rfl⟩;have hl2:(((X1.drop i).take (n+1-i)).take (n-i)).length=n-i:=by simp;omega
 have hX2:X2.length=n+1:=by rw[eX2,rZ (by rw[hl2];omega),hX1]
 have hX3:gC X2 [row] i=vA R i row:=hI _ λ p=>by
  rw[hg,setRows_get? oO];by_cases h1:p<i;.rw[iP h1,iP h1,eX2,setRows_get? oO,iP oO,hX1g p oO]
  rw[iN h1,iN h1];by_cases h2:p=i;.rw[iP (by simp;omega),iP h2,h2];simp
  rw[iN (by simp;omega),iN h2,eX2,setRows_get? oO,iN oO,hl2];by_cases h3:p<i+1+(n-i);.rw[iP h3,fE,iP oO,fE,iP oO,dW,(oO:i+(p-(i+1))=p-1),hX1g (p-1) oO]
  rw[iN h3,aX oO,aX oO]
 have hone2:((((X1.drop i).take (n+1-i)).take (n-i)).all λ row=>row.all AM.one)=aB:=by
  rw[aW]at hone⊢
  intro r hr;obtain⟨p,hp⟩:=oN hr;rw[fE]at hp;split at hp;.rw[fE,iP oO,dW,hX1g _ oO]at hp;exact hone r (iG hp)
  cases hp
 refine pP [.raw (aA 60) ⟨.slc tk 0 (n+1) cap,k,[(tk,aA ⟨8,aB,X1⟩)],[tk]⟩] ?_;refine iE ?_ ?_;.exact aMM (B:=⟨8,aB,R⟩) (e:=1) rfl (dV) iF rfl rfl rfl oO oO oO (by show R.length+1<=0+cap;omega) oO oO oO (by rw[eX1,eJ];rfl)
 refine fC ?_;refine cA ?_;refine pP [.raw (aA 66) ⟨.slc tk (i+1) (n-i) (cap-(i+1)),k,[],[tk]⟩,.raw (aA 67) ⟨.lit (.bool aE),k,[],[vb,tk]⟩] ?_;refine jV (zs ?_) (zs ?_) (zs ?_);.exact jX rfl (dV) iF rfl rfl rfl oO oO oO oO oO oO
 .exact RD (s:=8) (e:=89) (B1:=⟨8,aB,[row]⟩) (B2:=⟨8,aB,X1⟩) rfl rfl rfl rfl rfl rfl rfl rfl iF rfl rfl rfl oO (by simp(disch:=omega)only[AM.look,gY,↓reduceIte]) (dV) oO oO (by show 0<X1.length;omega) (by show 0<8;omega)
 refine fC ?_;refine dI λ ht=>?_;refine YO [.raw (aA 73) ⟨.slc tk (i+1) (n-i) (cap-(i+1)),k,[],[tk]⟩,.raw (aA 76) ⟨.slc tk i (n+1-i) (cap-i),k,[],[tk]⟩,.raw (aA 77) ⟨.lit (.int .i64 ((n-i:Nat):Int)),k,[(tk,aA ⟨8,aB,X2⟩)],[tk,tk]⟩] ?_;refine CM (zs ?_) (zs ?_) (zs ?_) (zs ?_);.exact jX rfl (dV) iF rfl rfl rfl oO oO oO oO oO oO
 .exact jX rfl (dV) iF rfl rfl rfl oO oO oO oO oO oO
 .exact OX (zL (B:=⟨8,aB,X1⟩) (n-i) rfl y7 rfl (by simp(disch:=omega)only[AM.look,gY,↓reduceIte]) rfl rfl (.sl (B:=⟨8,aB,X1⟩) (by simp(disch:=omega)only[AM.look,gY,↓reduceIte]) (by show i+(n+1-i)<=X1.length;omega)) hone2 (by show n-i=min (n+1-i) (n-i);omega) oO (by show i+1+(n-i)<=X1.length;omega) rfl (by rw[eX2]))
 refine fC ?_;refine cA ?_;refine pP [.raw (aA 80) ⟨.slc tk i (n+1-i) (cap-i),k,[],[tk]⟩,.raw (aA 82) ⟨.lit (.int .i64 1),k,[(tk,aA ⟨8,aB,vA R i row⟩)],[tk,vb]⟩] ?_;refine jV (zs ?_) (zs ?_) (zs ?_);.exact jX rfl (dV) iF rfl rfl rfl oO oO oO oO oO oO
 .exact OX (zL (B:=⟨8,aB,X2⟩) 1 rfl y7 rfl (by simp(disch:=omega)only[AM.look,gY,↓reduceIte]) rfl rfl (.sl (B:=⟨8,aB,[row]⟩) (by simp(disch:=omega)only[AM.look,gY,↓reduceIte]) (by show 0+1<=1;omega)) (by simp only[List.drop_zero,List.take_succ_cons,List.take_zero,fU,AA,hone1,iC]) (by show 1=min 1 _;omega) oO (by show i+(n+1-i)<=X2.length;omega) rfl (by rw[<-hX3];rfl))
 refine fC ?_;refine cA ?_;refine gL (tX tk oO) ?_;refine fJ ?_;apply zN;refine gL (NF 6 rfl) ?_;refine fJ ?_;apply zN;have uU:=tZ e1 e2 e3;refine kJ (zN ?_);refine⟨rfl,?_⟩;rw[eRH];exact fJ gG
theorem aJK(x:Int)(n:Nat)(h1:1<=n)(h2:n<=64)(hx:0<=x)(hx2:x<18446744073709551616):Pure aD Γ 160 [.lit (.int .u64 x),n] (decide (x/2^n≠0)):=by
 obtain⟨q,rfl⟩:∃q,n=q+1:=⟨n-1,oO⟩;have e1:aL.wrap ((q:Int)+1-1)=(q:Int):=by rw[wrap_i64 oO oO];omega
 have hp0:0<=x/2^q:=a5D hx (AW oO);have e2:x.fdiv (2^min q 64)=x/2^q:=by rw[(oO:min q 64=q),dU _ (AW oO)]
 have e3:(x/2^q).fdiv (2^min 1 64)=x/2^(q+1):=by rw[show(2:Int)^min 1 64=2 from rfl,dU _ oO,Int.ediv_ediv_of_nonneg (AW oO),Int.pow_succ]
 have e4:((q:Int)<0)=False:=eq_false oO;refine bT Tryz.func160 rfl 11 rfl bB rfl λ k=>?_;have kp:=gZ k [0,1,4];have uU:=DR e1 e2 e3 e4;refine dJ ?_;refine cA ?_;refine bV rfl ⟨_,rfl,bC ?_⟩;simp;rw[bH];simp
theorem a7F(x T:Tk)(t k:Nat)(hk:t<k):Tr aD Γ 164 k [.agg (tkc x),.ptr t 0 0] [(t,⟨8,aB,[tkc T]⟩)] (λ k1 r1 H1=>k1=k/\r1= .lit (.bool (decide (T.id<x.id)))/\H1=[(t,⟨8,aB,[tkc T]⟩)]):=by
 obtain⟨RH,eRH⟩:∃y:aO,y=[(t,⟨8,aB,[tkc T]⟩)]:=⟨_,rfl⟩;refine Tr.mono (dR (kk:=k) (V:= .lit (.bool (decide (T.id<x.id)))) (RH:=RH) oO rfl (by rw[eRH];exact jB (by simp only[jS,dTt];omega) rfl) ?_) (λ _ _ _ h=>⟨h.1,h.2.1,h.2.2.trans eRH⟩);refine cN Tryz.func164 rfl 9 rfl bB ?_;have kp:=gZ k [0,1,2,3];refine dJ ?_;refine cA ?_;refine kJ (zN ?_);refine⟨?_,?_⟩;.first|rfl|simp
 rw[eRH];exact fR gG
def aYO(L:LSt)(id:Int)(p:Nat):Prop:=p<=L.tl.length/\(∀q,q<p->(L.tsk q).id<id)/\∀q,p<=q->q<L.tl.length->id<(L.tsk q).id
theorem a8P(L:LSt)(T:Tk)(p:Nat)(hp:aYO L T.id p)(hnt:L.tl.length<=100000)(r:Int)(hr:r=if p<L.tl.length then(p:Int)else-1)(tk t k:Nat)(hk:tk<k)(hk2:t<k)(hne:tk≠t):
 Tr aD Γ 125 k [.sl tk 0 L.tl.length,.fn 164 [.ptr t 0 0]] [(tk,⟨8,aB,oJ L⟩),(t,⟨8,aB,[tkc T]⟩)]
  (λ k1 r1 H1=>k1=k/\r1= .lit (.int .i64 r)/\H1=[(tk,⟨8,aB,oJ L⟩),(t,⟨8,aB,[tkc T]⟩)]):=by
 obtain⟨RH,eRH⟩:∃y:aO,y=[(tk,⟨8,aB,oJ L⟩),(t,⟨8,aB,[tkc T]⟩)]:=⟨_,rfl⟩;obtain⟨RV,eRV⟩:∃y:AVal,y= .lit (.int .i64 r):=⟨_,rfl⟩;refine Tr.mono (dR (kk:=k) (V:=RV) (RH:=RH) oO (by rw[eRV];rfl) (by rw[eRH];exact jB (by simp only[jS,dTt];omega) (jB (by simp only[jS,dTt];omega) rfl)) ?_) (λ _ _ _ h=>⟨h.1,h.2.1.trans eRV,h.2.2.trans eRH⟩);refine cN Tryz.func125 rfl 19 rfl bB ?_;have kp:=gZ k [0,1,4,5,7,8,9,16];refine dJ ?_;refine cA ?_;refine bY (X:=Nat) rfl [0,1,4,5,7,8,9,16] k (λ i=>[(8,i)]) (λ i=>[(tk,⟨8,aB,oJ L⟩),(t,⟨8,aB,[tkc T]⟩)]) (λ i=>i<=L.tl.length/\i<=p) (λ i=>L.tl.length-i) 0 ?_ ⟨aZ _,aZ _⟩ ?_;.refine fR ?_;apply zN;exact gM
 rintro i ⟨hi,hip⟩;refine fR ?_;apply zN;refine dJ ?_;refine oT (λ ht=>?_) λ ht=>?_
 .refine jR [.gen (.lit (.bool (decide (T.id<(L.tsk i).id)))) k [(t,⟨8,aB,[tkc T]⟩)] [(t,⟨8,aB,[tkc T]⟩)]] ?_;refine iE ?_ ?_;.exact a7F (L.tsk i) T t k hk2
  refine dJ ?_;refine oT (λ ht=>?_) λ ht=>?_
  .have hge:p<=i:=Nat.le_of_not_lt λ h=>by have:=hp.2.1 i h;omega
   refine kJ (zN ?_);refine⟨?_,?_⟩;.rw[eRV,hr,iP oO,(oO:p=i)]
   rw[eRH];exact fR gG
  have hge:i<p:=Nat.lt_of_not_le λ h=>by have:=hp.2.2 i h oO;omega
  refine⟨i+1,⟨oO,oO⟩,oO,?_⟩;refine fR ?_;apply zN;exact gM
 refine kJ (zN ?_);refine⟨?_,?_⟩;.rw[eRV,hr,iN oO]
 rw[eRH];exact fR gG
def LSt.ins (L:LSt)(p:Nat)(T:Tk):LSt:={L with tl:=vA L.tl p T}
theorem aKI{L:LSt}{p:Nat}{T:Tk}(h:p<=L.tl.length):(L.ins p T).tl.length=L.tl.length+1:=aUP h
theorem GL{L:LSt}{p j:Nat}{T:Tk}(h:p<=L.tl.length):(L.ins p T).tsk j=if j<p then L.tsk j else if j=p then T else L.tsk (j-1):=by
 unfold LSt.tsk LSt.ins;simp only[aR,insR_get? h];split;.rfl
 split<;>rfl
theorem a8N{L:LSt}{n p:Nat}{T:Tk}(h:Rt0 L n)(hp:aYO L T.id p)(hT:TkOk L n T)(hl:L.tl.length<1000):Rt0 (L.ins p T) n/\Fwd L (L.ins p T):=by
 obtain⟨p1,p2,p3⟩:=hp;have hlen:=aKI (T:=T) p1;have key:∀x,TkOk L n x->TkOk (L.ins p T) n x:=λ x q=>⟨q.id1,q.id2,q.g0,q.g1,q.c0,q.c1,q.e,q.v0,q.v1,q.r0,q.m0,q.m1,q.m2,q.m3⟩;refine⟨⟨h.n1,h.n64,h.cpus,h.cr0,h.cr,h.ng,h.ns1,h.ns,h.nk,h.nu,h.rows,oO,h.par,h.par0,h.wt,h.clk,h.sp,h.root,λ j hj=>?_,λ a b hab hb=>?_,λ c hc=>?_⟩,⟨rfl,rfl,rfl,λ _=>rfl,λ _=>bR _,λ _ _=>bR _,oO,rfl⟩⟩
 .rw[GL p1];split;.exact key _ (h.tk j oO)
  split;.exact key _ hT
  exact key _ (h.tk (j-1) oO)
 .rw[GL p1,GL p1];by_cases a1:a<p
  .rw[iP a1];by_cases b1:b<p;.rw[iP b1];exact h.sorted a b hab oO
   rw[iN b1];split;.exact p2 a a1
   exact h.sorted a (b-1) oO oO
  rw[iN a1,iN (oO:¬b<p),iN (oO:¬b=p)];split;.exact p3 (b-1) oO oO
  exact h.sorted (a-1) (b-1) oO oO
 rcases h.cur c hc with h0|⟨j,h1,h2,h3,h4⟩;.exact .inl h0
 refine .inr ?_;by_cases e:j<p;.exact⟨j,oO,by rw[GL p1,iP e];exact⟨h2,h3,h4⟩⟩
 refine⟨j+1,oO,?_⟩;rw[GL p1,iN oO,iN oO,(oO:j+1-1=j)];exact⟨h2,h3,h4⟩
theorem aUO{α β:Type}(f:α->β)(l:List α)(p:Nat)(x:α):(vA l p x).map f=vA (l.map f) p (f x):=by simp[vA,List.map_take,List.map_drop]
theorem bAP{m tk p:Nat}{L:LSt}{T:Tk}(hp:p<=L.tl.length):MH m tk (L.ins p T)=(m,⟨8,aE,[[L.cpus,.lit (.int .u64 L.credit),.sl (m+1) 0 L.gl.length,.sl (m+2) 0 L.kl.length,.sl (m+3) 0 L.ul.length,.sl tk 0 (L.tl.length+1),.sl (m+5) 0 L.sl.length,aB]]⟩)::(m+1,⟨2,aB,QT L⟩)::(m+2,⟨1,aB,RG L⟩)::(m+3,⟨1,aB,KW L⟩)::(m+5,⟨1,aE,GD m L⟩)::(tk,⟨8,aB,vA (oJ L) p (tkc T)⟩)::mE (m+6) 3 L.sl.length (BB L):=by rw[MH,LH,fG,aKI hp,oJ];have e:((L.ins p T).tl.map tkc)=vA (oJ L) p (tkc T):=aUO tkc L.tl p T;rw[e];rfl
theorem aSL{L:LSt}{id:Int}(hso:zZ L)(hno:∀i,i<L.tl.length->(L.tsk i).id≠id):∃p,aYO L id p:=by obtain⟨p,h1,h2,h3⟩:=aEI L hso id;exact⟨p,h1,h2,λ q hq hq2=>by have:=h3 q hq hq2;have:=hno q hq2;omega⟩
end Go.Proofs.T
end
