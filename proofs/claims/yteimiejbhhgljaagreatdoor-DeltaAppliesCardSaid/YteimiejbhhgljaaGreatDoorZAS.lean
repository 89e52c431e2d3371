import Derived.Test.YteimiejbhhgljaaGreatDoorZAR
import Derived.Shelf.Strconv.Itoa3
import Derived.Shelf.Strconv.AtoiAll
import Derived.Shelf.Strings.Split
import Derived.Shelf.Strings.Cut
import Derived.Shelf.Strings.Search3
import Derived.Shelf.Pu.ParseUintPublic10
import Derived.Test.YteimiejbhhgljaaGreatDoorProg
import Derived.Lib.Walk
import Derived.Lib.ItoaMem
import Derived.WalkKit
import Derived.BigCall
import Derived.BigGuard
import Derived.KernelRfl
import Derived.Lib.ParseIntB
set_option linter.unusedVariables false
set_option linter.unusedSimpArgs false
set_option maxHeartbeats 0
set_option maxRecDepth 100000
open Array renaming ext->aFB,ext'->bAQ,replicate->vL,size_replicate->aAD
open Bool renaming and_eq_false_iff->iA,and_eq_true->aC,and_self->a0W,and_true->qO,eq_false_iff->dS,eq_iff_iff->aY,not_eq_false'->dH,or_eq_false_iff->fQ,true_and->kQ,true_or->yV
open Int renaming ediv_nonneg->PJ,fdiv_eq_ediv_of_nonneg->dL,le_refl->fA,pow_nonneg->qN,toNat_natCast->gX
open Go.IntKind renaming i64->aN,u32->jF
open List renaming all_cons->hY,all_eq_true->aW,append_eq_nil_iff->vW,eq_nil_of_length_eq_zero->fL,getD_eq_getElem?_getD->bD,getElem_mem->bKH,map->jL,map_append->aH,map_cons->bG,map_map->jD,map_nil->aV,mem_map->cL,mem_range->dO,nil_append->cN,range->aM,range_succ->CI
open Nat renaming add_assoc->fS,add_sub_cancel->rN,add_sub_cancel_left->iW,beq->sD,eq_of_beq_eq_true->bZ,le_of_ble_eq_true->qU,le_refl->aF,le_succ->PH,lt_irrefl->tC,lt_succ_iff_lt_or_eq->iM,lt_succ_self->dC,lt_trichotomy->mH,mul_one->bAM,not_lt_zero->bJ,sub_self->PG,zero_le->aJ
open Option renaming isSome_iff_exists->fK,map_eq_some_iff->aB,some->mB
open Go.Result renaming andThen_ok->bI
open Go.Sem renaming run_bind->bO,run_pure->dP
open Go.Proofs.Tryz renaming isAgg189->FN,isAgg3->PF,isAgg4->aME,isAgg5->aMD,isAgg50->PE,isAgg9->aMC,prog->aA,sizeOf0->bFT,sizeOf189->zH,sizeOf3->DR,sizeOf4->PD,sizeOf5->PC,sizeOf50->FM,sizeOf9->PB,underlying0->HP,underlying189->oB,underlying216->a0P,underlying22->iL,underlying238->a0O,underlying3->dB,underlying333->JY,underlying353->a0N,underlying355->a0M,underlying4->lW,underlying5->oR,underlying50->jB,underlying9->kC,zeroValue0->PA,zeroValue189->pU,zeroValue22->aHN,zeroValue3->qT,zeroValue4->vI,zeroValue5->vH,zeroValue50->rZ,zeroValue9->vG
open Go.Value renaming int->bC
section
namespace Go.Proofs.T
open Go Go.AM Go.Proofs
theorem aHJ{o:Option Mb}{y:Mb}{P:Int->Prop}(h:OMin (o.map (·.v)) P):OMin ((NR o y).map (·.v)) (λ x=>P x\/x=y.v):=by
 cases o with
 |none=>
  refine⟨.inr rfl,λ x hx=>?_⟩;rcases hx with hx|hx;.exact absurd hx (h x)
  rw[hx];exact fA _
 |some b=>
  obtain⟨h1,h2⟩:=h;have h1:P b.v:=h1;have h2:∀x,P x->b.v<=x:=h2;simp only[NR];by_cases hl:aKA y b=true
  .rw[if_pos hl];simp only[aKA,dTt]at hl;refine⟨.inr rfl,λ x hx=>?_⟩;show y.v<=x;rcases hx with hx|hx;.have:=h2 x hx;omega
   omega
  rw[if_neg hl];simp only[aKA,dTt]at hl;refine⟨.inl h1,λ x hx=>?_⟩;show b.v<=x;rcases hx with hx|hx;.exact h2 x hx
  omega
theorem aQO{L:LSt}{g c:Nat}(hk:FloorOk L.st):∀i,i<=L.tl.length->OMin ((lT L g c i).map (·.v)) (λ x=>∃j,j<i/\sN L.st c j=true/\(L.st.tsk j).group.toNat=g/\x=(L.st.tsk j).v)
 |0,_=>λ x ⟨j,h,_⟩=>absurd h (bJ _)
 |i+1,hi=>by
  have ih:=aQO (g:=g) (c:=c) hk i oO;have hgp:0<=(L.tsk i).group/\(L.tsk i).group<L.sl.length:=hk.grp i (by show i<L.tl.length;omega);rw[lT];by_cases ht:GB L g c i=true
  .rw[if_pos ht];obtain⟨t1,t2,t3⟩:=takes_iff.1 ht;refine(aHJ ih).congr λ x=>⟨?_,?_⟩
   .rintro(⟨j,h1,h2⟩|h1);.exact⟨j,oO,h2⟩
    refine⟨i,oO,?_,?_,h1⟩;.simp only[sN,aC,dTt];exact⟨t1,t3⟩
    show(L.tsk i).group.toNat=g;omega
   rintro⟨j,h1,h2,h3,h4⟩;by_cases e:j=i;.subst e;exact .inr h4
   exact .inl ⟨j,oO,h2,h3,h4⟩
  rw[if_neg ht];refine ih.congr λ x=>⟨λ⟨j,h1,h2⟩=>⟨j,oO,h2⟩,?_⟩;rintro⟨j,h1,h2,h3,h4⟩;by_cases e:j=i;.subst e;refine absurd (takes_iff.2 ?_) ht;simp only[sN,aC,dTt]at h2;have h3':(L.tsk j).group.toNat=g:=h3;exact⟨h2.1,oO,h2.2⟩
  exact⟨j,oO,h2,h3,h4⟩
theorem aQP{L:LSt}{F:Nat->Option Mb}{g c:Nat}(hk:FloorOk L.st):∀i,OMin ((lS L F g c i).map (·.v)) (λ x=>(∃j,j<L.tl.length/\sN L.st c j=true/\(L.st.tsk j).group.toNat=g/\x=(L.st.tsk j).v)\/∃h,g<h/\h<g+1+i/\L.par h=g/\(F h).isSome=true/\x=(L.sp h c).v)
 |0=>(aQO hk L.tl.length (aF _)).congr λ x=>⟨.inl,λ hx=>hx.elim id λ⟨h,h1,h2,_⟩=>oO⟩
 |i+1=>by
  have ih:=aQP (F:=F) (g:=g) (c:=c) hk i;rw[lS];by_cases ht:L.par (g+1+i)=g/\(F (g+1+i)).isSome=true
  .rw[if_pos ht];refine(aHJ ih).congr λ x=>⟨?_,?_⟩
   .rintro((h|⟨h,h1,h2,h3⟩)|h);.exact .inl h
    .exact .inr ⟨h,h1,oO,h3⟩
    exact .inr ⟨g+1+i,oO,oO,ht.1,ht.2,h⟩
   rintro(h|⟨h,h1,h2,h3,h4,h5⟩);.exact .inl (.inl h)
   by_cases e:h=g+1+i;.subst e;exact .inr h5
   exact .inl (.inr ⟨h,h1,oO,h3,h4,h5⟩)
  rw[if_neg ht];refine ih.congr λ x=>⟨?_,?_⟩
  .rintro(h|⟨h,h1,h2,h3⟩);.exact .inl h
   exact .inr ⟨h,h1,oO,h3⟩
  rintro(h|⟨h,h1,h2,h3,h4,h5⟩);.exact .inl h
  by_cases e:h=g+1+i;.subst e;exact absurd ⟨h3,h4⟩ ht
  exact .inr ⟨h,h1,oO,h3,h4,h5⟩
theorem LY{L:LSt}(hk:FloorOk L.st)(c:Nat):∀f g,g<L.sl.length->L.sl.length-g<=f->OMin ((pZ L f g c).map (·.v)) (aKI L.st c (L.sl.length-1-g) g)
 |0,g,hg,hf=>oO
 |f+1,g,hg,hf=>by
  have ih:=LY hk c f;rw[pZ];refine(aQP hk _).congr λ x=>?_;have hpar:∀h,0<h->h<L.sl.length->0<=L.par h/\L.par h<h:=λ h h1 h2=>hk.par h h1 h2;have sub:∀h,g<h->h<L.sl.length->((pZ L f h c).isSome=true↔(dF L.st c (L.sl.length-1-h) h).isSome=true):=λ h h1 h2=>by have e1:=(ih h h2 oO).some_iff;have e2:=(MZ L.st c h (L.sl.length-1-h)).some_iff;rw[e2,<-e1,Option.isSome_map]
  unfold aKI;constructor
  .rintro(h|⟨h,h1,h2,h3,h4,h5⟩);.exact .inl h
   have e:L.sl.length-1-(L.sl.length-1-h)=h:=oO;refine .inr ⟨L.sl.length-1-h,oO,?_,?_,?_,?_⟩;.show 0<L.sl.length-1-(L.sl.length-1-h);omega
   .show(dF L.st c (L.sl.length-1-h) (L.sl.length-1-(L.sl.length-1-h))).isSome=true;rw[e];exact(sub h h1 oO).1 h4
   .show(L.par (L.sl.length-1-(L.sl.length-1-h))).toNat=g;rw[e];omega
   show x=(L.sp (L.sl.length-1-(L.sl.length-1-h)) c).v;rw[e];exact h5
  rintro(h|⟨q,hq,h1,h2,h3,h4⟩);.exact .inl h
  obtain⟨h,eh⟩:∃h,h=L.sl.length-1-q:=⟨_,rfl⟩;have h1:0<L.sl.length-1-q:=h1;have h2:(dF L.st c q (L.sl.length-1-q)).isSome=true:=h2;have h3:(L.par (L.sl.length-1-q)).toNat=g:=h3;have h4:x=(L.sp (L.sl.length-1-q) c).v:=h4;rw[<-eh]at h1 h2 h3 h4;have hq':q=L.sl.length-1-h:=oO;rw[hq']at h2;have hp:=hpar h h1 oO;have hgh:g<h:=oO;exact .inr ⟨h,hgh,oO,oO,(sub h hgh oO).2 h2,h4⟩
theorem OMin.unique {o q:Option Int}{P:Int->Prop}(h:OMin o P)(g:OMin q P):o=q:=by
 cases o with
 |none=>
  cases q with
  |none=>rfl
  |some b=>exact absurd g.1 (h b)
 |some a=>
  cases q with
  |none=>exact absurd h.1 (g a)
  |some b=>have:=h.2 b g.1;have:=g.2 a h.1;congr 1;omega
theorem a3Q{L:LSt}(hk:FloorOk L.st){g c:Nat}(hg:g<L.sl.length):(lst L g c).map (·.v)=dF L.st c (L.sl.length-1-g) g:=
 (LY hk c _ g hg oO).unique (MZ L.st c g _)
def aKU(L:LSt)(g c:Nat):List Flt:=match lst L g c with
 |none=>[]
 |some x=>gJ (decide ((L.sp g c).floor<x.v)) ⟨14,(g:Int),(c:Int)⟩
theorem aYH{L:LSt}(hk:FloorOk L.st){g c:Nat}(hg:g<L.sl.length):kV L.st g c=aKU L g c:=by
 rw[<-YO L.st hk g c hg];have e:L.st.ns-1-(L.st.ns-1-g)=g:=by show L.sl.length-1-(L.sl.length-1-g)=g;omega
 unfold rE;rw[e];unfold DY;have h:=a3Q hk hg (c:=c);have h':dF L.st c (L.st.ns-1-g) g=(lst L g c).map (·.v):=h.symm;rw[h'];unfold aKU
 cases lst L g c with
 |none=>rfl
 |some x=>rfl
theorem flats_nil_iff{f:Nat->List Flt}:∀ {n:Nat},bF f n=[]↔∀i,i<n->f i=[]
 |0=>⟨λ _ i h=>absurd h (bJ _),λ _=>rfl⟩
 |n+1=>by
  rw[bF,vW,flats_nil_iff];constructor
  .rintro⟨h1,h2⟩ i hi;by_cases e:i=n;.rw[e];exact h2
   exact h1 i oO
  exact λ h=>⟨λ i hi=>h i oO,h n oO⟩
theorem Rt0.floorOk {L:LSt}{n:Nat}(h:Rt0 L n)(h12:L.sl.length<=12):FloorOk L.st:=
 ⟨λ i hi=>⟨(h.tk i hi).g0,(h.tk i hi).g1⟩,λ g h1 h2=>h.par g h1 h2,λ g hg=>by show((L.sl.getD g []).length:Int)=L.cpus;rw[h.rows g hg,h.cpus],by show L.sl.length<=L.gl.length;rw[h.ng];exact aF _,
  by show 0<=L.cpus;rw[h.cpus];omega,by show L.cpus<=64;rw[h.cpus];have:=h.n64;omega,h12⟩
theorem xG{α:Type}{l:List α}{i:Nat}{d:α}(h:l.length<=i):l.getD i d=d:=by simp[List.getD,h]
theorem Rt0.sp_all {L:LSt}{n:Nat}(h:Rt0 L n)(g c:Nat):0<=(L.sp g c).v/\(L.sp g c).v<=18446744073709551615/\0<=(L.sp g c).r:=by
 by_cases hg:g<L.sl.length
 .by_cases hc:c<n;.have:=h.sp g c hg hc;exact⟨this.2.1,this.2.2.1,this.2.2.2.1⟩
  have e:L.sp g c=default:=by unfold LSt.sp;exact xG (by rw[h.rows g hg];omega)
  rw[e];exact⟨fA _,by show(0:Int)<=_;omega,fA _⟩
 have e:L.sp g c=default:=by unfold LSt.sp;rw[xG (l:=L.sl) oO];rfl
 rw[e];exact⟨fA _,by show(0:Int)<=_;omega,fA _⟩
theorem Rt0.tk_all {L:LSt}{n:Nat}(h:Rt0 L n)(i:Nat):0<=(L.tsk i).mask/\(L.tsk i).mask<18446744073709551616/\(L.tsk i).v<=18446744073709551615/\0<=(L.tsk i).r:=by
 by_cases hi:i<L.tl.length;.have:=h.tk i hi;exact⟨this.m0,this.m1,this.v1,this.r0⟩
 have e:L.tsk i=default:=by unfold LSt.tsk;exact xG oO
 rw[e];exact⟨fA _,by show(0:Int)<_;omega,by show(0:Int)<=_;omega,fA _⟩
theorem Rt0.kinds {L:LSt}{n:Nat}(h:Rt0 L n):Kinds L.st:=
 ⟨⟨λ i=>(h.tk_all i).1,λ i=>(h.tk_all i).2.1,λ i=>(h.tk_all i).2.2.1,λ i=>(h.tk_all i).2.2.2,λ g c=>(h.sp_all g c).2.1,λ g c=>(h.sp_all g c).2.2⟩,λ g c=>(h.sp_all g c).1⟩
theorem Rt0.brk_no {L:LSt}{n:Nat}(h:Rt0 L n){i:Nat}(hi:i<L.tl.length)(r:Int):VZ L.st i r=false:=by
 have t:=h.tk i hi;have hc:=h.cpus;have hn:=h.n64;have hon:onB L.st i=true:=by simp only[onB,dTt];exact⟨t.c0,by show(L.tsk i).cpu<L.cpus;rw[hc];exact t.c1⟩
 unfold VZ;split
 .simp only[t4,iA,dFn];by_cases h0:0<(i:Int);.right;have:=h.sorted (i-1) i oO hi;show ¬(L.tsk i).id<=(L.tsk (i-1)).id;omega
  exact .inl h0
 split;.simp only[t5,dFn];show ¬((L.tsk i).id<1\/65535<(L.tsk i).id);have:=t.id1;have:=t.id2;omega
 split;.simp only[t6,dFn];show ¬((L.tsk i).group<0\/(L.gl.length:Int)<=(L.tsk i).group);have:=t.g0;have:=t.g1;have:=h.ng;omega
 split;.simp only[t7,hon];rfl
 split;.rw[<-aNE L.st h.kinds.wf i (by show 0<=L.cpus;omega) (by show L.cpus<=64;omega)];simp only[t8,iA,dFn];right;show ¬0<shr (L.tsk i).mask L.cpus;rw[shr,hc,(oO:min ((n:Int).toNat) 64=n),dL _ (qN oO),t.m2];omega
 split;.simp only[r9,hon,kQ,dH];show tA (L.tsk i).mask (L.tsk i).cpu.toNat=true;simp only[tA,dTt];exact t.m3
 simp only[t10,dH];exact t.e
theorem Rt0.parts_nil {L:LSt}{n:Nat}(h:Rt0 L n):jG L.st=[]:=by
 have hc:=h.cpus;unfold jG;have e1:bF (gO L.st) L.st.nk=[]:=flats_nil_iff.2 λ c hcc=>by have hcc:c<L.kl.length:=hcc;have:=h.clk c (by rw[h.nk]at hcc;exact hcc);unfold gO;rw[mA,dFn];show ¬(L.clk c<0\/281474976710656<L.clk c);omega
 have e2:bF (AR L.st) 7=[]:=flats_nil_iff.2 λ r _=>flats_nil_iff.2 λ i hi=>by unfold oJ;rw[mA];exact h.brk_no hi _
 have e3:bF (vB L.st) L.st.ns=[]:=flats_nil_iff.2 λ g hg=>by
  have hg:g<L.sl.length:=hg;unfold vB;split;.rfl
  refine flats_nil_iff.2 λ c hcc=>?_;have hcc:c<(L.sl.getD g []).length:=hcc;rw[h.rows g hg]at hcc;unfold qX;rw[mA,dH];exact(h.sp g c hg hcc).1
 have hcn:L.st.cpus.toNat=n:=by show L.cpus.toNat=n;omega
 have e4:bF (kG L.st) L.st.cpus.toNat=[]:=flats_nil_iff.2 λ c hcc=>by rw[hcn]at hcc;have:=h.root c hcc;unfold kG;rw[mA,dFn];show ¬(0<(L.sp 0 c).v\/0<(L.sp 0 c).r);omega
 have e5:bF (lO L.st) L.st.cpus.toNat=[]:=flats_nil_iff.2 λ c hcc=>by
  rw[hcn]at hcc;unfold lO;rw[mA];show(decide (L.cur c≠0)&& !(jI (fO L.st (L.cur c) c) L.tl.length))=false;rcases h.cur c hcc with h0|⟨j,h1,h2,h3,h4⟩;.simp[h0]
  have:jI (fO L.st (L.cur c) c) L.tl.length=true:=anyB_iff.2 ⟨j,h1,by simp only[fO,aC,dTt];exact⟨h4,h2,h3⟩⟩
  rw[this];simp
 rw[e1,e2,e3,e4,e5];rfl
def bGC(L:LSt)(n:Nat):Prop:=∀g c,g<L.sl.length->c<n->∀x,lst L g c=some x->x.v<=(L.sp g c).floor
theorem aCP{L:LSt}{n:Nat}(h:Rt0 L n)(h12:L.sl.length<=12):nX L.st=bF (λ g=>bF (aKU L g) n) L.sl.length:=by unfold nX;refine nA λ g hg=>?_;have hg:g<L.sl.length:=hg;unfold EP;rw[show L.st.cpus.toNat=n by show L.cpus.toNat=n;have:=h.cpus;omega];exact nA λ c _=>aYH (h.floorOk h12) hg
theorem flrL_nil{L:LSt}{g c:Nat}:aKU L g c=[]↔∀x,lst L g c=some x->x.v<=(L.sp g c).floor:=by
 unfold aKU
 cases lst L g c with
 |none=>simp
 |some x=>
  simp only[mA,dFn,mB.injEq];constructor;.rintro h y rfl;omega
  intro h;have:=h x rfl;omega
theorem Rt0.shapes_nil {L:LSt}{n:Nat}(h:Rt0 L n):fZ L.st=[]:=by
 have hc:=h.cpus;have h1:(L.st.nk:Int)=L.st.cpus:=by show(L.kl.length:Int)=L.cpus;rw[h.nk,hc]
 have h2:(L.st.nu:Int)=L.st.cpus:=by show(L.ul.length:Int)=L.cpus;rw[h.nu,hc]
 have h3:L.st.ns=L.st.ng:=h.ng.symm;unfold fZ;rw[if_neg (λ e=>e h1),if_neg (λ e=>e h2),if_neg (λ e=>e h3)];simp only[cN];refine flats_nil_iff.2 λ g hg=>?_;have hg:g<L.sl.length:=hg;unfold gY;rw[if_pos];show((L.sl.getD g []).length:Int)=L.cpus;rw[h.rows g hg,hc]
theorem Rt0.check {L:LSt}{n:Nat}(h:Rt0 L n)(h12:L.sl.length<=12)(hr:gE L.st=true):bW L.st=bF (λ g=>bF (aKU L g) n) L.sl.length:=by unfold bW;rw[if_neg (by rw[hr];simp),h.shapes_nil,h.parts_nil,if_neg sS,if_neg sS];exact aCP h h12
theorem aTE{L:LSt}{n:Nat}(h:Rt0 L n)(hf:bGC L n)(h12:L.sl.length<=12)(hr:gE L.st=true):bW L.st=[]:=by rw[h.check h12 hr];exact flats_nil_iff.2 λ g hg=>flats_nil_iff.2 λ c hc=>flrL_nil.2 (hf g c hg hc)
end Go.Proofs.T
end
section
namespace Go.Proofs.T
open Go Go.AM Go.Proofs
variable{Γ:List (Nat×List AVal)}
def SpP(s:St)(n g c:Nat):Prop:=yP (s.sp g c).v (s.sp g c).r (s.wt g)=true/\(g=0->(s.sp g c).v=0/\(s.sp g c).r=0)
structure ShP (s:St) (n:Nat):Prop where
 nk:s.nk=n
 nu:s.nu=n
 ns:s.ns=s.ng
 ck:∀i,i<s.nk->ckB s i=false
 sp:∀g,g<s.ns->s.nsp g=n/\∀c,c<n->SpP s n g c
 tk:∀i,i<s.nt->(0<i->(s.tsk (i-1)).id<(s.tsk i).id)/\TC s n (s.tsk i)=true
theorem ZR{p:Nat->Bool}:∀ {n:Nat},jI p n=false->∀i,i<n->p i=false
 |0,_,i,hi=>absurd hi (bJ _)
 |n+1,h,i,hi=>by
  rw[jI,fQ]at h;rcases iM.1 hi with h'|rfl;.exact ZR h.1 i h'
  exact h.2
theorem aXA(s:St)(hs:s.Small)(hk:Kinds s)(n:Nat)(h1:1<=n)(h2:n<=64)(hc:s.cpus=n)(hm:oN s=true)(hwt:∀g,g<s.ng->1<=s.wt g/\s.wt g<=65536)(b:Bool)(hb:b=true↔ShP s n):
 AM.Pure aA Γ 75 [.agg s.cells] b:=by
 obtain⟨hng,hnk,hnu,hnt,hns,hnsp⟩:=id hs
 have hno:¬ShP s n->b=false:=λ h=>by
  cases hb':b with
  |false=>rfl
  |true=>exact absurd (hb.1 hb') h
 have hrc:=zU (UL Γ) s;rw[hm]at hrc;have hca:=a9X s s.nk hnk (Γ:=Γ);refine aZ Tryz.func75 rfl 123 rfl bB rfl λ k=>?_;have kp:=fI k [0,1,2,3,4,6,7,8,40,43,45,46,47,48,57,58,59,60,61,91,95,96,97,98,121];refine wl ?_;refine aU (zs ?_);refine cl [.ret true] ?_;refine DT (zs ?_) ⟨⟨λ hg hg=>⟨?_⟩⟩⟩ ⟨⟨λ hg hg=>⟨?_⟩⟩⟩ ⟨⟨λ hg=>⟨?_⟩⟩⟩;all_goals(try exact hrc)
 .refine wl ?_;refine dD ⟨λ ht=>zN ?_⟩ ⟨λ ht=>zN ?_⟩
  .have hbf:=hno λ h=>by have:=h.ns;omega
   subst hbf;refine aX rfl ⟨_,rfl,aK _⟩
  refine cl [.ret (jI (ckB s) s.nk)] ?_;refine aU (zs ?_);all_goals(try exact hca)
  have hnn:s.nk=n:=oO;have hsg:s.ns=s.ng:=oO
  cases hck:jI (ckB s) s.nk with
  |true=>
   have hbf:=hno λ h=>by have:=rI h.ck;rw[hck]at this;cases this
   subst hbf;have uU:= @hck;refine wl ?_;refine aU ⟨λ ht=>zN ?_⟩;refine aX rfl ⟨_,rfl,aK _⟩
  |false=>
   have uU:= @hck;refine wl ?_;refine aU ⟨λ ht=>zN ?_⟩;refine bE (X:=Nat) rfl [0,1,2,3,4,6,7,8,40,43,45,46,47,48,57,58,59,60,61,91,95,96,97,98,121] (k+1) (λ g=>[(47,g)]) (λ g=>[(k,⟨7,true,[s.cells]⟩)]) (λ g=>g<=s.ns/\∀g',g'<g->s.nsp g'=n/\∀c,c<n->SpP s n g' c) (λ g=>s.ns-g) 0 ?_ ⟨aJ _,λ g' h=>absurd h (bJ _)⟩ ?_;.have uU:=Go.AM.uU;refine rR ?_;apply zN;exact fW
   rintro g ⟨hg1,hall⟩;have uU:=Go.AM.uU;refine rR ?_;apply zN;by_cases hgn:g<s.ns
   .have hw:=hwt g oO;have hsp:=hnsp g hgn;refine wl ?_;refine dD ⟨λ ht ht=>zN ?_⟩ ⟨λ ht ht=>zN ?_⟩;.have hbf:=hno λ h=>ht (by rw[(h.sp g hgn).1,hc]);subst hbf;refine aX rfl ⟨_,rfl,aK _⟩
    have hpn:s.nsp g=n:=oO;refine bE (X:=Nat) rfl [0,1,2,3,4,6,7,8,40,43,45,46,47,48,57,58,59,60,61,91,95,96,97,98,121] (k+1) (λ c=>[(60,c)]) (λ c=>[(k,⟨7,true,[s.cells]⟩)]) (λ c=>c<=s.nsp g/\∀c',c'<c->SpP s n g c') (λ c=>s.nsp g-c) 0 ?_ ⟨aJ _,λ c' h=>absurd h (bJ _)⟩ ?_;.refine rR ?_;apply zN;exact fW
    rintro c ⟨hc1,hal⟩;refine rR ?_;apply zN;by_cases hcn:c<s.nsp g
    .have he:=TG (s.sp g c).v (s.sp g c).r (s.wt g) oO oO (Γ:=Γ);have hch:=vV (s.sp g c).v (s.sp g c).r (s.wt g) oO oO (Γ:=Γ);have hwr:jF.wrap (s.wt g)=s.wt g:=wrap_u32 oO oO;have uU:= @hwr;refine wl ?_;refine aU ⟨λ ht=>zN ?_⟩;refine dl [.ret (qS (s.sp g c).v (s.sp g c).r (s.wt g)),.ret (yP (s.sp g c).v (s.sp g c).r (s.wt g))] ?_;refine DT ⟨⟨λ hg hg hg=>⟨?_⟩⟩⟩ ⟨⟨λ hg hg hg=>⟨?_⟩⟩⟩ ⟨⟨λ hg hg=>⟨?_⟩⟩⟩ ⟨⟨λ hg=>⟨?_⟩⟩⟩;all_goals(try(first|exact he|exact hch))
     .refine wl ?_;refine dD ⟨λ ht=>zN ?_⟩ ⟨λ ht=>zN ?_⟩
      .have hbf:=hno λ h=>by have:=((h.sp g hgn).2 c oO).2 oO;omega
       subst hbf;refine aX rfl ⟨_,rfl,aK _⟩
      refine⟨c+1,⟨oO,λ c' hc'=>?_⟩,oO,?_⟩
      .rcases iM.1 hc' with h|rfl;.exact hal c' h
       exact⟨by assumption,λ _=>⟨oO,oO⟩⟩
      refine rR ?_;apply zN;(have uU:= @hwr;exact oZ)
     .have hbf:=hno λ h=>by have:=((h.sp g hgn).2 c oO).2 oO;omega
      subst hbf;refine wl ?_;refine aU ⟨λ ht=>zN ?_⟩;refine aX rfl ⟨_,rfl,aK _⟩
     .refine wl ?_;refine aU ⟨λ ht=>zN ?_⟩;refine⟨c+1,⟨oO,λ c' hc'=>?_⟩,oO,?_⟩
      .rcases iM.1 hc' with h|rfl;.exact hal c' h
       exact⟨by assumption,λ h=>absurd h oO⟩
      refine rR ?_;apply zN;(have uU:= @hwr;exact oZ)
     have hbf:=hno λ h=>by have:=((h.sp g hgn).2 c oO).1;rw[hg]at this;cases this
     subst hbf;refine wl ?_;refine aU ⟨λ ht=>zN ?_⟩;refine aX rfl ⟨_,rfl,aK _⟩
    have hcn:c=s.nsp g:=oO;subst hcn;refine wl ?_;refine aU ⟨λ ht=>zN ?_⟩;refine⟨g+1,⟨oO,λ g' hg'=>?_⟩,oO,?_⟩
    .rcases iM.1 hg' with h|rfl;.exact hall g' h
     exact⟨hpn,λ c hc=>hal c oO⟩
    refine rR ?_;apply zN;exact fW
   have hgn:g=s.ns:=oO;subst hgn;refine wl ?_;refine aU ⟨λ ht=>zN ?_⟩;refine bE (X:=Nat) rfl [0,1,2,3,4,6,7,8,40,43,45,46,47,48,57,58,59,60,61,91,95,96,97,98,121] (k+1) (λ i=>[(97,i)]) (λ i=>[(k,⟨7,true,[s.cells]⟩)]) (λ i=>i<=s.nt/\∀j,j<i->(0<j->(s.tsk (j-1)).id<(s.tsk j).id)/\TC s n (s.tsk j)=true) (λ i=>s.nt-i) 0 ?_ ⟨aJ _,λ j h=>absurd h (bJ _)⟩ ?_;.refine rR ?_;apply zN;exact fW
   rintro i ⟨hi1,hti⟩;refine rR ?_;apply zN;by_cases hin:i<s.nt
   .have hrt:=aJI s (s.tsk i) n h1 h2 hc (hk.wf.mask0 i) (hk.wf.mask1 i) hns (Γ:=Γ);simp only[tkc]at hrt;refine wl ?_;refine aU ⟨λ ht=>zN ?_⟩
    cases hok:TC s n (s.tsk i)with
    |false=>
     have hbf:=hno λ h=>by have:=(h.tk i hin).2;rw[hok]at this;cases this
     subst hbf;rw[hok]at hrt;rcases i with _|j
     .skip
      refine dl [.ret false] ?_;refine dD (zs ?_) (zs ?_);all_goals(try exact hrt)
      refine wl ?_;refine aU ⟨λ ht=>zN ?_⟩;refine aX rfl ⟨_,rfl,aK _⟩
     have hj1:aN.wrap ((j:Int)+1-1)=(j:Int):=by rw[(oO:(j:Int)+1-1=j)];exact wrap_i64 oO oO
     have hj2:(0:Int)<(j:Int)+1:=oO;have hj3:j<s.nt:=oO;have uU:=AW @hj1 @hj2 @hj3;refine dl [.ret false] ?_;refine wM ⟨⟨λ hg=>⟨?_⟩⟩⟩ ⟨⟨λ hg=>⟨?_⟩⟩⟩ ⟨⟨λ hg=>⟨?_⟩⟩⟩;all_goals(try exact hrt)
     .refine wl ?_;refine aU ⟨λ ht=>zN ?_⟩;refine aX rfl ⟨_,rfl,aK _⟩
     refine wl ?_;refine aU ⟨λ ht=>zN ?_⟩;refine aX rfl ⟨_,rfl,aK _⟩
    |true=>
     rw[hok]at hrt;rcases i with _|j
     .skip
      refine dl [.ret true] ?_;refine dD (zs ?_) (zs ?_);all_goals(try exact hrt)
      refine wl ?_;refine aU ⟨λ ht=>zN ?_⟩;refine⟨0+1,⟨oO,λ j' hj'=>?_⟩,oO,?_⟩;.obtain rfl:j'=0:=oO;exact⟨λ h=>absurd h (tC _),hok⟩
      refine rR ?_;apply zN;exact fW
     have hj1:aN.wrap ((j:Int)+1-1)=(j:Int):=by rw[(oO:(j:Int)+1-1=j)];exact wrap_i64 oO oO
     have hj2:(0:Int)<(j:Int)+1:=oO;have hj3:j<s.nt:=oO;have uU:=AW @hj1 @hj2 @hj3;refine dl [.ret true] ?_;refine wM ⟨⟨λ hg=>⟨?_⟩⟩⟩ ⟨⟨λ hg=>⟨?_⟩⟩⟩ ⟨⟨λ hg=>⟨?_⟩⟩⟩;all_goals(try exact hrt)
     .refine wl ?_;refine aU ⟨λ ht=>zN ?_⟩;refine⟨j+1+1,⟨oO,λ j' hj'=>?_⟩,oO,?_⟩
      .rcases iM.1 hj' with h|rfl;.exact hti j' h
       refine⟨λ _=>?_,hok⟩;rw[rN];omega
      refine rR ?_;apply zN;(have uU:=AW @hj1 @hj2 @hj3;exact oZ)
     have hbf:=hno λ h=>by have:=(h.tk (j+1) hin).1 oO;rw[rN]at this;omega
     subst hbf;refine wl ?_;refine aU ⟨λ ht=>zN ?_⟩;refine aX rfl ⟨_,rfl,aK _⟩
   have hin:i=s.nt:=oO;subst hin;have hbt:b=true:=hb.2 ⟨hnn,oO,hsg,ZR hck,λ g hg=>⟨(hall g hg).1,(hall g hg).2⟩,λ i hi=>hti i hi⟩;subst hbt;refine wl ?_;refine aU ⟨λ ht=>zN ?_⟩;refine aX rfl ⟨_,rfl,aK _⟩
 .have hbf:=hno λ h=>hg (by rw[h.nu,hc]);subst hbf;refine wl ?_;refine aU ⟨λ ht=>zN ?_⟩;refine aX rfl ⟨_,rfl,aK _⟩
 have hbf:=hno λ h=>hg (by rw[h.nk,hc]);subst hbf;refine wl ?_;refine aU ⟨λ ht=>zN ?_⟩;refine aX rfl ⟨_,rfl,aK _⟩
end Go.Proofs.T
end
section
namespace Go.Proofs.T
open Go Go.AM Go.Proofs
attribute [local irreducible] gK del
variable{Γ:List (Nat×List AVal)}
theorem aPM(s:St)(hm:oN s=false):AM.Pure aA Γ 75 [.agg s.cells] false:=by
 have hrc:=zU (UL Γ) s;rw[hm]at hrc;refine aZ Tryz.func75 rfl 123 rfl bB rfl λ k=>?_;have kp:=fI k [0,1,2,3,4,6,7,8,40,43,45,46,47,48,57,58,59,60,61,91,95,96,97,98,121];refine wl ?_;refine aU (zs ?_);refine cl [.ret false] ?_;refine dD (zs ?_) (zs ?_);all_goals(try exact hrc)
 refine wl ?_;refine aU ⟨λ ht=>zN ?_⟩;refine aX rfl ⟨_,rfl,aK _⟩
theorem aFV(s:St)(hsh:AM.Pure aA Γ 75 [.agg s.cells] false):AM.Pure aA Γ 24 [.agg s.cells] false:=by
 refine aZ Tryz.func24 rfl 81 rfl bB rfl λ k=>?_;have kp:=fI k [0,1,2,3,4,5,6,7,8,9,10,13,18,19,20,21,52,54,55,56,57,78];refine wl ?_;refine aU (zs ?_);refine cl [.ret false] ?_;refine dD (zs ?_) (zs ?_);all_goals(try exact hsh)
 refine wl ?_;refine aU ⟨λ ht=>zN ?_⟩;refine aX rfl ⟨_,rfl,aK _⟩
def PK(L:LSt)(c:Nat):Prop:=L.cur c=0\/∃j,j<L.tl.length/\(L.tsk j).ready=true/\(L.tsk j).cpu=c/\(L.tsk j).id=L.cur c
def FlP(L:LSt)(c:Nat):Prop:=∀g,g<L.sl.length->∀x,lst L g c=some x->x.v<=(L.sp g c).floor
theorem a3O(L:LSt)(n:Nat)(hs:L.st.Small)(hsh:AM.Pure aA Γ 75 [.agg L.st.cells] true)(hP:ShP L.st n)(hso:HQ L)(hS:Shp L n)(hns:0<L.sl.length)
 (b:Bool) (hb:b=true↔∀c,c<n->PK L c/\FlP L c):AM.Pure aA Γ 24 [.agg L.st.cells] b:=by
 have hno:¬(∀c,c<n->PK L c/\FlP L c)->b=false:=λ h=>by
  cases hb':b with
  |false=>rfl
  |true=>exact absurd (hb.1 hb') h
 obtain⟨hng,hnk,hnu,hnt,hns',hnsp⟩:=id hs;have e1:L.st.nu=n:=hP.nu;have e0:L.st.ns=L.sl.length:=rfl;refine aZ Tryz.func24 rfl 81 rfl bB rfl λ k=>?_;have kp:=fI k [0,1,2,3,4,5,6,7,8,9,10,13,18,19,20,21,52,54,55,56,57,78];refine wl ?_;refine aU (zs ?_);refine cl [.ret true] ?_;refine dD (zs ?_) (zs ?_);all_goals(try exact hsh)
 refine wl ?_;refine aU ⟨λ ht=>zN ?_⟩;refine dI (dJ (k+1) (by simp-dsimp-implicitDefEqProofs only[go_sem,eq_self,↓reduceIte];rfl) rfl) ?_;simp-dsimp-implicitDefEqProofs only[kX,fE,go_sem,eq_self,↓reduceIte];refine bE (X:=Nat) rfl [0,1,2,3,4,5,6,7,8,9,10,13,18,19,20,21,52,54,55,56,57,78] (k+2) (λ c=>[(20,c)]) (λ c=>[(k,⟨7,true,[L.st.cells]⟩)]) (λ c=>c<=L.st.nu/\∀c',c'<c->PK L c'/\FlP L c') (λ c=>L.st.nu-c) 0 ?_ ⟨aJ _,λ c' h=>absurd h (bJ _)⟩ ?_;.refine rR ?_;apply zN;exact fW
 rintro c ⟨hc1,hall⟩;refine rR ?_;apply zN;by_cases hcn:c<L.st.nu
 .obtain⟨r,hr⟩:=aYI L (L.cur c);have hfd:=a7N L (L.cur c) r hr hso hS.nt (Γ:=Γ);refine wl ?_;refine aU ⟨λ ht=>zN ?_⟩;refine cl [.ret r] ?_;refine dD (zs ?_) (zs ?_);all_goals(try exact hfd)
  refine yU (X:=Unit) rfl [0,1,2,3,4,5,6,7,8,9,10,13,18,19,20,21,52,54,55,56,57,78] (k+2) (λ _=>[]) (λ _=>[(k,⟨7,true,[L.st.cells]⟩)]) (λ _=>PK L c) ?_ ?_
  .by_cases h0:L.cur c=0
   .have hcp:PK L c:= .inl h0;clear hfd hr hall;have h0':L.st.cur c=0:=h0;have uU:=zA @h0' @h0;refine wl ?_;refine zq7 ⟨⟨λ hg hg=>⟨?_⟩⟩⟩ ⟨⟨λ hg hg hg=>⟨?_⟩⟩⟩ ⟨λ ht=>⟨λ hg hg hg=>⟨?_⟩⟩⟩ ⟨λ ht=>⟨λ hg hg hg=>⟨?_⟩⟩⟩ ⟨λ ht=>⟨λ hg hg hg=>⟨?_⟩⟩⟩ ⟨λ ht=>⟨λ hg hg=>⟨?_⟩⟩⟩ ⟨λ ht=>⟨λ hg=>⟨?_⟩⟩⟩;all_goals(try exact absurd trivial ‹¬True›)
    all_goals(refine⟨(),hcp,?_⟩;(have uU:=zA @h0' @h0;exact oZ))
   have h0':¬L.st.cur c=0:=h0;rcases hr with⟨rfl,hnone⟩|⟨i,hi,rfl,hid⟩
   .have hncp:¬PK L c:=λ h=>by
     rcases h with h|⟨j,hj,_,_,h⟩;.exact absurd h h0
     exact absurd h (hnone j hj)
    have hbf:=hno λ h=>hncp (h c oO).1;subst hbf;clear hfd hall;have uU:=zA @h0' @h0;refine wl ?_;refine aU ⟨λ ht=>⟨λ hg=>⟨?_⟩⟩⟩;all_goals(try exact absurd trivial ‹¬True›)
    all_goals(refine aX rfl ⟨_,rfl,aK _⟩)
   have hi':i<L.st.nt:=hi
   have hcb':PK L c->(L.tsk i).ready=true/\(L.tsk i).cpu=c:=λ h=>by
    rcases h with h1|⟨j,hj,h2,h3,h4⟩;.exact absurd h1 h0
    have:j=i:=by
     rcases mH j i with e|e|e;.have:=hso j i e hi;omega
     .exact e
     have:=hso i j e hj;omega
    subst this;exact⟨h2,h3⟩
   have e8:(i:Int).toNat=i:=gX i;have e9:((i:Int)<0)=False:=eq_false oO
   cases hrd:(L.tsk i).ready with
   |false=>
    have hbf:=hno λ h=>by have:=(hcb' (h c oO).1).1;rw[hrd]at this;cases this
    subst hbf;have hrd':(L.st.tsk i).ready=false:=hrd;clear hfd hall hcb';have uU:=yA @h0' @h0 @hrd @hrd' @hi' @e8 @e9;refine wl ?_;refine aU ⟨λ ht=>⟨λ hg=>⟨?_⟩⟩⟩;all_goals(try exact absurd trivial ‹¬True›)
    all_goals(refine aX rfl ⟨_,rfl,aK _⟩)
   |true=>
    have hrd':(L.st.tsk i).ready=true:=hrd;by_cases hcp:(L.tsk i).cpu=c
    .have hcpp:PK L c:= .inr ⟨i,hi,hrd,hcp,hid⟩;have hcp':(L.st.tsk i).cpu=c:=hcp;have hbn:((c:Int)!=(c:Int))=false:=by simp
     clear hfd hall hcb';have uU:=eQ @h0' @h0 @hrd @hrd' @hi' @e8 @e9 @hcp (zA @hcp' @hbn);refine wl ?_;refine aU ⟨λ ht=>⟨λ hg=>⟨?_⟩⟩⟩;all_goals(try exact absurd trivial ‹¬True›)
     all_goals(refine⟨(),hcpp,?_⟩;(have uU:=eQ @h0' @h0 @hrd @hrd' @hi' @e8 @e9 @hcp (zA @hcp' @hbn);exact oZ))
    have hbf:=hno λ h=>hcp (hcb' (h c oO).1).2;subst hbf;have hcp':¬(L.st.tsk i).cpu=c:=hcp;have hne:((L.st.tsk i).cpu !=(c:Int))=true:=by simpa using hcp'
    clear hfd hall hcb';have uU:=eQ @h0' @h0 @hrd @hrd' @hi' @e8 @e9 @hcp (zA @hcp' @hne);refine wl ?_;refine aU ⟨λ ht=>⟨λ hg=>⟨?_⟩⟩⟩;all_goals(try exact absurd trivial ‹¬True›)
    all_goals(refine aX rfl ⟨_,rfl,aK _⟩)
  rintro _ hcur;have hcn':c<n:=oO;clear hfd hr;refine rR ?_;apply zN;refine wl ?_;refine aU (zs ?_);refine bE (X:=Nat) rfl [0,1,2,3,4,5,6,7,8,9,10,13,18,19,20,21,52,54,55,56,57,78] (k+2) (λ g=>[(56,g)]) (λ g=>[(k,⟨7,true,[L.st.cells]⟩)]) (λ g=>g<=L.sl.length/\∀g',g'<g->∀x,lst L g' c=some x->x.v<=(L.sp g' c).floor) (λ g=>L.sl.length-g) 0 ?_ ⟨aJ _,λ g' h=>absurd h (bJ _)⟩ ?_;.refine rR ?_;apply zN;exact fW
  rintro g ⟨hg1,hgall⟩;refine rR ?_;apply zN;by_cases hgn:g<L.sl.length
  .have hgn':g<L.st.ns:=hgn;have hle:=a3W L n c hS hcn' L.sl.length g hgn (Nat.sub_le _ _) (Γ:=Γ);have hrow:L.st.nsp g=n:=(hP.sp g hgn).1
   cases hl:lst L g c with
   |none=>
    rw[show pZ L L.sl.length g c=none from hl]at hle;have uU:=AW @hgn @hgn' @hrow;refine wl ?_;refine aU ⟨λ ht=>zN ?_⟩;refine cl [.ret (.tup [.agg [.lit (.int .u64 18446744073709551615),.lit (.int .u64 18446744073709551615),.lit (.int .u64 18446744073709551615)],false])] ?_;refine dD (zs ?_) (zs ?_);all_goals(try exact hle)
    refine wl ?_;refine aU (zs ?_);refine dl [] ?_;refine aU (zs ?_);refine wl ?_;refine aU ⟨λ ht=>zN ?_⟩;refine⟨g+1,⟨oO,λ g' hg'=>?_⟩,oO,?_⟩
    .rcases iM.1 hg' with h|rfl;.exact hgall g' h
     intro x hx;rw[hl]at hx;cases hx
    refine rR ?_;apply zN;(have uU:=AW @hgn @hgn' @hrow;exact oZ)
   |some x=>
    rw[show pZ L L.sl.length g c=some x from hl]at hle;have uU:=AW @hgn @hgn' @hrow;refine wl ?_;refine aU ⟨λ ht=>zN ?_⟩;refine cl [.ret (.tup [.agg [.lit (.int .u64 x.v),.lit (.int .u64 x.b),.lit (.int .u64 x.x)],true])] ?_;refine dD (zs ?_) (zs ?_);all_goals(try exact hle)
    refine wl ?_;refine aU (zs ?_);refine dl [.ret (.lit (.int .u64 x.v))] ?_;refine dD (zs ?_) (zs ?_);all_goals(try exact aXB _ _ _)
    refine wl ?_;refine dD ⟨λ ht=>zN ?_⟩ ⟨λ ht=>zN ?_⟩
    .have hbf:=hno λ h=>by
      have:=(h c oO).2 g hgn x hl;have ht':(L.sp g c).floor<x.v:=by assumption
      omega
     subst hbf;refine aX rfl ⟨_,rfl,aK _⟩
    refine⟨g+1,⟨oO,λ g' hg'=>?_⟩,oO,?_⟩
    .rcases iM.1 hg' with h|rfl;.exact hgall g' h
     intro y hy;rw[hl]at hy;cases hy;have ht':x.v<=(L.sp g' c).floor:=by assumption
     exact ht'
    refine rR ?_;apply zN;(have uU:=AW @hgn @hgn' @hrow;exact oZ)
  have hgn:g=L.sl.length:=oO;subst hgn;refine wl ?_;refine aU ⟨λ ht=>zN ?_⟩;refine⟨c+1,⟨oO,λ c' hc'=>?_⟩,oO,?_⟩
  .rcases iM.1 hc' with h|rfl;.exact hall c' h
   exact⟨hcur,λ g hg=>hgall g hg⟩
  refine rR ?_;apply zN;exact fW
 have hcn:c=L.st.nu:=oO;subst hcn;have hbt:b=true:=hb.2 λ c hc=>hall c oO;subst hbt;refine wl ?_;refine aU ⟨λ ht=>zN ?_⟩;refine aX rfl ⟨_,rfl,aK _⟩
theorem ckB_iff{s:St}{i:Nat}:ckB s i=false↔0<=s.clk i/\s.clk i<=281474976710656:=by simp only[ckB,dFn];omega
theorem okTk_iff{s:St}{n:Nat}{t:Tk}:TC s n t=true↔1<=t.id/\t.id<=65535/\0<=t.group/\t.group<s.ns/\0<=t.cpu/\t.cpu<n/\(1<=t.weight/\t.weight<=65536)/\t.mask/2^n=0/\t.mask/2^t.cpu.toNat%2=1/\yP t.v t.r t.weight=true:=by simp only[TC,dTt]
theorem PS{L:LSt}(h:∀i,i<L.tl.length->0<i->(L.tsk (i-1)).id<(L.tsk i).id):HQ L:=λ i j hij=>by
 induction j with
 |zero=>omega
 |succ j ih=>
  intro hj;have h1:=h (j+1) hj oO;rw[rN]at h1;by_cases e:i=j;.subst e;exact h1
  have:=ih oO oO;omega
theorem a1P{v r w:Int}(h:yP v r w=true):1<=w/\w<=65536:=by simp only[yP,dTt]at h;omega
theorem aZO{s:St}(h:gE s=true):∀g,0<g->g<s.ng->0<=s.par g/\s.par g<g:=λ g h1 h2=>by have:=(eY h).2 g h1 h2;simp only[okR,aC,dTt]at this;exact EC h1 this.2
theorem aTG{s:St}(h:gE s=true):∀g,g<s.ng->1<=s.wt g/\s.wt g<=65536:=λ g h1=>by
 by_cases e:g=0;.subst e;have:=(eY h).1.2.2.2.2.2.2;omega
 have:=(eY h).2 g oO h1;simp only[okR,okW,aC,dTt]at this;exact this.1
theorem aOP{L:LSt}{n:Nat}(hP:PreW L.st)(hc:gE L.st=true)(hn:L.cpus=n)(h:ShP L.st n)(hcur:∀c,c<n->PK L c):Rt0 L n:=by
 obtain⟨⟨r1,r2,r3,r4,r5,r6,r7⟩,_⟩:=eY hc;have r1:1<=L.cpus:=r1;have r2:L.cpus<=64:=r2;have hsg:L.sl.length=L.gl.length:=h.ns;have r4:1<=L.gl.length:=r4;have r5:L.gl.length<=256:=r5;have hnt:L.tl.length<=200:=hP.nt
 refine⟨oO,oO,hn,hP.c0,r3,hsg.symm,oO,oO,h.nk,h.nu,λ g hg=>(h.sp g hg).1,oO,λ g h1 h2=>aZO hc g h1 (by show g<L.gl.length;omega),r6,λ g hg=>aTG hc g (by show g<L.gl.length;omega),
  λ c hcc=>ckB_iff.1 (h.ck c (by have:L.st.nk=n:=h.nk;omega)),λ g c hg hcc=>?_,λ c hcc=>((h.sp 0 (by show 0<L.sl.length;omega)).2 c hcc).2 rfl,λ i hi=>?_,PS λ i hi h0=>(h.tk i hi).1 h0,hcur⟩
 .obtain⟨a1,a2,a3,a4,a5⟩:=hP.spr g c;exact⟨((h.sp g hg).2 c hcc).1,a1,a2,a3,a4,a5⟩
 obtain⟨b1,b2,b3,b4,b5,b6,b7,b8,b9,b10⟩:=okTk_iff.1 (h.tk i hi).2;obtain⟨c1,c2,c3,c4,c5⟩:=hP.tkr i;exact⟨b1,b2,b3,b4,b5,b6,b10,c3,c4,c5,c1,c2,b8,b9⟩
theorem shp_of{L:LSt}{n:Nat}(h:Rt0 L n):ShP L.st n:=by have hng:=h.ng;refine⟨h.nk,h.nu,hng.symm,λ i hi=>ckB_iff.2 (h.clk i (by have hi:i<L.kl.length:=hi;rw[h.nk]at hi;exact hi)),λ g hg=>⟨h.rows g hg,λ c hc=>⟨(h.sp g c hg hc).1,λ e=>by subst e;exact h.root c hc⟩⟩,λ i hi=>⟨λ h0=>h.sorted (i-1) i oO hi,?_⟩⟩;have t:=h.tk i hi;exact okTk_iff.2 ⟨t.id1,t.id2,t.g0,t.g1,t.c0,t.c1,a1P t.e,t.m2,t.m3,t.e⟩
theorem a3V{α:Type}{l:List α}(h:¬0<l.length):l=[]:=fL oO
theorem aJC{L:LSt}{n:Nat}(hP:PreW L.st)(hn:L.cpus.toNat=n)(h:bW L.st=[]):Rt0 L n/\gE L.st=true:=by
 unfold bW at h;by_cases hc:gE L.st=true;rotate_left 1
 .rw[if_pos (by simpa using hc)]at h;cases h
 rw[if_neg (by rw[hc];simp)]at h;obtain⟨⟨r1,r2,r3,r4,r5,r6,r7⟩,_⟩:=eY hc;have r1:1<=L.cpus:=r1;have r2:L.cpus<=64:=r2;have hcn:L.cpus=n:=oO;by_cases hs:0<(fZ L.st).length;.rw[if_pos hs]at h;rw[h]at hs;simp at hs
 rw[if_neg hs]at h;by_cases hp:0<(jG L.st).length;.rw[if_pos hp]at h;rw[h]at hp;simp at hp
 obtain⟨s1,s2,s3,s4⟩:=shapes_nil (s:=L.st) oO;have hp:=a3V hp;unfold jG at hp;simp only[vW]at hp;obtain⟨p1,p2,p3,p4,p5⟩:=hp;have s1:(L.kl.length:Int)=L.cpus:=s1;have s2:(L.ul.length:Int)=L.cpus:=s2;have s3:L.sl.length=L.gl.length:=s3;have s4:∀g,g<L.sl.length->(((L.sl.getD g []).length:Nat):Int)=L.cpus:=s4;have hct:L.st.cpus.toNat=n:=hn;rw[hct]at p4 p5;refine⟨aOP hP hc hcn ⟨by show L.kl.length=n;omega,by show L.ul.length=n;omega,s3,λ i hi=>?_,λ g hg=>⟨by show(L.sl.getD g []).length=n;have:=s4 g hg;omega,λ c hcc=>?_⟩,λ i hi=>?_⟩ λ c hcc=>?_,hc⟩;.have:=flats_nil_iff.1 p1 i hi;unfold gO at this;rw[mA]at this;exact this
 .have hr:g=0->(L.st.sp g c).v=0/\(L.st.sp g c).r=0:=λ e=>by subst e;have:=flats_nil_iff.1 p4 c hcc;unfold kG at this;rw[mA,dFn]at this;have:=(hP.spr 0 c).1;have:=(hP.spr 0 c).2.2.1;omega
  refine⟨?_,hr⟩;by_cases e:g=0;.obtain⟨e1,e2⟩:=hr e;subst e;have e3:L.st.wt 0=1:=r7;rw[e1,e2,e3];rfl
  have:=flats_nil_iff.1 p3 g hg;unfold vB at this;rw[if_neg e]at this;have hg2:g<L.sl.length:=hg;have:=flats_nil_iff.1 this c (by show c<(L.sl.getD g []).length;have:=s4 g hg2;omega);unfold qX at this;rw[mA,dH]at this;exact this
 .have hb:∀r:Nat,r<7->VZ L.st i ((r:Int)+4)=false:=λ r hr=>by have:=flats_nil_iff.1 (flats_nil_iff.1 p2 r hr) i hi;unfold oJ at this;rw[mA]at this;exact this
  have b4:t4 L.st i=false:=hb 0 oO;have b5:t5 L.st i=false:=hb 1 oO;have b6:t6 L.st i=false:=hb 2 oO;have b7:t7 L.st i=false:=hb 3 oO;have b8:r8 L.st i=false:=hb 4 oO;have b9:r9 L.st i=false:=hb 5 oO;have b10:t10 L.st i=false:=hb 6 oO;obtain⟨c1,c2,c3,c4,c5⟩:=hP.tkr i;simp only[t4,iA,dFn]at b4;simp only[t5,dFn]at b5;simp only[t6,dFn]at b6;simp only[t7,dH]at b7;simp only[r9,b7,kQ,dH,tA,dTt]at b9;simp only[onB,dTt]at b7;simp only[t10,dH]at b10;rw[<-aNE L.st hP.k.wf i (by show 0<=L.cpus;omega) r2]at b8;simp only[t8,iA,dFn]at b8;have hs3:(L.st.ns:Int)=L.st.ng:=by show(L.sl.length:Int)=L.gl.length;omega
  have hm:(L.st.tsk i).mask/2^n=0:=by
   have h0:0<=(L.st.tsk i).mask/2^n:=PJ c1 (qN oO);rcases b8 with b8|b8;.have b8:¬L.cpus<64:=b8;have:n=64:=oO;subst this;exact Int.ediv_eq_zero_of_lt c1 (by show _<(18446744073709551616:Int);exact c2)
   have b8:¬0<shr (L.st.tsk i).mask L.cpus:=b8;rw[shr,hcn,(oO:min ((n:Int).toNat) 64=n),dL _ (qN oO)]at b8;omega
  refine⟨λ h0=>?_,okTk_iff.2 ⟨oO,oO,oO,oO,b7.1,by have:(L.st.tsk i).cpu<L.cpus:=b7.2;omega,a1P b10,hm,b9,b10⟩⟩;rcases b4 with b4|b4;.omega
  omega
 have:=flats_nil_iff.1 p5 c hcc;unfold lO at this;rw[mA]at this;by_cases h0:L.cur c=0;.exact .inl h0
 have hd:decide (L.st.cur c≠0)=true:=decide_eq_true h0;rw[hd,kQ,dH,anyB_iff]at this;obtain⟨j,j1,j2⟩:=this;simp only[fO,aC,dTt]at j2;exact .inr ⟨j,j1,j2.2.1,j2.2.2,j2.1⟩
theorem aJH{L:LSt}{n:Nat}(hP:PreW L.st)(hn:L.cpus.toNat=n):bW L.st=[]↔gE L.st=true/\ShP L.st n/\∀c,c<n->PK L c/\FlP L c:=by
 have h12:L.sl.length<=12:=by have:L.sl.length<=12:=hP.ns;omega
 constructor;.intro h;obtain⟨h0,hc⟩:=aJC hP hn h;rw[h0.check h12 hc]at h;exact⟨hc,shp_of h0,λ c hcc=>⟨h0.cur c hcc,λ g hg=>flrL_nil.1 (flats_nil_iff.1 (flats_nil_iff.1 h g hg) c hcc)⟩⟩
 rintro⟨hc,hs,hf⟩;have hcn:L.cpus=n:=by have:1<=L.cpus:=(eY hc).1.1;omega
 have h0:=aOP hP hc hcn hs λ c hcc=>(hf c hcc).1;exact aTE h0 (λ g c hg hcc=>(hf c hcc).2 g hg) h12 hc
theorem bBC{a b:AVal}(h:VLe a b):VLes [a] [b]:= .cons h .nil
theorem aVQ{s:St}(h:PreW s):PreW (pA s).st:=by
 have e1:(pA s).st.ng=s.ng:=by simp[pA,LSt.st]
 have e2:(pA s).st.nk=s.nk:=by simp[pA,LSt.st]
 have e3:(pA s).st.nu=s.nu:=by simp[pA,LSt.st]
 have e4:(pA s).st.nt=s.nt:=by simp[pA,LSt.st]
 have e5:(pA s).st.ns=s.ns:=by simp[pA,LSt.st]
 have e6:∀g,g<s.ns->(pA s).st.nsp g=s.nsp g:=λ g hg=>by show(((pA s).sl.getD g []).length)=_;simp only[pA];rw[iY hg];simp
 refine VQ ⟨by rw[e1];exact h.sm.ng,by rw[e2];exact h.sm.nk,by rw[e3];exact h.sm.nu,by rw[e4];exact h.sm.nt,by rw[e5];exact h.sm.ns,λ g hg=>?_⟩ (by rw[e4];exact h.nt) (by rw[e5];exact h.ns) (λ g hg=>?_) h.c0 (λ i=>?_) (λ g c=>?_);.rw[e5]at hg;rw[e6 g hg];exact h.sm.nsp g hg
 .rw[e5]at hg;rw[e6 g hg];exact h.p1 g hg
 .show TkR ((pA s).tl.getD i default);by_cases hi:i<s.nt;.simp only[pA];rw[iY hi];exact h.tkr i
  rw[xG (by simp[pA];omega)];exact⟨fA _,by decide,fA _,by decide,fA _⟩
 show SpR (((pA s).sl.getD g []).getD c default);by_cases hg:g<s.ns
 .simp only[pA];rw[iY hg];by_cases hc:c<s.nsp g;.rw[iY hc];exact h.spr g c
  rw[xG (by simp;omega)];exact⟨fA _,by decide,fA _,fA _,by decide⟩
 rw[xG (l:=(pA s).sl) (by simp[pA];omega)];exact⟨fA _,by show(0:Int)<=18446744073709551615;decide,fA _,fA _,by show(0:Int)<=18446744073709551615;decide⟩
theorem a2Z(Γ:List (Nat×List AVal))(L:LSt)(hp:PreW L.st):AM.Pure aA Γ 24 [.agg L.st.cells] (.lit (.bool (bW L.st).isEmpty)):=by
 obtain⟨n,hn⟩:∃n,L.cpus.toNat=n:=⟨_,rfl⟩;have hiff:=aJH hp hn;have hsm:=hp.sm;rw[show(bW L.st).isEmpty=decide (bW L.st=[])by cases bW L.st<;>rfl];by_cases hc:gE L.st=true;rotate_left 1
 .rw[decide_eq_false (λ e=>hc (hiff.1 e).1)];exact aFV L.st (aPM L.st (by rw[DI];simpa using hc))
 obtain⟨⟨r1,r2,r3,r4,r5,r6,r7⟩,_⟩:=eY hc;have r1:1<=L.cpus:=r1;have r2:L.cpus<=64:=r2;have hcn:L.st.cpus=n:=by show L.cpus=n;omega
 obtain⟨sb,hsb⟩:∃sb:Bool,sb=true↔ShP L.st n:=⟨@decide (ShP L.st n) (Classical.propDecidable _),sS⟩;have hsh:=aXA L.st hsm hp.k n oO oO hcn (by rw[DI];exact hc) (aTG hc) sb hsb (Γ:=Γ);by_cases hS:ShP L.st n;rotate_left 1
 .have e:sb=false:=by
   cases sb with
   |false=>rfl
   |true=>exact absurd (hsb.1 rfl) hS
  rw[e]at hsh;rw[decide_eq_false (λ e=>hS (hiff.1 e).2.1)];exact aFV L.st hsh
 rw[hsb.2 hS]at hsh;have hlen:L.sl.length=L.gl.length:=hS.ns;have r4:1<=L.gl.length:=r4;refine a3O L n hsm hsh hS (PS λ i hi h0=>(hS.tk i hi).1 h0) ⟨hlen.symm,λ g hg=>(hS.sp g hg).1,by have:L.tl.length<=200:=hp.nt;omega,by have:L.sl.length<=12:=hp.ns;omega,λ i hi=>?_,λ g c hg hcc=>(hp.spr g c).2.1⟩ oO _ ?_;.obtain⟨b1,b2,_⟩:=okTk_iff.1 (hS.tk i hi).2;exact⟨by have b1:1<=(L.tsk i).id:=b1;omega,b2,(hp.tkr i).2.2.2.1⟩
 rw[dTt,hiff];exact⟨λ h=>h.2.2,λ h=>⟨hc,hS,h⟩⟩
theorem aWL(Γ:List (Nat×List AVal)){s:St}(h:PreW s):AM.Pure aA Γ 24 [.agg s.cells] (.lit (.bool (bW (pA s).st).isEmpty)):=ZX (a2Z Γ (pA s) (aVQ h)) (bBC (aMY s))
end Go.Proofs.T
end
section
namespace Go.Proofs.T
open Go Go.AM Go.Proofs
variable{Γ:List (Nat×List AVal)}
attribute [local irreducible] gK del
attribute [go_sem] qE
theorem aMX(d:DE)(hd:d.size<=100000):AM.Pure aA Γ 42 [.agg d.cells] (.agg d.cells):=by
 have hd':=hd;unfold DE.size at hd;refine aZ Tryz.func42 rfl 74 rfl bB rfl λ k=>?_;have kp:=fI k [0,1,2,3,5,7,9,11,18,19,20,21,32,33,34,35,46,47,48,49,60,61,62,63];refine wl ?_;refine aU (zs ?_);refine dI (sE (k+2) (by simp-dsimp-implicitDefEqProofs only[go_sem,eq_self,↓reduceIte];rfl)) ?_;refine rR ?_;apply zN;refine bE (X:=Nat) rfl [0,1,2,3,5,7,9,11,18,19,20,21,32,33,34,35,46,47,48,49,60,61,62,63] (k+4) (λ i=>[(20,i)]) (λ i=>cA (k+3) 2 (DQ d.f0 i) [(k+2,⟨6,false,[[bV (k+3) (DQ d.f0 i),(),(),.rd 1 d.n3 d.f3,.rd 8 d.n4 d.f4,()]]⟩),(k+1,⟨6,true,[[(),(),(),(),(),()]]⟩),(k,⟨6,true,[d.cells]⟩)]) (λ i=>i<=d.n0) (λ i=>d.n0-i) 0 ?_ (aJ _) ?_;.rw[rT];refine rR ?_;apply zN;exact fW
 intro i hi;obtain⟨l,el,hl⟩:∃x,x=DQ d.f0 i/\x.length=i:=⟨_,rfl,qE _ _⟩;rw[<-el];refine rR ?_;apply zN;refine wl ?_;refine dD ⟨λ ht=>zN ?_⟩ ⟨λ ht=>zN ?_⟩;.refine⟨i+1,oO,oO,?_⟩;rw[rU,<-el];refine rR ?_;apply zN;exact lM (k+6) (k+3) wL
 have hin:i=d.n0:=oO;subst hin;refine dI (fX (id:=k+3) (s:=2) (D:=k+2) (sz:=6) (l:=l) (row:=[bV (k+3) l,.lit (.slice none 0 0),.lit (.slice none 0 0),.rd 1 d.n3 d.f3,.rd 8 d.n4 d.f4,.lit (.slice none 0 0)]) 0 (.rd 2 d.n0 d.f0) [(34,(0:Int)),(33,d.n1),(32,.rd 2 d.n1 d.f1),(3,.ptr (k+2) 0 0),(2,.ptr (k+1) 0 0),(1,.ptr k 0 0)] [(k+1,⟨6,true,[[(),(),(),(),(),()]]⟩),(k,⟨6,true,[d.cells]⟩)] oO sL rfl sL (by rw[el];exact AN _ _ _) sL sL sL) ?_;refine dI (kU (k1:=k+4) (fr1:=[(34,.lit (.int .i64 0)),(33,.lit (.int .i64 (d.n1:Int))),(32,.rd 2 d.n1 d.f1),(3,.ptr (k+2) 0 0),(2,.ptr (k+1) 0 0),(1,.ptr k 0 0)]) (H1:=[(k+2,⟨6,false,[[.rd 2 d.n0 d.f0,.lit (.slice none 0 0),.lit (.slice none 0 0),.rd 1 d.n3 d.f3,.rd 8 d.n4 d.f4,.lit (.slice none 0 0)]]⟩),(k+1,⟨6,true,[[.lit (.slice none 0 0),.lit (.slice none 0 0),.lit (.slice none 0 0),.lit (.slice none 0 0),.lit (.slice none 0 0),.lit (.slice none 0 0)]]⟩),(k,⟨6,true,[d.cells]⟩)]) wL) ?_;clear el hl;clear l;refine rR ?_;apply zN;refine bE (X:=Nat) rfl [0,1,2,3,5,7,9,11,18,19,20,21,32,33,34,35,46,47,48,49,60,61,62,63] (k+5) (λ i=>[(34,i)]) (λ i=>cA (k+4) 2 (DQ d.f1 i) [(k+2,⟨6,false,[[.rd 2 d.n0 d.f0,bV (k+4) (DQ d.f1 i),(),.rd 1 d.n3 d.f3,.rd 8 d.n4 d.f4,()]]⟩),(k+1,⟨6,true,[[(),(),(),(),(),()]]⟩),(k,⟨6,true,[d.cells]⟩)]) (λ i=>i<=d.n1) (λ i=>d.n1-i) 0 ?_ (aJ _) ?_;.rw[rT];refine rR ?_;apply zN;exact fW
 intro i hi;obtain⟨l,el,hl⟩:∃x,x=DQ d.f1 i/\x.length=i:=⟨_,rfl,qE _ _⟩;rw[<-el];refine rR ?_;apply zN;refine wl ?_;refine dD ⟨λ ht=>zN ?_⟩ ⟨λ ht=>zN ?_⟩;.refine⟨i+1,oO,oO,?_⟩;rw[rU,<-el];refine rR ?_;apply zN;exact lM (k+7) (k+4) wL
 have hin:i=d.n1:=oO;subst hin;refine dI (fX (id:=k+4) (s:=2) (D:=k+2) (sz:=6) (l:=l) (row:=[.rd 2 d.n0 d.f0,bV (k+4) l,.lit (.slice none 0 0),.rd 1 d.n3 d.f3,.rd 8 d.n4 d.f4,.lit (.slice none 0 0)]) 1 (.rd 2 d.n1 d.f1) [(48,(0:Int)),(47,d.n2),(46,.rd 2 d.n2 d.f2),(3,.ptr (k+2) 0 0),(2,.ptr (k+1) 0 0),(1,.ptr k 0 0)] [(k+1,⟨6,true,[[(),(),(),(),(),()]]⟩),(k,⟨6,true,[d.cells]⟩)] oO sL rfl sL (by rw[el];exact AN _ _ _) sL sL sL) ?_;refine dI (kU (k1:=k+5) (fr1:=[(48,.lit (.int .i64 0)),(47,.lit (.int .i64 (d.n2:Int))),(46,.rd 2 d.n2 d.f2),(3,.ptr (k+2) 0 0),(2,.ptr (k+1) 0 0),(1,.ptr k 0 0)]) (H1:=[(k+2,⟨6,false,[[.rd 2 d.n0 d.f0,.rd 2 d.n1 d.f1,.lit (.slice none 0 0),.rd 1 d.n3 d.f3,.rd 8 d.n4 d.f4,.lit (.slice none 0 0)]]⟩),(k+1,⟨6,true,[[.lit (.slice none 0 0),.lit (.slice none 0 0),.lit (.slice none 0 0),.lit (.slice none 0 0),.lit (.slice none 0 0),.lit (.slice none 0 0)]]⟩),(k,⟨6,true,[d.cells]⟩)]) wL) ?_;clear el hl;clear l;refine rR ?_;apply zN;refine bE (X:=Nat) rfl [0,1,2,3,5,7,9,11,18,19,20,21,32,33,34,35,46,47,48,49,60,61,62,63] (k+6) (λ i=>[(48,i)]) (λ i=>cA (k+5) 2 (DQ d.f2 i) [(k+2,⟨6,false,[[.rd 2 d.n0 d.f0,.rd 2 d.n1 d.f1,bV (k+5) (DQ d.f2 i),.rd 1 d.n3 d.f3,.rd 8 d.n4 d.f4,()]]⟩),(k+1,⟨6,true,[[(),(),(),(),(),()]]⟩),(k,⟨6,true,[d.cells]⟩)]) (λ i=>i<=d.n2) (λ i=>d.n2-i) 0 ?_ (aJ _) ?_;.rw[rT];refine rR ?_;apply zN;exact fW
 intro i hi;obtain⟨l,el,hl⟩:∃x,x=DQ d.f2 i/\x.length=i:=⟨_,rfl,qE _ _⟩;rw[<-el];refine rR ?_;apply zN;refine wl ?_;refine dD ⟨λ ht=>zN ?_⟩ ⟨λ ht=>zN ?_⟩;.refine⟨i+1,oO,oO,?_⟩;rw[rU,<-el];refine rR ?_;apply zN;exact lM (k+8) (k+5) wL
 have hin:i=d.n2:=oO;subst hin;refine dI (fX (id:=k+5) (s:=2) (D:=k+2) (sz:=6) (l:=l) (row:=[.rd 2 d.n0 d.f0,.rd 2 d.n1 d.f1,bV (k+5) l,.rd 1 d.n3 d.f3,.rd 8 d.n4 d.f4,.lit (.slice none 0 0)]) 2 (.rd 2 d.n2 d.f2) [(62,(0:Int)),(61,d.n5),(60,.rd 5 d.n5 d.f5),(3,.ptr (k+2) 0 0),(2,.ptr (k+1) 0 0),(1,.ptr k 0 0)] [(k+1,⟨6,true,[[(),(),(),(),(),()]]⟩),(k,⟨6,true,[d.cells]⟩)] oO sL rfl sL (by rw[el];exact AN _ _ _) sL sL sL) ?_;refine dI (kU (k1:=k+6) (fr1:=[(62,.lit (.int .i64 0)),(61,.lit (.int .i64 (d.n5:Int))),(60,.rd 5 d.n5 d.f5),(3,.ptr (k+2) 0 0),(2,.ptr (k+1) 0 0),(1,.ptr k 0 0)]) (H1:=[(k+2,⟨6,false,[[.rd 2 d.n0 d.f0,.rd 2 d.n1 d.f1,.rd 2 d.n2 d.f2,.rd 1 d.n3 d.f3,.rd 8 d.n4 d.f4,.lit (.slice none 0 0)]]⟩),(k+1,⟨6,true,[[.lit (.slice none 0 0),.lit (.slice none 0 0),.lit (.slice none 0 0),.lit (.slice none 0 0),.lit (.slice none 0 0),.lit (.slice none 0 0)]]⟩),(k,⟨6,true,[d.cells]⟩)]) wL) ?_;clear el hl;clear l;refine rR ?_;apply zN;refine bE (X:=Nat) rfl [0,1,2,3,5,7,9,11,18,19,20,21,32,33,34,35,46,47,48,49,60,61,62,63] (k+7) (λ i=>[(62,i)]) (λ i=>cA (k+6) 5 (DQ d.f5 i) [(k+2,⟨6,false,[[.rd 2 d.n0 d.f0,.rd 2 d.n1 d.f1,.rd 2 d.n2 d.f2,.rd 1 d.n3 d.f3,.rd 8 d.n4 d.f4,bV (k+6) (DQ d.f5 i)]]⟩),(k+1,⟨6,true,[[(),(),(),(),(),()]]⟩),(k,⟨6,true,[d.cells]⟩)]) (λ i=>i<=d.n5) (λ i=>d.n5-i) 0 ?_ (aJ _) ?_;.rw[rT];refine rR ?_;apply zN;exact fW
 intro i hi;obtain⟨l,el,hl⟩:∃x,x=DQ d.f5 i/\x.length=i:=⟨_,rfl,qE _ _⟩;rw[<-el];refine rR ?_;apply zN;refine bY rfl ?_;(refine gL rfl [0,1,2,3,5,7,9,11,18,19,20,21,32,33,34,35,46,47,48,49,60,61,62,63] rfl rfl (λ K hK=>?_));refine sT ?_;(refine hK _ _ _ _ (λ hx=>?_));clear hx hK;refine sT ?_;clear K;refine bY rfl ?_;refine gA rfl _ rfl (λ ht=>?_) (λ ht=>?_);.simp only[nf]at ht;refine fD rfl ?_;refine rR ?_;apply zN;refine wl ?_;refine aU (zs ?_);refine⟨i+1,oO,oO,?_⟩;rw[rU,<-el];refine rR ?_;apply zN;exact lM (k+9) (k+6) wL
 simp only[nf]at ht;refine jU rfl ?_;refine rR ?_;apply zN;have hin:i=d.n5:=oO;subst hin;refine dI (fX (id:=k+6) (s:=5) (D:=k+2) (sz:=6) (l:=l) (row:=[.rd 2 d.n0 d.f0,.rd 2 d.n1 d.f1,.rd 2 d.n2 d.f2,.rd 1 d.n3 d.f3,.rd 8 d.n4 d.f4,bV (k+6) l]) 5 (.rd 5 d.n5 d.f5) [(3,.ptr (k+2) 0 0),(2,.ptr (k+1) 0 0)] [(k+1,⟨6,true,[[(),(),(),(),(),()]]⟩),(k,⟨6,true,[d.cells]⟩)] oO sL rfl sL (by rw[el];exact AN _ _ _) sL sL sL) ?_;clear el hl;refine rR ?_;apply zN;refine wl ?_;refine aU (zs ?_);refine cR (zN ?_);exact aK _
end Go.Proofs.T
end
section
namespace Go.Proofs.T
open Go Go.AM Go.Proofs
structure KindsW (s:St):Prop where
 c0:0<=s.credit
 tk:∀i,TkR (s.tsk i)
 sp:∀g c,SpR (s.sp g c)
theorem aNA{t:Tk}(h:(El.tk t).rng):TkR t:=by obtain⟨h1,h2,h3,h4,⟨a1,a2⟩,⟨a3,a4⟩,⟨a5,a6⟩⟩:=h;exact⟨a1,oO,a3,a4,a5⟩
theorem aWG:SpR ⟨0,0,0⟩:=⟨fA _,by show(0:Int)<=18446744073709551615;decide,fA _,fA _,by show(0:Int)<=18446744073709551615;decide⟩
section
variable{H:Type}{qS:TypeId×Value->H}{P:Program}{w:World}{base:Nat}{sp:Nat->Bool}{held:Bool}{fuel:Nat}{t:TypeId}{cs:List Value}{x:DataW H×List MemPlace}{G:Nat->Prop}
theorem aLE{n:Nat}{y:DataW H×List MemPlace}(hl:cs.length=3)(h:DataW.trod qS aA w base sp held n 91 cs=some y):
 ∃a:Sp,SpR a/\Dec w G a.cells cs:=by obtain⟨_,m,hf⟩:=nY Tryz.underlying91 h;obtain⟨c0,c1,c2,rfl⟩:=bCG hl;obtain⟨_,h0⟩:=hf 0 _ rfl;obtain⟨_,h1⟩:=hf 1 _ rfl;obtain⟨_,h2⟩:=hf 2 _ rfl;obtain⟨a0,d0,w0⟩:=iK (G:=G) iL h0;obtain⟨a1,d1,w1⟩:=iK (G:=G) jB h1;obtain⟨a2,d2,w2⟩:=iK (G:=G) iL h2;obtain⟨q0,q1⟩:=tP w0;obtain⟨q2,q3⟩:=KG w1;obtain⟨q4,q5⟩:=tP w2;exact⟨⟨a0,a1,a2⟩,⟨q0,q1,q2,q4,q5⟩,d0.app (d1.app d2)⟩
theorem aDN(hG:∀b,b<w.heap.size->G b)(h:DataW.trod qS aA w base sp held fuel 112 cs=some x):∃(a:Nat×(Nat->Sp)),(∀i,SpR (a.2 i))/\Dec w G [.rd 3 a.1 (λ i=>(a.2 i).cells)] cs:=by obtain⟨n,f,q,d⟩:=lJ (G:=G) Sp.cells SpR ⟨0,0,0⟩ aWG (sz:=3) oO Tryz.underlying112 (by kernel_rfl) hG (λ n cs y hl hy=>aLE hl hy) h;exact⟨(n,f),q,d⟩
theorem aDM(hG:∀b,b<w.heap.size->G b)(h:DataW.trod qS aA w base sp held fuel 30 cs=some x):∃s:St,KindsW s/\Dec w G s.cells cs:=by
 obtain⟨hl,m,hf⟩:=nY Tryz.underlying30 h;have hl7:cs.length=7:=hl.trans (by kernel_rfl);obtain⟨c0,c1,c2,c3,c4,c5,c6,rfl⟩:=bCE hl7;obtain⟨_,h0⟩:=hf 0 _ rfl;obtain⟨_,h1⟩:=hf 1 _ rfl;obtain⟨_,h2⟩:=hf 2 _ rfl;obtain⟨_,h3⟩:=hf 3 _ rfl;obtain⟨_,h4⟩:=hf 4 _ rfl;obtain⟨_,m',hf'⟩:=nY Tryz.underlying25 h0;obtain⟨_,k0⟩:=hf' 0 _ rfl;obtain⟨_,k1⟩:=hf' 1 _ rfl;obtain⟨_,k2⟩:=hf' 2 _ rfl;obtain⟨cpus,d0,_⟩:=iK (G:=G) dB k0;obtain⟨credit,d1,w1⟩:=iK (G:=G) iL k1;obtain⟨ng,fg,_,d2⟩:=lJ (G:=G) (λ a:Int×Int=>[.lit (.int .i64 a.1),.lit (.int .i64 a.2)]) (λ _=>True) (0,0) trivial (sz:=2) oO Tryz.underlying23 (by kernel_rfl) hG (λ n cs y hl hy=>aLG hl hy) k2;obtain⟨nk,fk,d3⟩:=ZC hG h1;obtain⟨nu,fu,d4⟩:=ZC hG h2;obtain⟨nt,ft,qt,d5⟩:=lJ (G:=G) Tk.cells TkR zT (aNA ⟨rng0.1,rng0.1,rng0.1,rng0.1,rng0.2.1,rng0.2.1,rng0.2.2⟩) (sz:=8) oO Tryz.underlying27 (by kernel_rfl) hG (λ n cs y hl hy=>by obtain⟨a,q,d⟩:=RN (G:=G) hl hy;exact⟨a,aNA q,d⟩) h3
 obtain⟨ns,fs,qs,d6⟩:=lJ (G:=G) (λ a:Nat×(Nat->Sp)=>[.rd 3 a.1 (λ i=>(a.2 i).cells)]) (λ a=>∀i,SpR (a.2 i)) (0,λ _=>⟨0,0,0⟩) (λ i=>aWG) (sz:=1) oO Tryz.underlying28 (by kernel_rfl) hG (λ n cs y hl hy=>aDN hG hy) h4;refine⟨⟨cpus,credit,ng,λ i=>(fg i).1,λ i=>(fg i).2,nk,fk,nu,fu,nt,ft,ns,λ g=>(fs g).1,λ g c=>(fs g).2 c⟩,⟨(tP w1).1,qt,qs⟩,?_⟩;exact d0.app (d1.app (d2.app (d3.app (d4.app (d5.app d6)))))
end
end Go.Proofs.T
end
section
namespace Go.Proofs.T
open Go Go.AM Go.Proofs
variable{Γ:List (Nat×List AVal)}
attribute [local irreducible] gK del
structure GoodS (s:St) (m:Nat):Prop where
 nrm:Nrm s
 pre:PreW s
 nt:s.nt<=m
theorem GoodS.app {s:St}{m:Nat}(h:GoodS s m){d:DE}(hc:bW s=[])(hr:DRng d)(hd:d.size<=60)(hm:m+60<=200):GoodS (zG s d) (m+60):=by
 have hn:=h.nt;have hd4:d.n4<=60:=by unfold DE.size at hd;omega
 have hl:=aFY s d;exact⟨a0G h.nrm (vQ hc).1,aHL h.pre hr oO,by show(mkT s d).length<=_;omega⟩
theorem pQ{s:St}{m:Nat}(h:GoodS s m){d:DE}(h0:nP s d=0)(hr:DRng d)(hd:d.size<=60)(hm:m+60<=200):GoodS (jS s d) (m+60)/\bW (jS s d)=[]/\bW s=[]:=by obtain⟨h1,h2⟩:=aLV h0;rw[(AT h1 h2).2];exact⟨h.app h1 hr hd hm,aEH h1 h2,h1⟩
theorem aFI{s:St}{m:Nat}(h:GoodS s m):AM.Pure aA Γ 24 [.agg s.cells] (.lit (.bool (bW s).isEmpty)):=by have:=aWL Γ h.pre;rw[a2L h.nrm]at this;exact this
theorem VC{s:St}{m:Nat}(h:GoodS s m)(hm:m+60<=200){d:DE}(hr:DRng d)(hd:d.size<=60):AM.Pure aA Γ 22 [.agg s.cells,.agg d.cells] (.tup [.agg (jS s d).cells,(nP s d)]):=
 a0B s h.nrm h.pre (aFI h) d hr hd (by have:=h.nt;unfold DE.size at hd;omega)
theorem NU{s:St}{m:Nat}(h:GoodS s m)(hm:m+60<=200){d:DE}(hr:DRng d)(hd:d.size<=60):AM.Pure aA Γ 45 [.agg s.cells,.agg d.cells] (.tup [.agg (jS s d).cells,(nP s d)]):=
 aUA s h.pre d hr hd (by have:=h.nt;unfold DE.size at hd;omega)
theorem a3Z{s:St}(h:GoodS s 40){d e:DE}(hr:DRng d)(hd:d.size<=60)(hr':DRng e)(he:e.size<=60):AM.Pure aA Γ 34 [.agg s.cells,.agg d.cells,.agg e.cells] (.tup [.agg (jnD s d e).cells,(jnE s d e)]):=
 a3Y s d e (VC h oO hr hd) (λ h0=>VC (pQ h h0 hr hd oO).1 oO hr' he) λ h0 h1=>by have g1:=(pQ h h0 hr hd oO).1;have g2:=(pQ g1 h1 hr' he oO).1;exact RS s _ h.pre.pre g2.pre.pre h.pre.k g2.pre.k
theorem aXR{s:St}(h:GoodS s 40){d e:DE}(hr:DRng d)(hd:d.size<=60)(hr':DRng e)(he:e.size<=60):AM.Pure aA Γ 46 [.agg s.cells,.agg d.cells,.agg e.cells] (.tup [.agg (jnD s d e).cells,(jnE s d e)]):=
 a3X s d e (NU h oO hr hd) (λ h0=>NU (pQ h h0 hr hd oO).1 oO hr' he) λ h0 h1=>by have g1:=(pQ h h0 hr hd oO).1;have g2:=(pQ g1 h1 hr' he oO).1;exact aBG s _ h.pre.pre g2.pre.pre h.pre.k g2.pre.k
theorem aQZ{s:St}(h:GoodS s 40){d e:DE}(hr:DRng d)(hd:d.size<=60)(hr':DRng e)(he:e.size<=60):(jnD s d e).size<=20000:=by
 unfold jnD;split;.rename_i h0;have g1:=(pQ h h0.1 hr hd oO).1;have g2:=(pQ g1 h0.2 hr' he oO).1;exact ZK h.pre.pre g2.pre.pre h.pre.sm.nk
 show 0<=20000;omega
theorem a2M{s:St}(h:KindsW s):KindsW (pA s).st where
 c0:=h.c0
 tk i:=by
  show TkR ((pA s).tl.getD i default);by_cases hi:i<s.nt;.simp only[pA];rw[iY hi];exact h.tk i
  rw[lQ (by simp[pA];omega)];exact⟨fA _,by decide,fA _,by decide,fA _⟩
 sp g c:=by
  show SpR (((pA s).sl.getD g []).getD c default);by_cases hg:g<s.ns
  .simp only[pA];rw[iY hg];by_cases hc:c<s.nsp g;.rw[iY hc];exact h.sp g c
   rw[lQ (by simp;omega)];exact aWG
  rw[lQ (l:=(pA s).sl) (by simp[pA];omega)];exact aWG
theorem aCI{s:St}(hn:Nrm s)(hk:KindsW s)(h:DM s):GoodS s 40:=by have hp:=aIP (aNW h);obtain⟨h1,h2,h3,h4,h5,h6,h7⟩:=h;exact⟨hn,VQ hp.sm oO h6 h7 hk.c0 hk.tk hk.sp,h3⟩
theorem aWD:AM.Pure aA Γ 47 [.agg zSt.cells] (.tup []):=by
 unfold zSt St.cells;simp only;obtain⟨f1,e1⟩:∃f:Nat->List AVal,f=gf zSt:=⟨_,rfl⟩;refine aZ Tryz.func47 rfl 91 rfl bB rfl λ k=>?_;have kp:=fI k [0,1,2,3,4,5,6,7,13,28,41,54,68,78];refine bS ?_;refine aU (zs ?_);refine bE (X:=Unit) rfl [0,1,2,3,4,5,6,7,13,28,41,54,68,78] (k+1) (λ _=>[(2,(0:Int))]) (λ _=>[(k,⟨7,true,[zSt.cells]⟩)]) (λ _=>True) (λ _=>0) () ?_ trivial ?_;.unfold zSt St.cells;refine cQ ?_;apply zN;exact fH
 intro _ _;unfold zSt St.cells;simp only;refine cQ ?_;apply zN;refine bS ?_;refine aU ⟨λ ht=>zN ?_⟩;refine bE (X:=Unit) rfl [0,1,2,3,4,5,6,7,13,28,41,54,68,78] (k+1) (λ _=>[(3,(0:Int))]) (λ _=>[(k,⟨7,true,[zSt.cells]⟩)]) (λ _=>True) (λ _=>0) () ?_ trivial ?_;.unfold zSt St.cells;refine cQ ?_;apply zN;exact fH
 intro _ _;unfold zSt St.cells;simp only;refine cQ ?_;apply zN;refine bS ?_;refine aU ⟨λ ht=>zN ?_⟩;refine bE (X:=Unit) rfl [0,1,2,3,4,5,6,7,13,28,41,54,68,78] (k+1) (λ _=>[(4,(0:Int))]) (λ _=>[(k,⟨7,true,[zSt.cells]⟩)]) (λ _=>True) (λ _=>0) () ?_ trivial ?_;.unfold zSt St.cells;refine cQ ?_;apply zN;exact fH
 intro _ _;unfold zSt St.cells;simp only;refine cQ ?_;apply zN;refine bS ?_;refine aU ⟨λ ht=>zN ?_⟩;refine bE (X:=Unit) rfl [0,1,2,3,4,5,6,7,13,28,41,54,68,78] (k+1) (λ _=>[(5,(0:Int))]) (λ _=>[(k,⟨7,true,[zSt.cells]⟩)]) (λ _=>True) (λ _=>0) () ?_ trivial ?_;.unfold zSt St.cells;refine cQ ?_;apply zN;exact fH
 intro _ _;unfold zSt St.cells;simp only;refine cQ ?_;apply zN;refine bS ?_;refine aU ⟨λ ht=>zN ?_⟩;refine bE (X:=Unit) rfl [0,1,2,3,4,5,6,7,13,28,41,54,68,78] (k+1) (λ _=>[(6,(0:Int))]) (λ _=>[(k,⟨7,true,[zSt.cells]⟩)]) (λ _=>True) (λ _=>0) () ?_ trivial ?_;.unfold zSt St.cells;refine cQ ?_;apply zN;exact fH
 intro _ _;unfold zSt St.cells;simp only;refine cQ ?_;apply zN;refine bS ?_;refine aU ⟨λ ht=>zN ?_⟩;exact⟨_,rfl,aK _⟩
theorem aSQ{i:Nat}:∀ {H:aS},AM.look H i=none->del H i=H
 |[],_=>by rw[del]
 |(j,B)::r,h=>by
  simp only[AM.look]at h;split at h;.cases h
  rename_i hne;rw[del,if_neg hne,aSQ h]
theorem ZN{p:Nat->Bool}{s:Nat}:∀ {n f:Nat} {R:Nat->List (List AVal)},(∀g,g<n->p (f+g)=true)->rG p (mK f s n R)=true
 |0,_,_,_=>rfl
 |n+1,f,R,h=>by simp only[mK,rG,hY,yV,qO,aC];exact⟨h 0 oO,ZN (n:=n) λ g hg=>by have:=h (g+1) oO;rw[<-this];congr 1;omega⟩
theorem aFO{b n q:Nat}{t:St}(h:b+16<=q)(h2:q<b+21+t.ns):dX (oL b n t) q=true:=by
 unfold dX oL;simp only[AM.look];repeat'(split;(· rfl))
 rw[(oO:q=b+21+(q-(b+21))),uB oO];rfl
theorem aWS(b n:Nat)(t:St):(sH b n t).all (iC (dX (oL b n t)))=true:=by have k:=λ q h1 h2=>aFO (b:=b) (n:=n) (q:=q) (t:=t) h1 h2;simp only[sH,hY,List.all_nil,iC,k (b+16) oO oO,k (b+17) oO oO,k (b+18) oO oO,k (b+19) oO oO,k (b+20) oO oO,a0W]
theorem aWR(b n:Nat)(t:St):rG (dX (oL b n t)) (oL b n t)=true:=by
 have k:=λ q h1 h2=>aFO (b:=b) (n:=n) (q:=q) (t:=t) h1 h2;have hf:=ZN (p:=dX (oL b n t)) (s:=3) (R:=λ g=>kI n (t.sp g)) (n:=t.ns) (f:=b+21) λ g hg=>k _ oO oO;have ho:((zJ (b+21) t.ns n t.ns).all λ row=>row.all (iC (dX (oL b n t))))=true:=by rw[aW];intro row hr;rw[xM]at hr;obtain⟨g,hg,rfl⟩:=cL.1 hr;have:=dO.1 hg;simp only[hY,List.all_nil,iC,k (b+21+g) oO oO,a0W]
 generalize hp:dX (oL b n t)=p at*
 unfold oL;unfold rG at hf⊢
 simp only[hY,k (b+16) oO oO,k (b+17) oO oO,k (b+18) oO oO,k (b+19) oO oO,k (b+20) oO oO,yV,kQ,ho,hf,Bool.or_true]
theorem a3G{b n id:Nat}{t:St}{B:Blk}(h:AM.look (oL b n t) id=some B):b+16<=id/\id<b+21+t.ns:=by
 simp only[oL,AM.look]at h;repeat'(split at h;(· omega))
 have:=QS h;omega
theorem aDZ{Hc:aS}{row:List AVal}(h:row.all clean=true):∀(j:Nat) v v',row[j]? =some v->row[j]? =some v'->Bor Γ Hc v v':=λ j v v' h1 h2=>by rw[h1]at h2;cases h2;exact oY (gP h h1)
theorem aEF(s:St)(hn:Nrm s)(hk:KindsW s)(d e:DE)(hr:DRng d)(hr':DRng e)(hd0:d.size<9223372036854775808)(he0:e.size<9223372036854775808):AM.Pure aA Γ 15 [.agg s.cells,.agg d.cells,.agg e.cells] true:=by
 have hsd:AM.Pure aA Γ 26 [.agg d.cells] d.size:=a1R ⟨d.n0,d.n1,d.n2,d.n3,d.n4,d.n5,d.f0,d.f1,d.f2,d.f3,d.f4,d.f5⟩ hd0;have hse:AM.Pure aA Γ 26 [.agg e.cells] e.size:=a1R ⟨e.n0,e.n1,e.n2,e.n3,e.n4,e.n5,e.f0,e.f1,e.f2,e.f3,e.f4,e.f5⟩ he0;have hsm:=aWI (Γ:=Γ) s;obtain⟨z,ez⟩:∃z,z=decide (DM s):=⟨_,rfl⟩;obtain⟨dn,edn⟩:∃n,n=d.size:=⟨_,rfl⟩;obtain⟨en,een⟩:∃n,n=e.size:=⟨_,rfl⟩;rw[<-ez]at hsm;rw[<-edn]at hsd;rw[<-een]at hse;refine aZ Tryz.func15 rfl 110 rfl bB rfl λ k=>?_;refine bY rfl ?_;(refine gL rfl [0,1,2,3,4,5,6,7,8,9,10,11,12,13,14,15,16,17,30,99] rfl rfl (λ K hK=>?_));simp-dsimp-implicitDefEqProofs (disch:=omega)only[go_sem,iN,eq_self,↓reduceIte];(refine hK _ _ _ _ (λ hx=>?_));clear hx hK;simp-dsimp-implicitDefEqProofs (disch:=omega)only[go_sem,iN,eq_self,↓reduceIte];clear K;refine dI (dJ (k) (by simp-dsimp-implicitDefEqProofs (disch:=omega)only[go_sem,iN,eq_self,↓reduceIte];rfl) rfl) ?_;simp-dsimp-implicitDefEqProofs only[kX,fE,go_sem,eq_self,↓reduceIte];refine dI (dJ (k+1) (by simp-dsimp-implicitDefEqProofs (disch:=omega)only[go_sem,iN,eq_self,↓reduceIte];rfl) rfl) ?_;simp-dsimp-implicitDefEqProofs only[kX,fE,go_sem,eq_self,↓reduceIte];refine dI (dJ (k+2) (by simp-dsimp-implicitDefEqProofs (disch:=omega)only[go_sem,iN,eq_self,↓reduceIte];rfl) rfl) ?_;simp-dsimp-implicitDefEqProofs only[kX,fE,go_sem,eq_self,↓reduceIte]
 cases z with
 |false=>
  have kp:=fI k [0,1,2,3,4,5,6,7,8,9,10,11,12,13,14,15,16,17,30,99];refine bS ?_;refine aU (zs ?_);refine lU [.ret false] ?_;refine dD (zs ?_) (zs ?_);all_goals(try exact hsm)
  refine bS ?_;refine aU ⟨λ ht=>zN ?_⟩;refine aX rfl ⟨_,rfl,aI ?_⟩;rfl
 |true=>
 have hQ:DM s:=of_decide_eq_true ez.symm;by_cases hd:dn<=60;rotate_left 1
 .have hd2:(60:Int)<(dn:Int):=oO;have kp:=fI k [0,1,2,3,4,5,6,7,8,9,10,11,12,13,14,15,16,17,30,99];have uU:= @hd2;refine bS ?_;refine aU (zs ?_);refine lU [.ret true,.ret dn] ?_;refine wM (zs ?_) (zs ?_) (zs ?_);all_goals(try(first|exact hsm|exact hsd))
  refine bS ?_;refine aU ⟨λ ht=>zN ?_⟩;refine aX rfl ⟨_,rfl,aI ?_⟩;rfl
 by_cases he:en<=60;rotate_left 1
 .have hd2:¬(60:Int)<(dn:Int):=oO;have he2:(60:Int)<(en:Int):=oO;have kp:=fI k [0,1,2,3,4,5,6,7,8,9,10,11,12,13,14,15,16,17,30,99];have uU:=zA @hd2 @he2;refine bS ?_;refine aU (zs ?_);refine lU [.ret true,.ret dn,.ret en] ?_;refine DT (zs ?_) (zs ?_) (zs ?_) (zs ?_);all_goals(try(first|exact hsm|exact hsd|exact hse))
  refine bS ?_;refine aU ⟨λ ht=>zN ?_⟩;refine aX rfl ⟨_,rfl,aI ?_⟩;rfl
 have hG:=aCI hn hk hQ;have hdd:d.size<=60:=oO;have hee:e.size<=60:=oO;have hd2:¬(60:Int)<(dn:Int):=oO;have he2:¬(60:Int)<(en:Int):=oO;have hcp:=aLH (Γ:=Γ) s hG.pre.sm;have htd:=aMX (Γ:=Γ) d oO;have hte:=aMX (Γ:=Γ) e oO;have hTd:=KH (Γ:=Γ) d oO;have hTe:=KH (Γ:=Γ) e oO;have hA:=VC (Γ:=Γ) hG oO hr hdd;have hRA:=NU (Γ:=Γ) hG oO hr hdd;have hJ:=a3Z (Γ:=Γ) hG hr hdd hr' hee;have hRJ:=aXR (Γ:=Γ) hG hr hdd hr' hee;have hXs:=aQZ hG hr hdd hr' hee;have hsa:=GG (Γ:=Γ) s hG.pre.sm;have hqd:=UC (Γ:=Γ) d d oO oO;have hqe:=UC (Γ:=Γ) e e oO oO;rw[YW]at hqd hqe;obtain⟨X,eX⟩:∃X,X=jnD s d e:=⟨_,rfl⟩;obtain⟨J,eJ⟩:∃J,J=jnE s d e:=⟨_,rfl⟩;rw[<-eX]at hXs hJ hRJ;rw[<-eJ]at hJ hRJ;have hix:=bDD (Γ:=Γ) X X oO oO;rw[YW]at hix;have hJJ:(J !=J)=false:=by simp
 clear eX eJ;by_cases h0:bW s=[]/\zD s d=true
 .obtain⟨hrt,hok⟩:=h0;obtain⟨q1,q2⟩:=AT hrt (apOkB_iff.1 hok);have hgT:=hG.app hrt hr hdd oO;obtain⟨hrc,r1,r2,r3,r4,r5⟩:=vQ hrt;have hright:=aFI (Γ:=Γ) hG;rw[emp_iff.2 hrt]at hright;have hap:=RW (Γ:=Γ) s d hrt hG.pre hr hdd (by have:=hG.nt;unfold DE.size at hdd;omega) hright hok (k+6);have hown:=LG (b:=k+6) (n:=s.nk) (t:=zG s d) rfl hrc.1 (λ g hg=>hrc.2 g hg);have hTn:(zG s d).ns=s.ns:=rfl;rw[q1,q2]at hRA;obtain⟨T,eT⟩:∃T,T=zG s d:=⟨_,rfl⟩;rw[<-eT]at hRA hgT hap hown hTn;have hss:=GG (Γ:=Γ) T hgT.pre.sm;obtain⟨kb,ekb⟩:∃x,x=k+6+(24+s.ns):=⟨_,rfl⟩;rw[<-ekb]at hap;have hsp:=aWE (Γ:=Γ) T s.nk (k+6) (kb+4) oO hgT.pre.sm.ng oO hgT.pre.sm.nt hgT.pre.sm.ns;have hbor:=aFP (Γ:=Γ) hown;obtain⟨HO,eHO⟩:∃H,H=oL (k+6) s.nk T:=⟨_,rfl⟩;obtain⟨OC,eOC⟩:∃c,c=sH (k+6) s.nk T:=⟨_,rfl⟩;have hin:∀id B,AM.look HO id=some B->id<kb:=λ id B h=>by rw[eHO]at h;have:=a3G h;omega
  have hdl:∀q,kb<=q->del HO q=HO:=λ q hq=>aSQ (by
   cases h:AM.look HO q with
   |none=>rfl
   |some B=>have:=hin q B h;omega)
  have hd0:=hdl kb (aF _);have hd1:=hdl (kb+1) oO;have hd2':=hdl (kb+2) oO;have hd3:=hdl (kb+3) oO;have hb1:OC.all (iC (dX HO))=true:=by rw[eHO,eOC];exact aWS _ _ _
  have hb2:rG (dX HO) HO=true:=by rw[eHO];exact aWR _ _ _
  rw[<-eHO,<-eOC]at hap hsp hbor;have hOl:OC.length=7:=by rw[eOC];rfl
  have hO1:OC.all AM.one=true:=by rw[eOC];rfl
  have hOc:OC.all clean=false:=by rw[eOC];rfl
  have hOt:OC.take 7=OC:=by rw[eOC];rfl
  clear eHO eOC hown;have kp:=fI k [0,1,2,3,4,5,6,7,8,9,10,11,12,13,14,15,16,17,30,99];have uU:=zA @hd2 @he2;refine bS ?_;refine aU (zs ?_);refine lU [.ret true,.ret dn,.ret en] ?_;refine DT (zs ?_) (zs ?_) (zs ?_) (zs ?_);all_goals(try(first|exact hsm|exact hsd|exact hse))
  refine bS ?_;refine aU ⟨λ ht=>zN ?_⟩;refine lU [.ret (.agg s.cells)] ?_;refine dD (zs ?_) (zs ?_);all_goals(try exact hcp)
  refine dI (dJ (k+3) (by simp-dsimp-implicitDefEqProofs (disch:=omega)only[go_sem,iN,hd2,he2,eq_self,↓reduceIte];rfl) rfl) ?_;simp-dsimp-implicitDefEqProofs only[kX,fE,go_sem,hd2,he2,eq_self,↓reduceIte];refine bS ?_;refine aU (zs ?_);refine mN [.ret (.agg d.cells),.ret (.agg d.cells),.ret (.agg e.cells),.ret (.agg e.cells)] ?_;refine zq5 (zs ?_) (zs ?_) (zs ?_) (zs ?_) (zs ?_);all_goals(try(first|exact htd|exact hte|exact hTd|exact hTe))
  refine dI (dJ (k+4) (by simp-dsimp-implicitDefEqProofs (disch:=omega)only[go_sem,iN,hd2,he2,eq_self,↓reduceIte];rfl) rfl) ?_;simp-dsimp-implicitDefEqProofs only[kX,fE,go_sem,hd2,he2,eq_self,↓reduceIte];refine dI (dJ (k+5) (by simp-dsimp-implicitDefEqProofs (disch:=omega)only[go_sem,iN,hd2,he2,eq_self,↓reduceIte];rfl) rfl) ?_;simp-dsimp-implicitDefEqProofs only[kX,fE,go_sem,hd2,he2,eq_self,↓reduceIte];refine bS ?_;refine aU (zs ?_);refine lU [.far (.tup [.agg OC,(0:Int)]) kb [] [] HO] ?_;refine DT (zs ?_) (zs ?_) (zs ?_) (zs ?_);.exact λ q=>rfl
  .exact λ q hq=>rfl
  all_goals(try exact hap)
  have uU:=eQ @hOl @hO1 @hOc @hOt @hd0 @hd1 @hd2' @hd3 (zA @hb1 @hb2);refine bS ?_;refine aU (zs ?_);refine lU [.ret (.tup [.agg X.cells,J])] ?_;refine dD (zs ?_) (zs ?_);all_goals(try exact hJ)
  refine bS ?_;refine aU (zs ?_);refine mN [.ret (.agg d.cells),.ret (.tup [.agg T.cells,(0:Int)])] ?_;refine wM (zs ?_) (zs ?_) (zs ?_);all_goals(try(first|exact htd|exact hRA))
  refine bS ?_;refine aU (zs ?_);refine mN [.ret (.agg d.cells),.ret (.agg e.cells),.ret (.tup [.agg X.cells,J])] ?_;refine DT (zs ?_) (zs ?_) (zs ?_) (zs ?_);all_goals(try(first|exact htd|exact hte|exact hRJ))
  have uU:=eQ @hOl @hO1 @hOc @hOt @hJJ @hd0 @hd1 @hd2' (AW @hd3 @hb1 @hb2);refine bS ?_;refine aU (zs ?_);obtain⟨NM,eNM⟩:∃n,n=HO.map (·.1):=⟨_,rfl⟩;refine lU [.raw (some 74) ⟨.lit (.bool true),kb+4,[],NM⟩,.ret true,.ret true,.ret true] ?_;refine zq6 ⟨⟨λ hg=>⟨?_⟩⟩⟩ ⟨⟨λ hg=>⟨?_⟩⟩⟩ ⟨⟨λ hg=>⟨?_⟩⟩⟩ ⟨⟨λ hg=>⟨?_⟩⟩⟩ ⟨⟨λ hg=>⟨?_⟩⟩⟩ ⟨⟨λ hg=>⟨?_⟩⟩⟩
  .rw[eNM];refine aWK (Hc:=HO) (vs':=[.agg T.cells,.agg T.cells]) rfl rfl rfl rfl (.cons hbor (.cons (Bor.agg rfl (aDZ rfl)) .nil)) (λ id B h=>?_) rfl hss;have hlt:=hin id B h;simp only[AM.look];repeat rw[if_neg oO]
   exact h
  all_goals(try(first|exact hix|exact hqd|exact hqe))
  all_goals(try exact absurd trivial ‹¬True›)
  refine bS ?_;refine aU ⟨λ ht=>zN ?_⟩;refine lU [.far (.tup []) (kb+4) [(kb+3,⟨6,true,[X.cells]⟩),(kb+2,⟨7,true,[T.cells]⟩),(kb+1,⟨6,true,[X.cells]⟩),(kb,⟨7,false,[OC]⟩)] HO []] ?_;refine wM (zs ?_) (zs ?_) (zs ?_);.exact λ q=>rfl
  .exact λ q hq=>by
    have hlt:q<kb:=by
     rcases hq with hq|hq;.simp only[dX]at hq;obtain⟨B,hB⟩:=fK.1 hq;exact hin q B hB
     simp[dX,AM.look]at hq
    simp only[AM.look];repeat rw[if_neg oO]
  all_goals(try exact hsp)
  refine bS ?_;refine aU (zs ?_);refine lU [.ret true,.ret true] ?_;refine wM (zs ?_) (zs ?_) (zs ?_);all_goals(try(first|exact hsa|exact hqd))
  refine bS ?_;refine aU (zs ?_);refine aX rfl ⟨_,rfl,aI ?_⟩;rfl
 have hE:nP s d≠0/\jS s d=zSt:=by
  by_cases hrt:bW s=[];.obtain⟨q1,q2⟩:=BU hrt (λ h=>h0 ⟨hrt,apOkB_iff.2 h⟩);rw[q1,q2];exact⟨by decide,rfl⟩
  obtain⟨q1,q2⟩:=FF (d:=d) hrt;rw[q1,q2];exact⟨by decide,rfl⟩
 obtain⟨E,eE⟩:∃E,E=nP s d:=⟨_,rfl⟩;rw[hE.2,<-eE]at hA hRA;have hss:=GG (Γ:=Γ) zSt ⟨by decide,by decide,by decide,by decide,by decide,λ g hg=>absurd hg (bJ _)⟩;have hsz:=aWD (Γ:=Γ);obtain⟨T,eT⟩:∃T,T=zSt:=⟨_,rfl⟩;rw[<-eT]at hA hRA hss hsz;have hEE:(E !=E)=false:=by simp
 have kp:=fI k [0,1,2,3,4,5,6,7,8,9,10,11,12,13,14,15,16,17,30,99];have uU:=zA @hd2 @he2;refine bS ?_;refine aU (zs ?_);refine lU [.ret true,.ret dn,.ret en] ?_;refine DT (zs ?_) (zs ?_) (zs ?_) (zs ?_);all_goals(try(first|exact hsm|exact hsd|exact hse))
 refine bS ?_;refine aU ⟨λ ht=>zN ?_⟩;refine lU [.ret (.agg s.cells)] ?_;refine dD (zs ?_) (zs ?_);all_goals(try exact hcp)
 refine dI (dJ (k+3) (by simp-dsimp-implicitDefEqProofs (disch:=omega)only[go_sem,iN,hd2,he2,eq_self,↓reduceIte];rfl) rfl) ?_;simp-dsimp-implicitDefEqProofs only[kX,fE,go_sem,hd2,he2,eq_self,↓reduceIte];refine bS ?_;refine aU (zs ?_);refine mN [.ret (.agg d.cells),.ret (.agg d.cells),.ret (.agg e.cells),.ret (.agg e.cells)] ?_;refine zq5 (zs ?_) (zs ?_) (zs ?_) (zs ?_) (zs ?_);all_goals(try(first|exact htd|exact hte|exact hTd|exact hTe))
 refine dI (dJ (k+4) (by simp-dsimp-implicitDefEqProofs (disch:=omega)only[go_sem,iN,hd2,he2,eq_self,↓reduceIte];rfl) rfl) ?_;simp-dsimp-implicitDefEqProofs only[kX,fE,go_sem,hd2,he2,eq_self,↓reduceIte];refine dI (dJ (k+5) (by simp-dsimp-implicitDefEqProofs (disch:=omega)only[go_sem,iN,hd2,he2,eq_self,↓reduceIte];rfl) rfl) ?_;simp-dsimp-implicitDefEqProofs only[kX,fE,go_sem,hd2,he2,eq_self,↓reduceIte];refine bS ?_;refine aU (zs ?_);refine lU [.ret (.tup [.agg T.cells,E])] ?_;refine dD (zs ?_) (zs ?_);all_goals(try exact hA)
 have uU:=Go.AM.uU;refine bS ?_;refine aU (zs ?_);refine lU [.ret (.tup [.agg X.cells,J])] ?_;refine dD (zs ?_) (zs ?_);all_goals(try exact hJ)
 refine bS ?_;refine aU (zs ?_);refine mN [.ret (.agg d.cells),.ret (.tup [.agg T.cells,E])] ?_;refine wM (zs ?_) (zs ?_) (zs ?_);all_goals(try(first|exact htd|exact hRA))
 refine bS ?_;refine aU (zs ?_);refine mN [.ret (.agg d.cells),.ret (.agg e.cells),.ret (.tup [.agg X.cells,J])] ?_;refine DT (zs ?_) (zs ?_) (zs ?_) (zs ?_);all_goals(try(first|exact htd|exact hte|exact hRJ))
 have uU:=zA @hJJ @hEE;refine bS ?_;refine aU (zs ?_);refine lU [.ret true,.ret true,.ret true,.ret true] ?_;refine zq5 (zs ?_) (zs ?_) (zs ?_) (zs ?_) (zs ?_);all_goals(try(first|exact hss|exact hix|exact hqd|exact hqe))
 refine bS ?_;refine aU ⟨λ ht=>zN ?_⟩;refine lU [.ret (.tup [])] ?_;refine dD (zs ?_) (zs ?_);all_goals(try exact hsz)
 refine bS ?_;refine aU (zs ?_);refine lU [.ret true,.ret true] ?_;refine wM (zs ?_) (zs ?_) (zs ?_);all_goals(try(first|exact hsa|exact hqd))
 refine bS ?_;refine aU (zs ?_);refine aX rfl ⟨_,rfl,aI ?_⟩;rfl
theorem aLR(s:St)(hk:KindsW s)(d e:DE)(hr:DRng d)(hr':DRng e)(hd0:d.size<9223372036854775808)(he0:e.size<9223372036854775808):AM.Pure aA Γ 15 [.agg s.cells,.agg d.cells,.agg e.cells] true:=
 ZX (aEF (pA s).st (aVR s) (a2M hk) d e hr hr' hd0 he0) (.cons (aMY s) (.cons (aK _) (.cons (aK _) .nil)))
end Go.Proofs.T
end
section
namespace Go.Proofs
open Go.Shelf
def Tryz.layItoa_ren:Go.Shelf.Ren:=⟨λ |171=>216|243=>258|246=>290|283=>293|284=>294|285=>295|286=>296|129=>207|317=>311|318=>312|319=>313|320=>314|337=>319|338=>320|n=>n,λ |3=>3|9=>9|2=>2|4=>4|171=>333|0=>0|53=>22|37=>238|5=>5|173=>335|212=>351|51=>50|20=>20|213=>352|46=>189|232=>363|233=>364|n=>n,λ |17=>3|18=>6|19=>7|n=>n⟩
theorem Tryz.layItoa:Go.Proofs.LaysM.n171 aA Tryz.layItoa_ren:={
 mixed:=by kernel_rfl
 f129:=Tryz.func207.trans (congrArg some (by kernel_rfl))
 f171:=Tryz.func216.trans (congrArg some (by kernel_rfl))
 f243:=Tryz.func258.trans (congrArg some (by kernel_rfl))
 f246:=Tryz.func290.trans (congrArg some (by kernel_rfl))
 f283:=Tryz.func293.trans (congrArg some (by kernel_rfl))
 f284:=Tryz.func294.trans (congrArg some (by kernel_rfl))
 f285:=Tryz.func295.trans (congrArg some (by kernel_rfl))
 f286:=Tryz.func296.trans (congrArg some (by kernel_rfl))
 f317:=Tryz.func311.trans (congrArg some (by kernel_rfl))
 f318:=Tryz.func312.trans (congrArg some (by kernel_rfl))
 f319:=Tryz.func313.trans (congrArg some (by kernel_rfl))
 f320:=Tryz.func314.trans (congrArg some (by kernel_rfl))
 f337:=Tryz.func319.trans (congrArg some (by kernel_rfl))
 f338:=Tryz.func320.trans (congrArg some (by kernel_rfl))
 t0:=HP
 a0:=Tryz.isAgg0
 z0:=bFT
 v0:=PA
 t2:=Tryz.underlying2
 a2:=Tryz.isAgg2
 z2:=Tryz.sizeOf2
 v2:=Tryz.zeroValue2
 t3:=dB
 a3:=PF
 z3:=DR
 v3:=qT
 t4:=lW
 a4:=aME
 z4:=PD
 v4:=vI
 t5:=oR
 a5:=aMD
 z5:=PC
 v5:=vH
 t9:=kC
 a9:=aMC
 z9:=PB
 v9:=vG
 t20:=Tryz.underlying20
 a20:=Tryz.isAgg20
 z20:=Tryz.sizeOf20
 v20:=Tryz.zeroValue20
 t37:=a0O
 a37:=Tryz.isAgg238
 z37:=Tryz.sizeOf238
 v37:=Tryz.zeroValue238
 t46:=oB
 a46:=FN
 z46:=zH
 v46:=pU
 t51:=jB
 a51:=PE
 z51:=FM
 v51:=rZ
 t53:=iL
 a53:=Tryz.isAgg22
 z53:=Tryz.sizeOf22
 v53:=aHN
 t171:=JY
 a171:=Tryz.isAgg333
 z171:=Tryz.sizeOf333
 v171:=Tryz.zeroValue333
 t173:=Tryz.underlying335
 a173:=Tryz.isAgg335
 z173:=Tryz.sizeOf335
 v173:=Tryz.zeroValue335
 t212:=Tryz.underlying351
 a212:=Tryz.isAgg351
 z212:=Tryz.sizeOf351
 v212:=Tryz.zeroValue351
 t213:=Tryz.underlying352
 a213:=Tryz.isAgg352
 z213:=Tryz.sizeOf352
 t232:=Tryz.underlying363
 a232:=Tryz.isAgg363
 z232:=Tryz.sizeOf363
 v232:=Tryz.zeroValue363
 t233:=Tryz.underlying364
 a233:=Tryz.isAgg364
 z233:=Tryz.sizeOf364
 v233:=Tryz.zeroValue364
 g17:=by kernel_rfl
 g18:=by kernel_rfl
 g19:=by kernel_rfl
 i0:=by kernel_rfl
 i2:=by kernel_rfl
 i3:=by kernel_rfl
 i4:=by kernel_rfl
 i5:=by kernel_rfl
 i9:=by kernel_rfl
 i20:=by kernel_rfl
 i37:=by kernel_rfl
 i46:=by kernel_rfl
 i51:=by kernel_rfl
 i53:=by kernel_rfl
 i171:=by kernel_rfl
 i173:=by kernel_rfl
 i212:=by kernel_rfl
 i232:=by kernel_rfl
 i233:=by kernel_rfl
 m17:=by kernel_rfl
 m18:=by kernel_rfl
 m19:=by kernel_rfl}
def Tryz.layAtoi_ren:Go.Shelf.Ren:=⟨λ |172=>150|244=>220|245=>221|247=>263|279=>264|280=>265|281=>266|282=>267|287=>222|316=>297|171=>216|205=>298|321=>268|322=>269|243=>258|246=>290|283=>293|284=>294|285=>295|286=>296|129=>207|317=>311|318=>312|319=>313|320=>314|337=>319|338=>320|n=>n,λ |9=>9|3=>3|75=>216|76=>217|4=>4|5=>5|167=>313|37=>238|0=>0|85=>314|2=>2|168=>316|53=>22|175=>219|46=>189|210=>339|127=>332|145=>355|143=>353|21=>21|171=>333|173=>335|212=>351|51=>50|20=>20|213=>352|232=>363|233=>364|80=>312|n=>n,λ |15=>0|16=>1|17=>3|18=>6|19=>7|n=>n⟩
theorem Tryz.layAtoi:Go.Proofs.LaysC.n172 aA Tryz.layAtoi_ren:={
 mixed:=by kernel_rfl
 f129:=Tryz.func207.trans (congrArg some (by kernel_rfl))
 f171:=Tryz.func216.trans (congrArg some (by kernel_rfl))
 f172:=Tryz.func150.trans (congrArg some (by kernel_rfl))
 f205:=Tryz.func298.trans (congrArg some (by kernel_rfl))
 f243:=Tryz.func258.trans (congrArg some (by kernel_rfl))
 f244:=Tryz.func220.trans (congrArg some (by kernel_rfl))
 f245:=Tryz.func221.trans (congrArg some (by kernel_rfl))
 f246:=Tryz.func290.trans (congrArg some (by kernel_rfl))
 f247:=Tryz.func263.trans (congrArg some (by kernel_rfl))
 f279:=Tryz.func264.trans (congrArg some (by kernel_rfl))
 f280:=Tryz.func265.trans (congrArg some (by kernel_rfl))
 f281:=Tryz.func266.trans (congrArg some (by kernel_rfl))
 f282:=Tryz.func267.trans (congrArg some (by kernel_rfl))
 f283:=Tryz.func293.trans (congrArg some (by kernel_rfl))
 f284:=Tryz.func294.trans (congrArg some (by kernel_rfl))
 f285:=Tryz.func295.trans (congrArg some (by kernel_rfl))
 f286:=Tryz.func296.trans (congrArg some (by kernel_rfl))
 f287:=Tryz.func222.trans (congrArg some (by kernel_rfl))
 f316:=Tryz.func297.trans (congrArg some (by kernel_rfl))
 f317:=Tryz.func311.trans (congrArg some (by kernel_rfl))
 f318:=Tryz.func312.trans (congrArg some (by kernel_rfl))
 f319:=Tryz.func313.trans (congrArg some (by kernel_rfl))
 f320:=Tryz.func314.trans (congrArg some (by kernel_rfl))
 f321:=Tryz.func268.trans (congrArg some (by kernel_rfl))
 f322:=Tryz.func269.trans (congrArg some (by kernel_rfl))
 f337:=Tryz.func319.trans (congrArg some (by kernel_rfl))
 f338:=Tryz.func320.trans (congrArg some (by kernel_rfl))
 t0:=HP
 a0:=Tryz.isAgg0
 z0:=bFT
 v0:=PA
 t2:=Tryz.underlying2
 a2:=Tryz.isAgg2
 z2:=Tryz.sizeOf2
 v2:=Tryz.zeroValue2
 t3:=dB
 a3:=PF
 z3:=DR
 v3:=qT
 t4:=lW
 a4:=aME
 z4:=PD
 v4:=vI
 t5:=oR
 a5:=aMD
 z5:=PC
 v5:=vH
 t9:=kC
 a9:=aMC
 z9:=PB
 v9:=vG
 t20:=Tryz.underlying20
 a20:=Tryz.isAgg20
 z20:=Tryz.sizeOf20
 v20:=Tryz.zeroValue20
 t21:=Tryz.underlying21
 a21:=Tryz.isAgg21
 z21:=Tryz.sizeOf21
 v21:=Tryz.zeroValue21
 t37:=a0O
 a37:=Tryz.isAgg238
 z37:=Tryz.sizeOf238
 v37:=Tryz.zeroValue238
 t46:=oB
 a46:=FN
 z46:=zH
 v46:=pU
 t51:=jB
 a51:=PE
 z51:=FM
 v51:=rZ
 t53:=iL
 a53:=Tryz.isAgg22
 z53:=Tryz.sizeOf22
 v53:=aHN
 t75:=a0P
 a75:=Tryz.isAgg216
 z75:=Tryz.sizeOf216
 v75:=Tryz.zeroValue216
 t76:=Tryz.underlying217
 a76:=Tryz.isAgg217
 z76:=Tryz.sizeOf217
 v76:=Tryz.zeroValue217
 t85:=Tryz.underlying314
 a85:=Tryz.isAgg314
 z85:=Tryz.sizeOf314
 v85:=Tryz.zeroValue314
 t127:=Tryz.underlying332
 a127:=Tryz.isAgg332
 z127:=Tryz.sizeOf332
 v127:=Tryz.zeroValue332
 t143:=a0N
 a143:=Tryz.isAgg353
 z143:=Tryz.sizeOf353
 v143:=Tryz.zeroValue353
 t145:=a0M
 a145:=Tryz.isAgg355
 z145:=Tryz.sizeOf355
 v145:=Tryz.zeroValue355
 t167:=Tryz.underlying313
 a167:=Tryz.isAgg313
 z167:=Tryz.sizeOf313
 v167:=Tryz.zeroValue313
 t168:=Tryz.underlying316
 a168:=Tryz.isAgg316
 z168:=Tryz.sizeOf316
 v168:=Tryz.zeroValue316
 t171:=JY
 a171:=Tryz.isAgg333
 z171:=Tryz.sizeOf333
 v171:=Tryz.zeroValue333
 t173:=Tryz.underlying335
 a173:=Tryz.isAgg335
 z173:=Tryz.sizeOf335
 v173:=Tryz.zeroValue335
 t175:=Tryz.underlying219
 a175:=Tryz.isAgg219
 z175:=Tryz.sizeOf219
 v175:=Tryz.zeroValue219
 t210:=Tryz.underlying339
 a210:=Tryz.isAgg339
 z210:=Tryz.sizeOf339
 v210:=Tryz.zeroValue339
 t212:=Tryz.underlying351
 a212:=Tryz.isAgg351
 z212:=Tryz.sizeOf351
 v212:=Tryz.zeroValue351
 t213:=Tryz.underlying352
 a213:=Tryz.isAgg352
 z213:=Tryz.sizeOf352
 t232:=Tryz.underlying363
 a232:=Tryz.isAgg363
 z232:=Tryz.sizeOf363
 v232:=Tryz.zeroValue363
 t233:=Tryz.underlying364
 a233:=Tryz.isAgg364
 z233:=Tryz.sizeOf364
 v233:=Tryz.zeroValue364
 g15:=by kernel_rfl
 g16:=by kernel_rfl
 g17:=by kernel_rfl
 g18:=by kernel_rfl
 g19:=by kernel_rfl
 t80:=Tryz.underlying312
 a80:=Tryz.isAgg312
 z80:=Tryz.sizeOf312
 v80:=Tryz.zeroValue312
 i0:=by kernel_rfl
 i2:=by kernel_rfl
 i3:=by kernel_rfl
 i4:=by kernel_rfl
 i5:=by kernel_rfl
 i9:=by kernel_rfl
 i20:=by kernel_rfl
 i21:=by kernel_rfl
 i37:=by kernel_rfl
 i46:=by kernel_rfl
 i51:=by kernel_rfl
 i53:=by kernel_rfl
 i75:=by kernel_rfl
 i76:=by kernel_rfl
 i80:=by kernel_rfl
 i85:=by kernel_rfl
 i127:=by kernel_rfl
 i143:=by kernel_rfl
 i145:=by kernel_rfl
 i167:=by kernel_rfl
 i168:=by kernel_rfl
 i171:=by kernel_rfl
 i173:=by kernel_rfl
 i175:=by kernel_rfl
 i210:=by kernel_rfl
 i212:=by kernel_rfl
 i232:=by kernel_rfl
 i233:=by kernel_rfl
 m15:=by kernel_rfl
 m16:=by kernel_rfl
 m17:=by kernel_rfl
 m18:=by kernel_rfl
 m19:=by kernel_rfl
 c0:=by kernel_rfl
 c2:=by kernel_rfl
 c3:=by kernel_rfl
 c4:=by kernel_rfl
 c5:=by kernel_rfl
 c9:=by kernel_rfl
 c20:=by kernel_rfl
 c21:=by kernel_rfl
 c37:=by kernel_rfl
 c46:=by kernel_rfl
 c51:=by kernel_rfl
 c53:=by kernel_rfl
 c75:=by kernel_rfl
 c76:=by kernel_rfl
 c80:=by kernel_rfl
 c85:=by kernel_rfl
 c127:=by kernel_rfl
 c143:=by kernel_rfl
 c145:=by kernel_rfl
 c167:=by kernel_rfl
 c168:=by kernel_rfl
 c171:=by kernel_rfl
 c173:=by kernel_rfl
 c175:=by kernel_rfl
 c210:=by kernel_rfl
 c212:=by kernel_rfl
 c213:=by kernel_rfl
 c232:=by kernel_rfl
 c233:=by kernel_rfl}
def Tryz.laySplit_ren:Go.Shelf.Ren:=⟨λ |146=>144|221=>215|268=>255|138=>256|143=>257|195=>286|197=>287|218=>288|219=>289|260=>304|217=>305|225=>306|224=>307|267=>308|266=>317|314=>318|n=>n,λ |9=>9|31=>37|3=>3|4=>4|0=>0|105=>328|21=>21|5=>5|46=>189|119=>357|139=>360|138=>359|146=>361|51=>50|n=>n,λ |1=>2|3=>4|4=>5|n=>n⟩
theorem Tryz.laySplit:Go.Proofs.Lays.n146 aA Tryz.laySplit_ren:={
 mixed:=by kernel_rfl
 f138:=Tryz.func256.trans (congrArg some (by kernel_rfl))
 f143:=Tryz.func257.trans (congrArg some (by kernel_rfl))
 f146:=Tryz.func144.trans (congrArg some (by kernel_rfl))
 f195:=Tryz.func286.trans (congrArg some (by kernel_rfl))
 f197:=Tryz.func287.trans (congrArg some (by kernel_rfl))
 f217:=Tryz.func305.trans (congrArg some (by kernel_rfl))
 f218:=Tryz.func288.trans (congrArg some (by kernel_rfl))
 f219:=Tryz.func289.trans (congrArg some (by kernel_rfl))
 f221:=Tryz.func215.trans (congrArg some (by kernel_rfl))
 f224:=Tryz.func307.trans (congrArg some (by kernel_rfl))
 f225:=Tryz.func306.trans (congrArg some (by kernel_rfl))
 f260:=Tryz.func304.trans (congrArg some (by kernel_rfl))
 f266:=Tryz.func317.trans (congrArg some (by kernel_rfl))
 f267:=Tryz.func308.trans (congrArg some (by kernel_rfl))
 f268:=Tryz.func255.trans (congrArg some (by kernel_rfl))
 f314:=Tryz.func318.trans (congrArg some (by kernel_rfl))
 t0:=HP
 a0:=Tryz.isAgg0
 z0:=bFT
 v0:=PA
 t3:=dB
 a3:=PF
 z3:=DR
 v3:=qT
 t4:=lW
 a4:=aME
 z4:=PD
 v4:=vI
 t5:=oR
 a5:=aMD
 z5:=PC
 v5:=vH
 t9:=kC
 a9:=aMC
 z9:=PB
 v9:=vG
 t21:=Tryz.underlying21
 a21:=Tryz.isAgg21
 z21:=Tryz.sizeOf21
 v21:=Tryz.zeroValue21
 t31:=Tryz.underlying37
 a31:=Tryz.isAgg37
 z31:=Tryz.sizeOf37
 v31:=Tryz.zeroValue37
 t46:=oB
 a46:=FN
 z46:=zH
 v46:=pU
 t51:=jB
 a51:=PE
 z51:=FM
 v51:=rZ
 t105:=Tryz.underlying328
 a105:=Tryz.isAgg328
 z105:=Tryz.sizeOf328
 v105:=Tryz.zeroValue328
 t119:=Tryz.underlying357
 a119:=Tryz.isAgg357
 z119:=Tryz.sizeOf357
 t138:=Tryz.underlying359
 a138:=Tryz.isAgg359
 z138:=Tryz.sizeOf359
 v138:=Tryz.zeroValue359
 t139:=Tryz.underlying360
 a139:=Tryz.isAgg360
 z139:=Tryz.sizeOf360
 v139:=Tryz.zeroValue360
 t146:=Tryz.underlying361
 a146:=Tryz.isAgg361
 z146:=Tryz.sizeOf361
 v146:=Tryz.zeroValue361
 g1:=by kernel_rfl
 g3:=by kernel_rfl
 g4:=by kernel_rfl}
def Tryz.layCut_ren:Go.Shelf.Ren:=⟨λ |145=>224|220=>270|219=>289|217=>305|225=>306|224=>307|267=>308|266=>317|314=>318|n=>n,λ |9=>9|4=>4|59=>277|3=>3|5=>5|46=>189|146=>361|51=>50|n=>n,λ |1=>2|n=>n⟩
theorem Tryz.layCut:Go.Proofs.Lays.n145 aA Tryz.layCut_ren:={
 mixed:=by kernel_rfl
 f145:=Tryz.func224.trans (congrArg some (by kernel_rfl))
 f217:=Tryz.func305.trans (congrArg some (by kernel_rfl))
 f219:=Tryz.func289.trans (congrArg some (by kernel_rfl))
 f220:=Tryz.func270.trans (congrArg some (by kernel_rfl))
 f224:=Tryz.func307.trans (congrArg some (by kernel_rfl))
 f225:=Tryz.func306.trans (congrArg some (by kernel_rfl))
 f266:=Tryz.func317.trans (congrArg some (by kernel_rfl))
 f267:=Tryz.func308.trans (congrArg some (by kernel_rfl))
 f314:=Tryz.func318.trans (congrArg some (by kernel_rfl))
 t3:=dB
 a3:=PF
 z3:=DR
 v3:=qT
 t4:=lW
 a4:=aME
 z4:=PD
 v4:=vI
 t5:=oR
 a5:=aMD
 z5:=PC
 v5:=vH
 t9:=kC
 a9:=aMC
 z9:=PB
 v9:=vG
 t46:=oB
 a46:=FN
 z46:=zH
 v46:=pU
 t51:=jB
 a51:=PE
 z51:=FM
 v51:=rZ
 t59:=Tryz.underlying277
 a59:=Tryz.isAgg277
 z59:=Tryz.sizeOf277
 v59:=Tryz.zeroValue277
 t146:=Tryz.underlying361
 a146:=Tryz.isAgg361
 z146:=Tryz.sizeOf361
 v146:=Tryz.zeroValue361
 g1:=by kernel_rfl}
def Tryz.layContains_ren:Go.Shelf.Ren:=⟨λ |144=>225|143=>257|219=>289|217=>305|225=>306|224=>307|267=>308|266=>317|314=>318|n=>n,λ |9=>9|4=>4|3=>3|5=>5|46=>189|146=>361|51=>50|n=>n,λ |1=>2|n=>n⟩
theorem Tryz.layContains:Go.Proofs.Lays.n144 aA Tryz.layContains_ren:={
 mixed:=by kernel_rfl
 f143:=Tryz.func257.trans (congrArg some (by kernel_rfl))
 f144:=Tryz.func225.trans (congrArg some (by kernel_rfl))
 f217:=Tryz.func305.trans (congrArg some (by kernel_rfl))
 f219:=Tryz.func289.trans (congrArg some (by kernel_rfl))
 f224:=Tryz.func307.trans (congrArg some (by kernel_rfl))
 f225:=Tryz.func306.trans (congrArg some (by kernel_rfl))
 f266:=Tryz.func317.trans (congrArg some (by kernel_rfl))
 f267:=Tryz.func308.trans (congrArg some (by kernel_rfl))
 f314:=Tryz.func318.trans (congrArg some (by kernel_rfl))
 t3:=dB
 a3:=PF
 z3:=DR
 v3:=qT
 t4:=lW
 a4:=aME
 z4:=PD
 v4:=vI
 t5:=oR
 a5:=aMD
 z5:=PC
 v5:=vH
 t9:=kC
 a9:=aMC
 z9:=PB
 v9:=vG
 t46:=oB
 a46:=FN
 z46:=zH
 v46:=pU
 t51:=jB
 a51:=PE
 z51:=FM
 v51:=rZ
 t146:=Tryz.underlying361
 a146:=Tryz.isAgg361
 z146:=Tryz.sizeOf361
 v146:=Tryz.zeroValue361
 g1:=by kernel_rfl}
def Tryz.layPu_ren:Go.Shelf.Ren:=⟨λ |14=>152|16=>222|17=>221|19=>268|20=>269|21=>264|22=>265|23=>266|24=>267|25=>297|27=>216|26=>298|28=>258|29=>290|30=>293|31=>294|32=>295|33=>296|35=>207|34=>311|36=>312|37=>313|38=>314|39=>319|40=>320|n=>n,λ |9=>9|3=>3|22=>22|24=>216|25=>219|4=>4|34=>313|5=>5|36=>189|37=>238|0=>0|39=>316|21=>21|44=>339|47=>332|50=>355|48=>353|2=>2|52=>333|55=>335|59=>351|60=>50|20=>20|61=>352|65=>363|66=>364|67=>312|n=>n,λ |0=>0|1=>1|2=>3|3=>6|4=>7|n=>n⟩
theorem Tryz.layPu:Go.Proofs.LaysPu.n14 aA Tryz.layPu_ren:={
 mixed:=by kernel_rfl
 f14:=Tryz.func152.trans (congrArg some (by kernel_rfl))
 f16:=Tryz.func222.trans (congrArg some (by kernel_rfl))
 f17:=Tryz.func221.trans (congrArg some (by kernel_rfl))
 f19:=Tryz.func268.trans (congrArg some (by kernel_rfl))
 f20:=Tryz.func269.trans (congrArg some (by kernel_rfl))
 f21:=Tryz.func264.trans (congrArg some (by kernel_rfl))
 f22:=Tryz.func265.trans (congrArg some (by kernel_rfl))
 f23:=Tryz.func266.trans (congrArg some (by kernel_rfl))
 f24:=Tryz.func267.trans (congrArg some (by kernel_rfl))
 f25:=Tryz.func297.trans (congrArg some (by kernel_rfl))
 f26:=Tryz.func298.trans (congrArg some (by kernel_rfl))
 f27:=Tryz.func216.trans (congrArg some (by kernel_rfl))
 f28:=Tryz.func258.trans (congrArg some (by kernel_rfl))
 f29:=Tryz.func290.trans (congrArg some (by kernel_rfl))
 f30:=Tryz.func293.trans (congrArg some (by kernel_rfl))
 f31:=Tryz.func294.trans (congrArg some (by kernel_rfl))
 f32:=Tryz.func295.trans (congrArg some (by kernel_rfl))
 f33:=Tryz.func296.trans (congrArg some (by kernel_rfl))
 f34:=Tryz.func311.trans (congrArg some (by kernel_rfl))
 f35:=Tryz.func207.trans (congrArg some (by kernel_rfl))
 f36:=Tryz.func312.trans (congrArg some (by kernel_rfl))
 f37:=Tryz.func313.trans (congrArg some (by kernel_rfl))
 f38:=Tryz.func314.trans (congrArg some (by kernel_rfl))
 f39:=Tryz.func319.trans (congrArg some (by kernel_rfl))
 f40:=Tryz.func320.trans (congrArg some (by kernel_rfl))
 t0:=HP
 a0:=Tryz.isAgg0
 z0:=bFT
 v0:=PA
 i0:=by kernel_rfl
 t2:=Tryz.underlying2
 a2:=Tryz.isAgg2
 z2:=Tryz.sizeOf2
 v2:=Tryz.zeroValue2
 i2:=by kernel_rfl
 t3:=dB
 a3:=PF
 z3:=DR
 v3:=qT
 i3:=by kernel_rfl
 t4:=lW
 a4:=aME
 z4:=PD
 v4:=vI
 i4:=by kernel_rfl
 t5:=oR
 a5:=aMD
 z5:=PC
 v5:=vH
 i5:=by kernel_rfl
 t9:=kC
 a9:=aMC
 z9:=PB
 v9:=vG
 i9:=by kernel_rfl
 t20:=Tryz.underlying20
 a20:=Tryz.isAgg20
 z20:=Tryz.sizeOf20
 v20:=Tryz.zeroValue20
 i20:=by kernel_rfl
 t21:=Tryz.underlying21
 a21:=Tryz.isAgg21
 z21:=Tryz.sizeOf21
 v21:=Tryz.zeroValue21
 i21:=by kernel_rfl
 t22:=iL
 a22:=Tryz.isAgg22
 z22:=Tryz.sizeOf22
 v22:=aHN
 i22:=by kernel_rfl
 t24:=a0P
 a24:=Tryz.isAgg216
 z24:=Tryz.sizeOf216
 v24:=Tryz.zeroValue216
 i24:=by kernel_rfl
 t25:=Tryz.underlying219
 a25:=Tryz.isAgg219
 z25:=Tryz.sizeOf219
 v25:=Tryz.zeroValue219
 i25:=by kernel_rfl
 t34:=Tryz.underlying313
 a34:=Tryz.isAgg313
 z34:=Tryz.sizeOf313
 v34:=Tryz.zeroValue313
 i34:=by kernel_rfl
 c34:=by kernel_rfl
 t36:=oB
 a36:=FN
 z36:=zH
 v36:=pU
 i36:=by kernel_rfl
 t37:=a0O
 a37:=Tryz.isAgg238
 z37:=Tryz.sizeOf238
 v37:=Tryz.zeroValue238
 i37:=by kernel_rfl
 t39:=Tryz.underlying316
 a39:=Tryz.isAgg316
 z39:=Tryz.sizeOf316
 v39:=Tryz.zeroValue316
 i39:=by kernel_rfl
 t44:=Tryz.underlying339
 a44:=Tryz.isAgg339
 z44:=Tryz.sizeOf339
 v44:=Tryz.zeroValue339
 i44:=by kernel_rfl
 t47:=Tryz.underlying332
 a47:=Tryz.isAgg332
 z47:=Tryz.sizeOf332
 v47:=Tryz.zeroValue332
 i47:=by kernel_rfl
 t48:=a0N
 a48:=Tryz.isAgg353
 z48:=Tryz.sizeOf353
 v48:=Tryz.zeroValue353
 i48:=by kernel_rfl
 t50:=a0M
 a50:=Tryz.isAgg355
 z50:=Tryz.sizeOf355
 v50:=Tryz.zeroValue355
 i50:=by kernel_rfl
 t52:=JY
 a52:=Tryz.isAgg333
 z52:=Tryz.sizeOf333
 v52:=Tryz.zeroValue333
 i52:=by kernel_rfl
 t55:=Tryz.underlying335
 a55:=Tryz.isAgg335
 z55:=Tryz.sizeOf335
 v55:=Tryz.zeroValue335
 i55:=by kernel_rfl
 t59:=Tryz.underlying351
 a59:=Tryz.isAgg351
 z59:=Tryz.sizeOf351
 v59:=Tryz.zeroValue351
 i59:=by kernel_rfl
 t60:=jB
 a60:=PE
 z60:=FM
 v60:=rZ
 i60:=by kernel_rfl
 t61:=Tryz.underlying352
 a61:=Tryz.isAgg352
 z61:=Tryz.sizeOf352
 t65:=Tryz.underlying363
 a65:=Tryz.isAgg363
 z65:=Tryz.sizeOf363
 v65:=Tryz.zeroValue363
 i65:=by kernel_rfl
 t66:=Tryz.underlying364
 a66:=Tryz.isAgg364
 z66:=Tryz.sizeOf364
 v66:=Tryz.zeroValue364
 i66:=by kernel_rfl
 t67:=Tryz.underlying312
 a67:=Tryz.isAgg312
 z67:=Tryz.sizeOf312
 v67:=Tryz.zeroValue312
 i67:=by kernel_rfl
 g0:=by kernel_rfl
 m0:=by kernel_rfl
 g1:=by kernel_rfl
 m1:=by kernel_rfl
 g2:=by kernel_rfl
 m2:=by kernel_rfl
 g3:=by kernel_rfl
 m3:=by kernel_rfl
 g4:=by kernel_rfl
 m4:=by kernel_rfl}
end Go.Proofs
end
section
namespace Go.Proofs.T
open Go Go.Proofs Go.Shelf Go.RowKit Go.Sort Go.Lib
theorem a6F(w:World)(T:TypeId)(nd:Nat)(hs:nd<=24):Holds (λ(b:UInt8)=>bC .u8 (b.toNat:Int)) (w.alloc (.cells zeros24 T)) w.heap.size 0 (vL nd (0:UInt8)):=λ j hj=>by
 have hj':j<nd:=by simpa using hj
 refine⟨?_,World.frozen?_alloc_new _ _ _ _⟩;rw[World.cell?_alloc_new,zeros24_at _ oO,getElem!_pos _ j hj];simp
theorem bDF(w:World)(o:Obj)(dk:Array UInt8)(k:Nat):∃os,(putRow (λ(b:UInt8)=>bC .u8 (b.toNat:Int)) (w.alloc o) w.heap.size 0 dk).drewN k=grow (w.drewN k) os:=by rw[alloc_eq_grow];obtain⟨os',_,e⟩:=putRow_grow_new (λ(b:UInt8)=>bC .u8 (b.toNat:Int)) w #[o] w.heap.size 0 dk (aF _);exact⟨os',by rw[e];rfl⟩
theorem aYG(u:Nat)(hu64:u<18446744073709551616)(w:World)(htab:Lib.TabIs aA w "internal/strconv.uint64pow10" .u64 Lib.pow10Tab):
 Calls aA 262 #[.int .u64 u,.int .i64 10] w λ e w'=>e= .returned (.string ⟨(Lib.decDigits u).toArray⟩)/\∃k os,w'=grow (w.drewN k) os:=by
 have L:=Tryz.layItoa;have e293:∀args w,(callFunc 293 args).run aA w= .ok (.enter 293 args) w:=enters_of Tryz.func293 (by kernel_rfl) rfl;have e294:∀args w,(callFunc 294 args).run aA w= .ok (.enter 294 args) w:=enters_of Tryz.func294 (by kernel_rfl) rfl;have e295:∀args w,(callFunc 295 args).run aA w= .ok (.enter 295 args) w:=enters_of Tryz.func295 (by kernel_rfl) rfl;by_cases hs:u<100
 .go_enter Tryz.func262,Tryz.ntmps262
  go_wp2_with (go_at_fn 293;refine(Any.internal_strconv_small {L with} u hs _).mono ?_;rintro e w' ⟨rfl,rfl⟩)
  go_ret
  exact⟨rfl,0,#[],by simp[World.drewN_zero]⟩
 have hu1:1<=u:=oO;have hnd20:Lib.nDigits u<=20:=by have:=Lib.numDigits_eq u hu1 hu64;split at this<;>omega
 have hal:aA.arrayLen 333=24:=by simp[Program.arrayLen,JY]
 have hsl1:∀W,(Instr.sliceAt 333 (.pointer (some ⟨w.heap.size,0,none⟩)) none (some (.int .i64 (Lib.nDigits u:Int))) none).run aA W= .ok (.slice (some ⟨w.heap.size,0,none⟩) (Lib.nDigits u) 24) W:=λ W=>by
  rw[run_sliceAt_array_h W 333 ⟨w.heap.size,0,none⟩ (by simp[Program.arrayLen,Program.elem,JY]) .i64 (Lib.nDigits u:Int) oO (by rw[hal];omega)];go_simp
  try omega
 have hH0:=a6F w 333 (Lib.nDigits u) oO;have hfmt:=Any.internal_strconv_formatBase10 {L with} w.heap.size 0 24 u (vL (Lib.nDigits u) 0) (w.alloc (.cells Lib.zeros24 333)) hH0 (by rw[aAD];exact Lib.lt_pow_nDigits u) hu64 (by rw[aAD];omega);rw[aAD]at hfmt;have HH0:=Lib.hid hH0;clear hH0 hal;go_enter Tryz.func262,Tryz.ntmps262
 go_wp2_with (first
  |(go_at_fn 294;refine(Any.internal_strconv_numDigits {L with} u hu1 hu64 _ (Lib.tabIs_alloc htab _)).mono ?_;rintro e w' ⟨rfl,rfl⟩))
 go_at_fn 295
 refine hfmt.mono ?_;rintro e w' ⟨rfl,k,v',dk,rfl,hF⟩
 have hcv:(convert 238 9 (.slice (some ⟨w.heap.size,0,none⟩) (Lib.nDigits u) 24)).run aA ((putRow (λ(b:UInt8)=>bC .u8 (b.toNat:Int)) (w.alloc (.cells Lib.zeros24 333)) w.heap.size 0 dk).drewN k)= .ok (.string ⟨(Lib.decDigits u).toArray⟩) ((putRow (λ(b:UInt8)=>bC .u8 (b.toNat:Int)) (w.alloc (.cells Lib.zeros24 333)) w.heap.size 0 dk).drewN k):=by
  have h:=run_convert_bytes_back (P:=aA) ((putRow (λ(b:UInt8)=>bC .u8 (b.toNat:Int)) (w.alloc (.cells Lib.zeros24 333)) w.heap.size 0 dk).drewN k) 238 9 5 ⟨w.heap.size,0,none⟩ 24 (Lib.decDigits u) a0O oR kC (λ j hj=>by rw[Lib.row_is_numeral hF j hj,Lib.add_plain,World.cell?_drewN];exact cell?_putRow (λ(b:UInt8)=>bC .u8 (b.toNat:Int)) _ w.heap.size 0 _ dk HH0.out (by rw[hF.size,aAD]) j (by rw[hF.size];rw[Lib.decDigits_length]at hj;exact hj))
  rw[Lib.decDigits_length]at h;exact h
 go_wp2
 go_ret
 obtain⟨os,eo⟩:=bDF w (.cells Lib.zeros24 333) dk k;exact⟨rfl,k,os,eo⟩
end Go.Proofs.T
end
section
namespace Go.Proofs.T
open Go Go.AM Go.Proofs Go.Lib
variable{Γ:List (Nat×List AVal)}
structure GT (Γ:List (Nat×List AVal)):Prop where
 pow:AM.look Γ 3=some (Lib.pow10Tab.map λ z=> .lit (.int .u64 z))
 errS:∃te pe,AM.look Γ 0=some [.lit (.iface te pe)]
 errR:∃te pe,AM.look Γ 1=some [.lit (.iface te pe)]
 maxL:∃m,AM.look Γ 2=some [.lit (.int .i64 m)]
theorem a4A(hG:GT Γ)(n:Int)(h0: -9223372036854775808<=n)(h1:n<=9223372036854775807):Pure aA Γ 216 [n] (.lit (.string (ByteArray.mk (itoa n).toArray))):=
 aMH (g:=3) Tryz.layItoa (by kernel_rfl) hG.pow n h0 h1
theorem a5H(hG:GT Γ)(l:List UInt8)(hl:l.length<=281474976710656):Pure aA Γ 150 [.lit (.string (ByteArray.mk l.toArray))] (.tup [(NQ l),.junk]):=by obtain⟨te,pe,h1⟩:=hG.errS;obtain⟨te',pe',h2⟩:=hG.errR;exact aMI Tryz.layAtoi h1 h2 l hl
theorem aWF(hG:GT Γ)(l:List UInt8)(hl:l.length<4294967281):Pure aA Γ 144 [.lit (.string (ByteArray.mk l.toArray)),.lit (.string (ByteArray.mk [(32:UInt8)].toArray))] (aWC (split l [32])):=by obtain⟨m,h1⟩:=hG.maxL;exact aFA Tryz.laySplit (by kernel_rfl) h1 l [32] hl sS
end Go.Proofs.T
end
section
namespace Go.AM
open Go
def YX:Nat->Nat->List UInt8
 |0,_=>[]
 | f+1,u=>match Nat.blt u 10 with
   |true=>[UInt8.ofNat (48+u)]
   |false=>YX f (u/10)++[UInt8.ofNat (48+u%10)]
theorem EY:∀(f u:Nat),u<10^(f+1)->YX (f+1) u=Lib.decDigits u
 |f,u,h=>by
  rw[YX,Lib.decDigits];by_cases hu:u<10;.rw[dif_pos hu,show Nat.blt u 10=true from by rw[Nat.blt_eq];exact hu]
  rw[dif_neg hu,show Nat.blt u 10=false from by rw[dS,ne_eq,Nat.blt_eq];exact hu];simp only
  cases f with
  |zero=>simp at h;omega
  |succ f=>rw[EY f (u/10) (by rw[Nat.pow_succ]at h;omega)]
def a7G(n:Int):List UInt8:=match n with
 | .ofNat u=>YX 20 u
 | .negSucc u=>45::YX 20 (u+1)
def tN:List UInt8->List (List UInt8)
 |[]=>[[]]
 | c::r=>match c.toNat==32,tN r with
   |true,ws=>[]::ws
   |false,w::ws=>(c::w)::ws
   |false,[]=>[[c]]
section
variable{P:Program}{Γ:List (Nat×List AVal)}{o:Oper}{ev ev':Operand->Option AVal}{get:Nat->Option Blk}{k:Nat}
theorem a0U {out:Out}(h:∀x v,ev' x=some v->∃u,ev x=some u/\VLe u v)(hg:Good P Γ o ev' get k out):Good P Γ o ev get k out:=
 ⟨λ w G ρ H A a hr hA hf hrd hop=>hg.ok w G ρ H A a hr hA hf hrd (λ x hx v hv=>by obtain⟨u,hu,hl⟩:=h x v hv;exact hl _ _ _ _ _ (hop x hx u hu)),hg.rds,hg.le⟩
theorem a5A(v:AVal):VLe v (deS v):=λ w G ρ A cv h=>aST h
theorem aLM{t s by':Nat}{zrow:List AVal}(ho:o.op= .buildSlice t 0 #[])(hz:iB P t=some (s,by',zrow)):Good P Γ o ev get k ⟨.slc k 0 0 0,k+1,[(k,some ⟨s,true,[]⟩)],[]⟩:=by
 refine⟨λ w G ρ H A a hr hA hf hrd hop next Q hn=>?_,λ i hi=>by simp at hi,PH _⟩
 obtain⟨e,i,hu,hi⟩:∃e i,P.underlying t=some (.slice e)/\P.info? e=some i:=by
  unfold iB at hz;split at hz
  .rename_i e hu;split at hz;.rename_i i hi;exact⟨e,i,hu,hi⟩
   cases hz
  cases hz
 have hrun:(execOp a.eval o).run P w= .ok (.value (.slice (some ⟨w.heap.size,0,none⟩) 0 0)) (w.alloc (.cells #[] e)):=by simp[execOp,ho,Instr.buildSlice,underlying,hu,sizeOf,typeInfo,hi,newRow,Instr.fill];congr 2;exact aFB sS (λ i h1 h2=>by simp at h2)
 have hkA:¬A k:=λ hk=>tC _ (hA k hk);obtain⟨hρ,hfr⟩:=hf k (aF _) (dC _);have hrel:=hr.alloc k hρ hfr ⟨s,true,[]⟩ #[] e A (λ i=>A i\/(k<=i/\i<k+1)) hkA (λ _ h=> .inl h) (.inr ⟨aF _,dC _⟩) (λ r row h=>by simp at h) (λ r row c v h=>by simp at h) w rfl rfl rfl rfl;have hst:=mS (w:=w) (G:=G) (ρ:=ρ) k s (.cells #[] e) w rfl rfl rfl rfl;unfold Oper.wp;rw[hrun];refine hn _ G _ _ hrel (.slc (b:=w.heap.size) (s:=s) (ty:=e) (m:=0) (.inr ⟨aF _,dC _⟩) (by simp[dT]) ?_ sS (aF _) (by unfold maxLen;omega) (.inl rfl)) ⟨hst.size,hst.keep,hst.shape,hst.g,hst.g',hst.own,λ id hid=>hst.ids id (λ he=>hid (oO:k<=id/\id<k+1)),hst.os,hst.tape,hst.output⟩;have:=iV w (.cells #[] e);unfold World.shape?;rw[this];rfl
end
def aNP(get:Nat->Option Blk):AVal->Option (List Nat)
 | .sl id r 0=>match get id with
   | some B=>match Nat.ble r B.rows.length with
     |true=>some [id]
     |false=>none
   |none=>none
 | .rd _ 0 _=>some []
 | .lit (.slice none 0 0)=>some []
 |_=>none
def aNZ(P:Program)(Γ:List (Nat×List AVal))(o:Oper)(ev:Operand->Option AVal)(get:Nat->Option Blk)(k:Nat):Option Out:=
 match(match o.op with
 | .buildSlice t 0 parts=>match parts.toList,iB P t with
   |[],some (s,_,_)=>some ⟨.slc k 0 0 0,k+1,[(k,some ⟨s,true,[]⟩)],[]⟩
   |_,_=>none
 | .binOp .eql t x y _=>match ev x,ev y,P.underlying t with
   | some (.slc id _ _ _),some (.lit (.slice none 0 0)),some (.slice _)=>match get id with
     |some _=>some ⟨.lit (.bool false),k,[],[id]⟩
     |none=>none
   |_,_,_=>none
 | .call {callee:= .builtin .append,args:=args,argTypes:=ty}=>match args.toList,ty.toList with
   | [x,y],[t,t']=>match sD t t',iB P t,ev x,ev y with
     | true,some _,some (.slc id r n c),some v=>match get id,aNP get (deS v)with
       |some _,some ids=>some ⟨.slc id r n c,k,[],id::ids⟩
       |_,_=>none
     |_,_,_,_=>none
   |_,_=>none
 |_=>(none:Option Out))with
 |some out=>some out
 | none=>match BV P Γ o ev get k with
   |some out=>some out
   |none=>BV P Γ o (λ x=>(ev x).map deS) get k
section
variable{P:Program}{Γ:List (Nat×List AVal)}{o:Oper}{ev:Operand->Option AVal}{get:Nat->Option Blk}{k:Nat}
theorem aNO{v:AVal}{ids:List Nat}(h:aNP get v=some ids):∃s rows p,SrcA get v s 0 rows p ids:=by
 unfold aNP at h;split at h
 .rename_i id r;split at h
  .rename_i B hB;split at h;.rename_i hr;cases h;exact⟨_,_,_,.sl hB (qU hr)⟩
   cases h
  cases h
 .cases h;exact⟨_,_,_,.rd⟩
 .cases h;exact⟨_,_,_,.nil⟩
 cases h
theorem aAY{out:Out}(h:aNZ P Γ o ev get k=some out):Good P Γ o ev get k out:=by
 unfold aNZ at h;split at h
 .rename_i out' h1;cases h;split at h1
  .rename_i t parts ho;split at h1;.rename_i s b z hp hz;cases h1;obtain rfl:parts= #[]:=bAQ hp;exact aLM ho hz
   cases h1
  .rename_i t x y ty ho;split at h1
   .rename_i id r n c e hx hy hu;split at h1;.rename_i B hB;cases h1;exact WO ho hu hx hB hy
    cases h1
   cases h1
  .rename_i args ty ho;split at h1
   .rename_i x y t t' ha ht;split at h1
    .rename_i z id r n c v hb hz hx hy;split at h1;.rename_i B ids hB hs;cases h1;obtain⟨s',rows,p,hsrc⟩:=aNO hs;obtain rfl:args= #[x,y]:=bAQ ha;obtain rfl:ty= #[t,t']:=bAQ ht;obtain rfl:=bZ hb;obtain⟨s,b,zr⟩:=z;exact aLT ho hz hx hB hy hsrc
     cases h1
    cases h1
   cases h1
  cases h1
 split at h;.rename_i h2;cases h;exact uY h2
 refine a0U (λ x v hv=>?_) (uY h);simp only[aB]at hv;obtain⟨u,hu,rfl⟩:=hv;exact⟨u,hu,a5A u⟩
end
section
variable{P:Program}{Γ:List (Nat×List AVal)}{o:Oper}{ev:Operand->Option AVal}{get:Nat->Option Blk}{k:Nat}
def aSC(P:Program)(o:Oper)(ev:Operand->Option AVal)(k:Nat):Option Out:=
 match o.op with
 | .binOp op t x y _=>match AG op,ev x,ev y,P.underlying t with
   | some neg,some (.agg xc),some (.agg yc),some (.struct fs)=>match mY xc,mY yc,fs.toList.mapM (aGV P),P.stoodInHeld t,P.eqGuardType P.depth t,fs.any (·.name== "_")with
     | some xs,some ys,some offs,false,false,false=>match IK xs ys offs with
       |some p=>some ⟨.lit (.bool (if neg then !p else p)),k,[],[]⟩
       |none=>none
     |_,_,_,_,_,_=>none
   |_,_,_,_=>none
 |_=>none
theorem aDF{out:Out}(h:aSC P o ev k=some out):Good P Γ o ev get k out:=by
 unfold aSC at h;split at h
 .rename_i op t x y ty ho;split at h
  .rename_i neg xc yc fs hn hx hy hu;split at h
   .rename_i xs ys offs h1 h2 h3 h4 h5 h6;split at h
    .rename_i p hp;cases h
     have ho':o.op= .binOp (if neg then .neq else .eql) t x y ty:=by
      cases op<;>simp[AG]at hn;.subst hn;exact ho
      subst hn;exact ho
     exact YV ho' hu h4 h5 h6 h3 hx hy h1 h2 hp
    cases h
   cases h
  cases h
 cases h
end
section
variable{P:Program}{Γ:List (Nat×List AVal)}{o:Oper}{ev:Operand->Option AVal}{get:Nat->Option Blk}{k:Nat}
def aPH(P:Program)(o:Oper)(ev:Operand->Option AVal)(k:Nat):Option Out:=
 match o.op with
 | .binOp op t x (.const .nilIface) _=>match AG op,ev x,P.underlying t with
   |some neg,some (.lit .nilIface),some (.interface _)=>some ⟨.lit (.bool (if neg then false else true)),k,[],[]⟩
   |_,_,_=>none
 |_=>none
theorem aBQ{out:Out}(h:aPH P o ev k=some out):Good P Γ o ev get k out:=by
 unfold aPH at h;split at h
 .rename_i op t x ty ho;split at h
  .rename_i neg ms hn hx hu;cases h;refine .quiet (cE λ w G ρ H A a hr hrd hop=>⟨.bool (if neg then false else true),?_,.lit⟩);have ex:a.eval x= .nilIface:=by have hv:=hop x (by cases op<;>simp[ho,Op.operands]) _ hx;exact V_lit hv
   have ey:a.eval (.const .nilIface)= .nilIface:=rfl;have hg:∀op,eqGuard op t x (.const .nilIface) .nilIface .nilIface=pure ():=λ op=>by cases op<;>cases x<;>rfl
   have he':∀d,(Op.equalIn (d+1) t .nilIface .nilIface).run P w= .ok true w:=λ d=>by simp[Op.equalIn,run_underlying hu]
   have he:(Op.equal t .nilIface .nilIface).run P w= .ok true w:=he' 9999;have h1:(binOp .eql t .nilIface .nilIface).run P w= .ok (.bool true) w:=by have e:binOp .eql t .nilIface .nilIface=(do pure (.bool (←Op.equal t .nilIface .nilIface))):=rfl;rw[e,bO,he];rfl
   have h2:(binOp .neq t .nilIface .nilIface).run P w= .ok (.bool false) w:=by have e:binOp .neq t .nilIface .nilIface=(do pure (.bool (!(←Op.equal t .nilIface .nilIface)))):=rfl;rw[e,bO,he];rfl
   cases op<;>simp[AG]at hn;.subst hn;simp only[execOp,ho,ex,ey,bO,hg,dP,bI,h1];rfl
   subst hn;simp only[execOp,ho,ex,ey,bO,hg,dP,bI,h2];rfl
  cases h
 cases h
end
def opD(P:Program)(Γ:List (Nat×List AVal))(o:Oper)(ev:Operand->Option AVal)(get:Nat->Option Blk)(k:Nat):Option Out:=
 match aPU P o ev get k with
 |some out=>some out
 | none=>match aNZ P Γ o ev get k with
   |some out=>some out
   | none=>match aSC P o ev k with
     |some out=>some out
     |none=>aPH P o ev k
theorem aPF{P:Program}{Γ:List (Nat×List AVal)}{o:Oper}{ev:Operand->Option AVal}{get:Nat->Option Blk}{k:Nat}{out:Out}(h:opD P Γ o ev get k=some out):Good P Γ o ev get k out:=by
 unfold opD at h;split at h;.rename_i h1;cases h;exact aBX h1
 split at h;.rename_i h1;cases h;exact aAY h1
 split at h;.rename_i h1;cases h;exact aDF h1
 exact aBQ h
def aSB:Value->Value->Bool
 | .int k a,.int k' b=>decide (k=k')&&decide (a=b)
 | .bool a,.bool b=>a==b
 | .string a,.string b=>decide (a.data.toList=b.data.toList)
 | .slice none 0 0,.slice none 0 0=>true
 |_,_=>false
theorem aSA{a b:Value}(h:aSB a b=true):a=b:=by
 unfold aSB at h;split at h;.simp only[aC,dTt]at h;rw[h.1,h.2]
 .simp only[beq_iff_eq]at h;rw[h]
 .rename_i a b;have h:=of_decide_eq_true h;congr 1;cases a;cases b;simp only at h;congr 1;exact bAQ h
 .rfl
 cases h
def aYN:AVal->AVal->Bool
 | .lit a,.lit b=>aSB a b
 | .ptr i r c,.ptr i' r' c'=>sD i i'&&(sD r r'&&sD c c')
 | .sl i r c,.sl i' r' c'=>sD i i'&&(sD r r'&&sD c c')
 | .slc i r n c,.slc i' r' n' c'=>sD i i'&&(sD r r'&&(sD n n'&&sD c c'))
 |_,_=>false
theorem aGX{a b:AVal}(h:aYN a b=true):a=b:=by
 unfold aYN at h;split at h;.rw[aSA h]
 .simp only[aC]at h;rw[bZ h.1,bZ h.2.1,bZ h.2.2]
 .simp only[aC]at h;rw[bZ h.1,bZ h.2.1,bZ h.2.2]
 .simp only[aC]at h;rw[bZ h.1,bZ h.2.1,bZ h.2.2.1,bZ h.2.2.2]
 cases h
def a4J(B C:Blk):Bool:=(B.pure==C.pure)&&(sD B.sz C.sz&&EB (EB aYN) B.rows C.rows)
theorem aYM{B C:Blk}(h:a4J B C=true):B=C:=by simp only[a4J,aC,beq_iff_eq]at h;obtain⟨h1,h2,h3⟩:=h;cases B;cases C;simp only at h1 h2 h3;rw[h1,bZ h2,zR (λ a b h=>zR (λ _ _=>aGX) h) h3]
def holdsF(fr:Fr):Fr->Bool
 |[]=>true
 | (t,v)::r=>match IC fr t with
   |some u=>aYN u v&&holdsF fr r
   |none=>false
def TT(H:aS):aS->Bool
 |[]=>true
 | (t,v)::r=>match IC H t with
   |some u=>a4J u v&&TT H r
   |none=>false
theorem RA{fr:Fr}:∀ {fr1:Fr},holdsF fr fr1=true->leF fr fr1
 |[],_=>trivial
 |(t,v)::r,h=>by
  simp only[holdsF]at h;split at h;.rename_i u hu;simp only[aC]at h;rw[AE]at hu;exact⟨by rw[hu,aGX h.1],RA h.2⟩
  cases h
theorem QZ{H:aS}:∀ {H1:aS},TT H H1=true->OO H H1
 |[],_=>trivial
 |(t,v)::r,h=>by
  simp only[TT]at h;split at h;.rename_i u hu;simp only[aC]at h;rw[AE]at hu;exact⟨by rw[hu,aYM h.1],QZ h.2⟩
  cases h
def BZ(r:Option (Exit×Nat×Fr×aS))(k:Nat)(fr:Fr)(H:aS):Bool:=match r with
 |some (.normal,_,fr1,H1)=>holdsF fr1 fr&&(TT H1 H&&(bdF (λ i=>Nat.blt i k) fr&&rG (λ i=>Nat.blt i k) H))
 |_=>false
theorem a0L{P:Program}{Γ:List (Nat×List AVal)}{nt:Nat}{Q:AQ}{k:Nat}{fr:Fr}{H:aS}{c x y:Code}{p:List Nat}{X:Xt}(hX:XtOk P Γ X)(n:Nat)(hc:fR c p= .seq x y)(k1:Nat)(fr1:Fr)(H1:aS)
 (h:BZ (dU X (RI X P Γ n) P Γ nt x k fr H) k1 fr1 H1=true) (hr:W P Γ nt 0 (fR c (1::p)) Q k1 fr1 H1):W P Γ nt 0 (fR c p) Q k fr H:=by
 have hx:fR c (0::p)=x:=by simp[fR,hc,IOq]
 refine bY hc ?_;rw[hx];unfold BZ at h;split at h
 .rename_i k2 fr2 H2 he;simp only[aC]at h;obtain⟨h1,h2,h3,h4⟩:=h;have hlt:(λ i=>Nat.blt i k1)=kW k1:=funext λ i=>by rw[aY];simp only[kW,dTt];rw[Nat.blt_eq]
  rw[hlt]at h3 h4;refine kT (yL (kb:=0) hX (aCX hX n) x _ _ _ _ _ _ _ he) ?_;rintro e2 k3 fr3 H3 ⟨rfl,rfl,rfl,rfl⟩;exact dI (kU (vY (aJ _) (RA h1) (QZ h2) h3 h4)) hr
 cases h
end Go.AM
end
