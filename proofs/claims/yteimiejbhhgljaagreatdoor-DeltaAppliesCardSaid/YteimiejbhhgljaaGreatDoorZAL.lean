import Derived.Test.YteimiejbhhgljaaGreatDoorZAK
import Derived.Shelf.SortG.Plain
import Derived.Shelf.SortG.SortNone
import Derived.Ground.SlgnProg
import Derived.Test.YteimiejbhhgljaaGreatDoorProg
set_option linter.unusedVariables false
set_option linter.unusedSimpArgs false
set_option maxHeartbeats 0
set_option maxRecDepth 100000
open Array renaming ext->aFB,ext'->bAQ,getD_eq_getD_getElem?->aD,getElem?_eq_getElem->aP,getElem?_eq_none->gH,getElem?_modify->PL,getElem?_toList->bA
open Bool renaming and_eq_true->aC,eq_false_iff->dS,eq_iff_iff->aY,false_or->FW,not_eq_false'->dH,not_eq_true'->aT,not_true->a0V,or_eq_true->bH
open Int renaming natCast_nonneg->KB,toNat_natCast->gX,toNat_of_nonneg->gC
open Go.IntKind renaming i64->aN
open List renaming Pairwise->oG,Perm->fV,all_eq_true->aW,append_assoc->bL,append_nil->aR,eq_nil_of_length_eq_zero->fL,filter_append->KA,filter_cons->bKI,filter_eq_self->vK,getD_eq_getElem?_getD->bD,getElem?_cons_zero->iX,getElem?_eq_getElem->aE,getElem?_eq_none->cI,getElem?_map->aQ,getElem?_set->fY,getElem_mem->bKH,length_set->PI,map->jL,map_append->aH,map_congr_left->gB,map_cons->bG,map_map->jD,map_nil->aV,mem_append->cD,mem_cons_of_mem->fP,mem_iff_getElem->sM,mem_map->cL,mem_range->dO,mem_singleton->gZ,pairwise_append->aAB,pairwise_iff_getElem->lN,pairwise_lt_range->a6D,pairwise_map->pV,range->aM,range_succ->CI,take_length->aHS
open Nat renaming add_assoc->fS,add_mul->cX,add_sub_cancel->rN,add_sub_cancel_left->iW,add_zero->jX,beq->sD,div_lt_of_lt_mul->ZZ,eq_of_beq_eq_true->bZ,le_of_ble_eq_true->qU,le_refl->aF,lt_trichotomy->mH,mod_eq_of_lt->HR,mul_comm->jW,mul_le_mul_right->dE,mul_one->bAM,not_lt_zero->bJ,one_mul->aMJ,sub_self->PG,sub_zero->bFW,zero_add->dV,zero_le->aJ,zero_mul->tM
open Option renaming bind_eq_some_iff->bX,map_eq_none_iff->dG,map_eq_some_iff->aB,map_some->cB,some->mB
open Go.Proofs.Tryz renaming isAgg189->FN,isAgg3->PF,isAgg4->aME,isAgg5->aMD,isAgg50->PE,isAgg9->aMC,prog->aA,sizeOf0->bFT,sizeOf189->zH,sizeOf3->DR,sizeOf4->PD,sizeOf5->PC,sizeOf50->FM,sizeOf9->PB,underlying0->HP,underlying189->oB,underlying22->iL,underlying26->bAI,underlying3->dB,underlying4->lW,underlying5->oR,underlying50->jB,underlying9->kC,zeroValue0->PA,zeroValue189->pU,zeroValue22->aHN,zeroValue3->qT,zeroValue4->vI,zeroValue5->vH,zeroValue50->rZ,zeroValue9->vG
open Go.Value renaming int->bC
section
namespace Go.Proofs.T
open Go Go.AM
deriving instance DecidableEq for Tk
deriving instance DecidableEq for Sp
theorem TW{α β:Type}(g:α->β){f:Nat->List α}:∀n,(fC f n).map g=fC (λ i=>(f i).map g) n
 |0=>rfl
 |n+1=>by rw[fC,fC,aH,TW g n]
theorem aGN{α β:Type}(g:α->β)(b:Bool)(x:α):(uG b x).map g=uG b (g x):=by unfold uG;split<;>rfl
theorem aGU{α:Type}{f:Nat->List α}(m:Nat):∀n,fC f (m+n)=fC f m++fC (λ i=>f (m+i)) n
 |0=>by simp[fC]
 |n+1=>by rw[<-fS,fC,fC,aGU m n,bL]
theorem TX{α:Type}(h:Nat->Nat->List α)(K:Nat):∀n,fC (λ g=>fC (h g) K) n=fC (λ i=>h (i/K) (i%K)) (n*K)
 |0=>by simp[fC]
 |n+1=>by
  rw[fC,cX,aMJ,aGU,TX h K n];congr 1;refine mE λ i hi=>?_;have h1:(n*K+i)/K=n:=by rw[jW,Nat.mul_add_div oO,Nat.div_eq_of_lt hi,jX]
  have h2:(n*K+i)%K=i:=by rw[jW,Nat.mul_add_mod,HR hi]
  rw[h1,h2]
def neI(x y:Int):Bool:=x !=y
def toN(l:List (Int×Int)):List (Nat×Int):=l.map λ x=>(x.1.toNat,x.2)
def ofN(l:List (Nat×Int)):List (Int×Int):=l.map λ x=>((x.1:Int),x.2)
structure ValOk (N:Nat) (now:Nat->Int) (l:List (Int×Int)):Prop where
 lo:∀x∈l,0<=x.1
 ok:ChOk neI N now (toN l)
theorem aVP(l:List (Nat×Int)):toN (ofN l)=l:=by unfold toN ofN;rw[jD];exact(gB λ x _=>sS).trans (List.map_id _)
theorem aWY{l:List (Int×Int)}(h:∀x∈l,0<=x.1):ofN (toN l)=l:=by unfold toN ofN;rw[jD];refine(gB λ x hx=>?_).trans (List.map_id _);have:=h x hx;simp only[Function.comp,id];rw[gC this]
theorem UK(now to:Nat->Int)(N:Nat):fC (fG now to) N=ofN (fC (dif neI now to) N):=by unfold ofN;rw[TW];exact mE λ i _=>by rw[dif,aGN];rfl
theorem UJ(now to:Nat->Int)(N:Nat):ValOk N now (fC (fG now to) N) where
 lo x hx:=by rw[UK]at hx;obtain⟨y,_,rfl⟩:=cL.1 hx;exact KB _
 ok:=by rw[UK,aVP];exact UH _ _ _
theorem SJ{N:Nat}{now:Nat->Int}{l:List (Int×Int)}(h:ValOk N now l):fC (fG now (upd now (toN l))) N=l:=by rw[UK,aHB (by simp[neI]) h.ok,aWY h.lo]
def neS(x y:Sp):Bool:=wO y x
theorem aIN(x:Sp):wO x x=false:=by simp[wO]
def sO(K:Nat)(l:List (Int×Int×Sp)):List (Nat×Sp):=l.map λ x=>(x.1.toNat*K+x.2.1.toNat,x.2.2)
def unS(K:Nat)(l:List (Nat×Sp)):List (Int×Int×Sp):=l.map λ x=>(((x.1/K:Nat):Int),((x.1%K:Nat):Int),x.2)
def EA(K:Nat)(now:Nat->Nat->Sp)(i:Nat):Sp:=now (i/K) (i%K)
structure SpotOk (S K:Nat) (now:Nat->Nat->Sp) (l:List (Int×Int×Sp)):Prop where
 rng:∀x∈l,0<=x.1/\x.1<S/\0<=x.2.1/\x.2.1<K
 ok:ChOk neS (S*K) (EA K now) (sO K l)
theorem aZJ{K:Nat}(l:List (Nat×Sp))(hK:0<K):sO K (unS K l)=l:=by unfold sO unS;rw[jD];refine(gB λ x _=>?_).trans (List.map_id _);simp only[Function.comp,id,gX];rw[jW,Nat.div_add_mod]
theorem AL{K g c:Nat}(hc:c<K):(g*K+c)/K=g/\(g*K+c)%K=c:=by
 constructor;.rw[jW,Nat.mul_add_div oO,Nat.div_eq_of_lt hc,jX]
 rw[jW,Nat.mul_add_mod,HR hc]
theorem aVN{K S:Nat}{l:List (Int×Int×Sp)}(h:∀x∈l,0<=x.1/\x.1<S/\0<=x.2.1/\x.2.1<K):unS K (sO K l)=l:=by unfold sO unS;rw[jD];refine(gB λ x hx=>?_).trans (List.map_id _);obtain⟨h1,h2,h3,h4⟩:=h x hx;obtain⟨h5,h6⟩:=AL (K:=K) (g:=x.1.toNat) (c:=x.2.1.toNat) oO;simp only[Function.comp,id];rw[h5,h6,gC h1,gC h3]
theorem UI(a b:St)(S K:Nat):fC (λ g=>fC (jN a b g) K) S=unS K (fC (dif neS (EA K a.sp) (EA K b.sp)) (S*K)):=by rw[TX];unfold unS;rw[TW];exact mE λ i _=>by rw[dif,aGN];rfl
theorem aZB(a b:St)(S K:Nat)(hK:0<K):SpotOk S K a.sp (fC (λ g=>fC (jN a b g) K) S) where
 rng x hx:=by rw[UI]at hx;obtain⟨y,hy,rfl⟩:=cL.1 hx;have h1:=(UH (ne:=neS) _ _ _).lt y hy;have h2:y.1/K<S:=ZZ (by rw[jW];exact h1);have h3:=Nat.mod_lt y.1 hK;exact⟨KB _,Int.ofNat_lt.2 h2,KB _,Int.ofNat_lt.2 h3⟩
 ok:=by rw[UI,aZJ _ hK];exact UH _ _ _
def upS(K:Nat)(now:Nat->Nat->Sp)(l:List (Int×Int×Sp))(g c:Nat):Sp:=match l.find? (λ x=>x.1==(g:Int)&&x.2.1==(c:Int))with
 |some x=>x.2.2
 |none=>now g c
theorem aVM{S K:Nat}{now:Nat->Nat->Sp}{l:List (Int×Int×Sp)}(h:∀x∈l,0<=x.1/\x.1<S/\0<=x.2.1/\x.2.1<K){g c:Nat}(hc:c<K):upS K now l g c=upd (EA K now) (sO K l) (g*K+c):=by
 obtain⟨h5,h6⟩:=AL (g:=g) hc
 have key:∀x∈l,(x.1==(g:Int)&&x.2.1==(c:Int))=(x.1.toNat*K+x.2.1.toNat==g*K+c):=λ x hx=>by
  obtain⟨h1,h2,h3,h4⟩:=h x hx;obtain⟨h7,h8⟩:=AL (K:=K) (g:=x.1.toNat) (c:=x.2.1.toNat) oO;rw[aY];simp only[aC,beq_iff_eq];constructor;.rintro⟨e1,e2⟩;rw[e1,e2,gX,gX]
  intro e;rw[e]at h7 h8;omega
 clear h
 induction l with
 |nil=>simp[upS,upd,sO,EA,h5,h6]
 |cons x l ih=>
  have ih:=ih λ y hy=>key y (fP _ hy);have k1:=key x sS;unfold upS upd sO at ih⊢
  simp only[bG,List.find?_cons];rw[<-k1];cases hb:(x.1==(g:Int)&&x.2.1==(c:Int));.exact ih
  rfl
theorem aNR{a:St}{S K:Nat}{l:List (Int×Int×Sp)}(h:SpotOk S K a.sp l)(b:St)(hb:∀g c,g<S->c<K->b.sp g c=upS K a.sp l g c):fC (λ g=>fC (jN a b g) K) S=l:=by
 by_cases hK:0<K
 .rw[UI]
  have:fC (dif neS (EA K a.sp) (EA K b.sp)) (S*K)=fC (dif neS (EA K a.sp) (upd (EA K a.sp) (sO K l))) (S*K):=mE λ i hi=>by
   have e:EA K b.sp i=upd (EA K a.sp) (sO K l) i:=by have h2:i/K<S:=ZZ (by rw[jW];exact hi);have h3:=Nat.mod_lt i hK;rw[EA,hb _ _ h2 h3,aVM h.rng h3,jW,Nat.div_add_mod]
   rw[dif,dif,e]
  rw[this,aHB (ne:=neS) (λ x=>aIN x) h.ok,aVN h.rng]
 have hn:l=[]:=by
  cases l with
  |nil=>rfl
  |cons x l=>have:=h.rng x sS;omega
 have:K=0:=oO;subst this;subst hn;rw[TX];simp[fC]
def fB:Tk:=⟨0,0,0,0,0,false,0,0⟩
def mP(s:St):List Tk:=(aM s.nt).map s.tsk
theorem mem_tkL{s:St}{t:Tk}:t∈mP s↔∃i,i<s.nt/\t=s.tsk i:=by unfold mP;rw[cL];exact⟨λ⟨i,h1,h2⟩=>⟨i,dO.1 h1,h2.symm⟩,λ⟨i,h1,h2⟩=>⟨i,dO.2 h1,h2.symm⟩⟩
theorem sP{s:St}(h:zI s):IdL (mP s):=by unfold IdL mP;rw[pV];exact oG.imp_of_mem (λ {x y} hx hy hxy=>h x y hxy (dO.1 hy)) a6D
theorem aVS(x y:Tk):aAO x y= !decide (x=y):=by obtain⟨a,b,c,d,e,f,g,h⟩:=x;obtain⟨a',b',c',d',e',f',g',h'⟩:=y;simp[aAO]
theorem aXX{s:St}{x:Int}:idB s s.nt x=decide (qR (mP s) x):=by
 rw[aY,idB,anyB_iff,decide_eq_true_iff];constructor;.rintro⟨i,h1,h2⟩;exact⟨_,mem_tkL.2 ⟨i,h1,rfl⟩,by simpa using h2⟩
 rintro⟨t,ht,rfl⟩;obtain⟨i,h1,rfl⟩:=mem_tkL.1 ht;exact⟨i,h1,sS⟩
theorem DB{α β:Type}(f:Nat->α)(p:α->Bool)(g:α->β):∀n,fC (λ i=>uG (p (f i)) (g (f i))) n=(((aM n).map f).filter p).map g
 |0=>rfl
 |n+1=>by rw[fC,DB f p g n,CI,aH,KA,aH];congr 1;simp only[bG,aV,bKI,List.filter_nil,uG];split<;>rfl
theorem TU(a b:St):yI a b=gnL (mP a) (mP b):=by show fC (qZ a b) a.nt=(((aM a.nt).map a.tsk).filter λ t=> !decide (qR (mP b) t.id)).map (·.id);rw[<-DB a.tsk (λ t=> !decide (qR (mP b) t.id)) (·.id)];exact mE λ i _=>by rw[qZ,aXX]
theorem aBR{a b:St}(ha:zI a):fC (iG a b) b.nt=nwL (mP a) (mP b):=by
 have h:nwL (mP a) (mP b)=(((aM b.nt).map b.tsk).filter λ t=> !decide (t∈mP a)).map id:=by rw[List.map_id];rfl
 rw[h,<-DB b.tsk (λ t=> !decide (t∈mP a)) id];refine mE λ i _=>?_;rw[iG];congr 1;unfold aJW
 cases hf:xI a (b.tsk i).id with
 |none=>
  have h:=xL hf;have:b.tsk i∉mP a:=λ hm=>by obtain⟨j,hj,he⟩:=mem_tkL.1 hm;have:=h j hj;rw[he]at this;simp at this
  simp[this]
 |some j=>
  obtain⟨hj,he⟩:=BP hf;simp only[beq_iff_eq]at he;simp only[aVS];congr 1;rw[decide_eq_decide];constructor;.intro h;rw[<-h];exact mem_tkL.2 ⟨j,hj,rfl⟩
  intro h;exact(sP ha).uniq (mem_tkL.2 ⟨j,hj,rfl⟩) h he
theorem EG{m:List Tk}:(aM m.length).map (λ i=>m.getD i fB)=m:=by refine List.ext_getElem sS λ i h1 h2=>?_;simp[bD,aE h2]
def XG(a:St)(d:Dl)(m:List Tk):St:={a with wt:=upd a.wt (toN d.wg),clk:=upd a.clk (toN d.ck),cur:=upd a.cur (toN d.cu),nt:=m.length,tsk:=λ i=>m.getD i fB,sp:=upS a.nk a.sp d.sp}
structure FitD (a:St) (d:Dl):Prop where
 ck:ValOk a.nk a.clk d.ck
 cu:ValOk a.nk a.cur d.cu
 wg:ValOk a.ng a.wt d.wg
 tk:TkFit (mP a) d.gn d.tk
 sp:SpotOk a.ns a.nk a.sp d.sp
theorem SK(a:St)(d:Dl)(m:List Tk):mP (XG a d m)=m:=EG
theorem aTM{a b:St}(ha:zI a)(hb:zI b)(hp:∀g,g<a.ng->a.par g=b.par g)(hK:0<a.nk):FitD a (HK a b)/\oQ (mP a) (HK a b).gn (HK a b).tk (mP b):=by
 have hG:fC (vE a b) a.ng=fC (fG a.wt b.wt) a.ng:=mE λ i hi=>by rw[vE,fG];congr 1;rw[aY];simp only[decide_eq_true_iff,bne_iff_ne,ne_eq,hp i hi,true_and];exact not_congr eq_comm
 refine⟨⟨UJ _ _ _,UJ _ _ _,?_,?_,aZB a b _ _ hK⟩,?_⟩;.show ValOk a.ng a.wt (fC (vE a b) a.ng);rw[hG];exact UJ _ _ _
 .show TkFit (mP a) (yI a b) (fC (iG a b) b.nt);rw[TU,aBR ha];exact aSO (sP ha) (sP hb)
 show oQ (mP a) (yI a b) (fC (iG a b) b.nt) (mP b);rw[TU,aBR ha];exact aDK (sP ha) (sP hb)
theorem aRT{a:St}{d:Dl}{m:List Tk}(ha:zI a)(hf:FitD a d)(hm:oQ (mP a) d.gn d.tk m):HK a (XG a d m)=d:=by
 have h1:fC (fG a.clk (XG a d m).clk) a.nk=d.ck:=SJ hf.ck;have h2:fC (fG a.cur (XG a d m).cur) a.nk=d.cu:=SJ hf.cu;have h3:fC (vE a (XG a d m)) a.ng=d.wg:=by refine Eq.trans (mE λ i hi=>?_) (SJ hf.wg);rw[vE,fG];congr 1;rw[aY];simp only[decide_eq_true_iff,bne_iff_ne,ne_eq];exact not_congr ⟨λ h=>h.2.symm,λ h=>⟨rfl,h.symm⟩⟩
 obtain⟨h4,h5⟩:=aRS (sP ha) hf.tk hm;have h6:yI a (XG a d m)=d.gn:=by rw[TU,SK];exact h4
 have h7:fC (iG a (XG a d m)) (XG a d m).nt=d.tk:=by rw[aBR ha,SK];exact h5
 have h8:fC (λ g=>fC (jN a (XG a d m) g) a.nk) a.ns=d.sp:=aNR hf.sp _ λ g c _ _=>rfl;obtain⟨ck,cu,wg,gn,tk,sp⟩:=d;simp only[HK,Dl.mk.injEq];exact⟨h1,h2,h3,h6,h7,h8⟩
theorem aHM{f:Nat->Int}{n:Nat}(h:∀j,0<j->j<n->f (j-1)<f j):∀i j,i<j->j<n->f i<f j:=by
 intro i j hij
 induction j with
 |zero=>omega
 |succ j ih=>
  intro hj;have h1:=h (j+1) oO hj;rw[rN]at h1;by_cases he:i=j;.subst he;exact h1
  have:=ih oO oO;omega
theorem nV{α:Type}{l:List α}{z:α}{j:Nat}(h:j<l.length):l.getD j z=l[j]:=by rw[bD,aE h];rfl
theorem kK{α:Type}{l:List α}{z:α}{j:Nat}(h:j<l.length):l.getD j z∈l:=by rw[nV h];exact bKH h
theorem vZ{α:Type}{l:List α}(z:α){x:α}(h:x∈l):∃j,j<l.length/\l.getD j z=x:=by obtain⟨j,hj,e⟩:=sM.1 h;exact⟨j,hj,by rw[nV hj,e]⟩
theorem tZ{α:Type}{l:List α}(z:α){key:α->Int}:l.Pairwise (λ x y=>key x<key y)↔∀j,0<j->j<l.length->key (l.getD (j-1) z)<key (l.getD j z):=by
 rw[lN];constructor;.intro h j h0 hj;rw[nV hj,nV (by omega:j-1<l.length)];exact h _ _ oO hj oO
 intro h i j hi hj hij;have:=aHM (f:=λ j=>key (l.getD j z)) (n:=l.length) h i j hij hj;simp only[nV hi,nV hj]at this;exact this
def okV(N:Nat)(now:Nat->Int)(l:List (Int×Int))(j:Nat):Prop:=0<=(l.getD j (0,0)).1/\(l.getD j (0,0)).1<N/\(0<j->(l.getD (j-1) (0,0)).1<(l.getD j (0,0)).1)/\now (l.getD j (0,0)).1.toNat≠(l.getD j (0,0)).2
theorem aHZ{N:Nat}{now:Nat->Int}{l:List (Int×Int)}:ValOk N now l↔∀j,j<l.length->okV N now l j:=by
 have hinc:(∀x∈l,0<=x.1)->((toN l).Pairwise (λ x y=>x.1<y.1)↔l.Pairwise (λ x y=>x.1<y.1)):=λ h0=>by
  unfold toN;rw[pV];constructor;.intro h;refine oG.imp_of_mem (λ {x y} hx hy hxy=>?_) h;have:=h0 x hx;have:=h0 y hy;omega
  intro h;refine oG.imp_of_mem (λ {x y} hx hy hxy=>?_) h;have:=h0 x hx;have:=h0 y hy;simp only;omega
 constructor;.intro h j hj;have hm:l.getD j (0,0)∈l:=kK hj;have hm2:((l.getD j (0,0)).1.toNat,(l.getD j (0,0)).2)∈toN l:=cL.2 ⟨_,hm,rfl⟩;have h0:=h.lo _ hm;have h1:=h.ok.lt _ hm2;have h2:=h.ok.ne _ hm2;have h3:=(tZ (0,0) (key:=λ x:Int×Int=>x.1)).1 ((hinc h.lo).1 h.ok.inc) j;simp only at h1;refine⟨h0,oO,λ hp=>h3 hp hj,λ e=>?_⟩;simp only[neI,bne_iff_ne,ne_eq]at h2;exact h2 e.symm
 intro h;have h0:∀x∈l,0<=x.1:=λ x hx=>by obtain⟨j,hj,rfl⟩:=vZ (0,0) hx;exact(h j hj).1
 refine⟨h0,(hinc h0).2 ((tZ (0,0) (key:=λ x:Int×Int=>x.1)).2 λ j hp hj=>(h j hj).2.2.1 hp),λ x hx=>?_,λ x hx=>?_⟩;.obtain⟨y,hy,rfl⟩:=cL.1 hx;obtain⟨j,hj,rfl⟩:=vZ (0,0) hy;have:=(h j hj).2.1;have:=(h j hj).1;simp only;omega
 obtain⟨y,hy,rfl⟩:=cL.1 hx;obtain⟨j,hj,rfl⟩:=vZ (0,0) hy;have:=(h j hj).2.2.2;simp only[neI,bne_iff_ne,ne_eq];exact λ e=>this e.symm
def wJ:Int×Int×Sp:=(0,0,⟨0,0,0⟩)
def okS(S K:Nat)(now:Nat->Nat->Sp)(l:List (Int×Int×Sp))(j:Nat):Prop:=
 (0<=(l.getD j wJ).1/\(l.getD j wJ).1<S/\0<=(l.getD j wJ).2.1/\(l.getD j wJ).2.1<K/\now (l.getD j wJ).1.toNat (l.getD j wJ).2.1.toNat≠(l.getD j wJ).2.2)∧
 (0<j->(l.getD (j-1) wJ).1<(l.getD j wJ).1\/(l.getD (j-1) wJ).1=(l.getD j wJ).1/\(l.getD (j-1) wJ).2.1<(l.getD j wJ).2.1)
theorem aQI{K g c g' c':Nat}(hc:c<K)(hc':c'<K):g*K+c<g'*K+c'↔g<g'\/g=g'/\c<c':=by
 constructor
 .intro h;rcases mH g g' with h1|h1|h1;.exact .inl h1
  .subst h1;exact .inr ⟨rfl,oO⟩
  have:=dE K (show g'+1<=g from h1);rw[cX,aMJ]at this;omega
 rintro(h1|⟨h1,h2⟩);.have:=dE K (show g+1<=g' from h1);rw[cX,aMJ]at this;omega
 subst h1;omega
theorem WK{x y:Sp}:wO x y=true↔x≠y:=by obtain⟨a,b,c⟩:=x;obtain⟨d,e,f⟩:=y;simp only[wO,decide_eq_true_iff,ne_eq,Sp.mk.injEq]
theorem aAW{S K:Nat}{now:Nat->Nat->Sp}{l:List (Int×Int×Sp)}:SpotOk S K now l↔∀j,j<l.length->okS S K now l j:=by
 have hinc:(∀x∈l,0<=x.1/\x.1<S/\0<=x.2.1/\x.2.1<K)->((sO K l).Pairwise (λ x y=>x.1<y.1)↔∀j,0<j->j<l.length->((l.getD (j-1) wJ).1<(l.getD j wJ).1\/(l.getD (j-1) wJ).1=(l.getD j wJ).1/\(l.getD (j-1) wJ).2.1<(l.getD j wJ).2.1)):=λ h0=>by
  have e1:(sO K l).Pairwise (λ x y=>x.1<y.1)↔l.Pairwise (λ x y=>((x.1.toNat*K+x.2.1.toNat:Nat):Int)<((y.1.toNat*K+y.2.1.toNat:Nat):Int)):=by unfold sO;rw[pV];exact⟨λ h=>h.imp λ hxy=>Int.ofNat_lt.2 hxy,λ h=>h.imp λ hxy=>Int.ofNat_lt.1 hxy⟩
  rw[e1,tZ wJ (key:=λ x:Int×Int×Sp=>((x.1.toNat*K+x.2.1.toNat:Nat):Int))];have key:∀j,0<j->j<l.length->((((l.getD (j-1) wJ).1.toNat*K+(l.getD (j-1) wJ).2.1.toNat:Nat):Int)<(((l.getD j wJ).1.toNat*K+(l.getD j wJ).2.1.toNat:Nat):Int)↔((l.getD (j-1) wJ).1<(l.getD j wJ).1\/(l.getD (j-1) wJ).1=(l.getD j wJ).1/\(l.getD (j-1) wJ).2.1<(l.getD j wJ).2.1)):=λ j hp hj=>by obtain⟨a1,a2,a3,a4⟩:=h0 _ (kK (z:=wJ) hj);obtain⟨b1,b2,b3,b4⟩:=h0 _ (kK (z:=wJ) (oO:j-1<l.length));rw[Int.ofNat_lt,aQI oO oO];omega
  exact⟨λ h j hp hj=>(key j hp hj).1 (h j hp hj),λ h j hp hj=>(key j hp hj).2 (h j hp hj)⟩
 constructor;.intro h j hj;have hm:l.getD j wJ∈l:=kK hj;obtain⟨a1,a2,a3,a4⟩:=h.rng _ hm;have hm2:((l.getD j wJ).1.toNat*K+(l.getD j wJ).2.1.toNat,(l.getD j wJ).2.2)∈sO K l:=cL.2 ⟨_,hm,rfl⟩;have h2:=h.ok.ne _ hm2;refine⟨⟨a1,a2,a3,a4,λ e=>?_⟩,λ hp=>(hinc h.rng).1 h.ok.inc j hp hj⟩;obtain⟨h5,h6⟩:=AL (K:=K) (g:=(l.getD j wJ).1.toNat) (c:=(l.getD j wJ).2.1.toNat) oO;simp only[neS,WK,EA,h5,h6]at h2;exact h2 e
 intro h;have h0:∀x∈l,0<=x.1/\x.1<S/\0<=x.2.1/\x.2.1<K:=λ x hx=>by obtain⟨j,hj,rfl⟩:=vZ wJ hx;obtain⟨⟨a1,a2,a3,a4,_⟩,_⟩:=h j hj;exact⟨a1,a2,a3,a4⟩
 refine⟨h0,(hinc h0).2 λ j hp hj=>(h j hj).2 hp,λ x hx=>?_,λ x hx=>?_⟩;.obtain⟨y,hy,rfl⟩:=cL.1 hx;obtain⟨a1,a2,a3,a4⟩:=h0 y hy;have h1:y.1.toNat+1<=S:=oO;have h2:=dE K h1;rw[cX,aMJ]at h2;simp only;omega
 obtain⟨y,hy,rfl⟩:=cL.1 hx;obtain⟨a1,a2,a3,a4⟩:=h0 y hy;obtain⟨j,hj,rfl⟩:=vZ wJ hy;obtain⟨⟨_,_,_,_,h7⟩,_⟩:=h j hj;obtain⟨h5,h6⟩:=AL (K:=K) (g:=(l.getD j wJ).1.toNat) (c:=(l.getD j wJ).2.1.toNat) oO;simp only[neS,WK,EA,h5,h6];exact h7
theorem aIE{la:List Tk}{gn:List Int}{tk:List Tk}:TkFit la gn tk↔(∀j,j<gn.length->(qR la (gn.getD j 0)/\(0<j->gn.getD (j-1) 0<gn.getD j 0))/\¬qR tk (gn.getD j 0))/\∀j,j<tk.length->tk.getD j fB∉la/\(0<j->(tk.getD (j-1) fB).id<(tk.getD j fB).id):=by
 constructor;.intro h;refine⟨λ j hj=>⟨⟨h.ga _ (kK hj),λ hp=>(tZ 0 (key:=λ x:Int=>x)).1 h.gi j hp hj⟩,h.gt _ (kK hj)⟩,λ j hj=>⟨h.ta _ (kK hj),λ hp=>(tZ fB (key:=λ t:Tk=>t.id)).1 h.ti j hp hj⟩⟩
 rintro⟨h1,h2⟩;refine⟨(tZ 0 (key:=λ x:Int=>x)).2 λ j hp hj=>(h1 j hj).1.2 hp,λ x hx=>?_,λ x hx=>?_,(tZ fB (key:=λ t:Tk=>t.id)).2 λ j hp hj=>(h2 j hj).2 hp,λ t ht=>?_⟩;.obtain⟨j,hj,rfl⟩:=vZ 0 hx;exact(h1 j hj).1.1
 .obtain⟨j,hj,rfl⟩:=vZ 0 hx;exact(h1 j hj).2
 obtain⟨j,hj,rfl⟩:=vZ fB ht;exact(h2 j hj).1
def wQ{β:Type}(f:Nat->β)(i:Nat)(v:β):Nat->β:=λ j=>if j=i then v else f j
def WW{β:Type}(f:Nat->β)(l:List (Nat×β)):Nat->β:=l.foldl (λ f x=>wQ f x.1 x.2) f
theorem aJL{β:Type}(f:Nat->β)(l:List (Nat×β))(x:Nat×β):WW f (l++[x])=wQ (WW f l) x.1 x.2:=by unfold WW;rw[List.foldl_append];rfl
theorem CV{β:Type}{i:Nat}:∀ {l:List (Nat×β)} {f:Nat->β},(∀x∈l,x.1≠i)->WW f l i=f i
 |[],_,_=>rfl
 |x::l,f,h=>by have:=CV (l:=l) (f:=wQ f x.1 x.2) λ y hy=>h y (fP _ hy);show WW (wQ f x.1 x.2) l i=f i;rw[this,wQ,if_neg (λ e=>h x sS e.symm)]
theorem aOY{β:Type}{l:List (Nat×β)}(h:l.Pairwise (λ x y=>x.1<y.1))(f:Nat->β):WW f l=upd f l:=by
 funext i
 induction l generalizing f with
 |nil=>rfl
 |cons x l ih=>
  obtain⟨h1,h2⟩:=List.pairwise_cons.1 h;show WW (wQ f x.1 x.2) l i=upd f (x::l) i;by_cases he:x.1=i;.rw[CV λ y hy=>by have:=h1 y hy;omega];simp[wQ,upd,he]
  rw[ih h2];have hb:(x.1==i)=false:=by simpa using he
  simp only[upd,List.find?_cons,hb];cases l.find? (λ x=>x.1==i)<;>simp[wQ,show ¬i=x.1 from λ e=>he e.symm]
def pT(N:Nat)(f:Nat->Int)(l:List (Int×Int)):Nat->Int:=WW f (toN (l.filter λ x=>decide (0<=x.1/\x.1<N)))
theorem KZ{N:Nat}{now f:Nat->Int}{l:List (Int×Int)}(h:ValOk N now l):pT N f l=upd f (toN l):=by unfold pT;rw[vK.2 λ x hx=>?_,aOY h.ok.inc];have h1:=h.lo x hx;have h2:=h.ok.lt (x.1.toNat,x.2) (cL.2 ⟨x,hx,rfl⟩);simp only at h2;rw[decide_eq_true_iff];omega
def wR(f:Nat->Nat->Sp)(g c:Nat)(v:Sp):Nat->Nat->Sp:=λ g' c'=>if g'=g/\c'=c then v else f g' c'
def CU(S K:Nat)(f:Nat->Nat->Sp)(l:List (Int×Int×Sp)):Nat->Nat->Sp:=l.foldl (λ(f:Nat->Nat->Sp) (x:Int×Int×Sp)=>if 0<=x.1/\x.1<S/\0<=x.2.1/\x.2.1<K then wR f x.1.toNat x.2.1.toNat x.2.2 else f) f
theorem QA(S K:Nat)(f:Nat->Nat->Sp)(l:List (Int×Int×Sp))(x:Int×Int×Sp):CU S K f (l++[x])=if 0<=x.1/\x.1<S/\0<=x.2.1/\x.2.1<K then wR (CU S K f l) x.1.toNat x.2.1.toNat x.2.2 else CU S K f l:=by unfold CU;rw[List.foldl_append];rfl
theorem LB{S K g c:Nat}:∀ {l:List (Int×Int×Sp)} {f:Nat->Nat->Sp},(∀x∈l,¬(x.1.toNat=g/\x.2.1.toNat=c))->CU S K f l g c=f g c
 |[],_,_=>rfl
 |x::l,f,h=>by
  have ih:=λ f'=>LB (S:=S) (K:=K) (g:=g) (c:=c) (l:=l) (f:=f') λ y hy=>h y (fP _ hy);show CU S K (if 0<=x.1/\x.1<S/\0<=x.2.1/\x.2.1<K then wR f x.1.toNat x.2.1.toNat x.2.2 else f) l g c=f g c;rw[ih];split;.rw[wR,if_neg (λ e=>h x sS ⟨e.1.symm,e.2.symm⟩)]
  rfl
theorem aOX{S K:Nat}{now:Nat->Nat->Sp}{l:List (Int×Int×Sp)}(h:SpotOk S K now l)(f:Nat->Nat->Sp):CU S K f l=upS K f l:=by
 have hr:=h.rng;have hp:l.Pairwise λ x y=>¬(x.1=y.1/\x.2.1=y.2.1):=by have h1:(sO K l).Pairwise (λ x y=>x.1<y.1):=h.ok.inc;unfold sO at h1;rw[pV]at h1;exact h1.imp λ hxy e=>by rw[e.1,e.2]at hxy;omega
 clear h;funext g c
 induction l generalizing f with
 |nil=>rfl
 |cons x l ih=>
  obtain⟨h1,h2⟩:=List.pairwise_cons.1 hp;have hx:=hr x sS;have hl:=λ y hy=>hr y (fP x hy);show CU S K (if 0<=x.1/\x.1<S/\0<=x.2.1/\x.2.1<K then wR f x.1.toNat x.2.1.toNat x.2.2 else f) l g c=_;rw[if_pos hx];by_cases he:x.1=(g:Int)/\x.2.1=(c:Int)
  .rw[LB λ y hy e=>?_];.simp[wR,upS,he.1,he.2]
   have:=hl y hy;exact h1 y hy ⟨oO,oO⟩
  rw[ih _ hl h2];have hb:(x.1==(g:Int)&&x.2.1==(c:Int))=false:=by rw[dS];simp only[ne_eq,aC,beq_iff_eq];exact he
  simp only[upS,List.find?_cons,hb];cases l.find? (λ x=>x.1==(g:Int)&&x.2.1==(c:Int))<;>simp only[wR,if_neg (oO:¬(g=x.1.toNat/\c=x.2.1.toNat))]
theorem XI{la:List Tk}{gn:List Int}{tk m:List Tk}(ha:IdL la)(hf:TkFit la gn tk)(hm:oQ la gn tk m):m.Perm (yW la gn tk++tk):=by
 have hn:∀ {q:List Tk},IdL q->q.Nodup:=λ hq=>oG.imp (λ hxy he=>by subst he;omega) hq;refine(List.perm_ext_iff_of_nodup (hn hm.1) ?_).2 λ x=>by rw[hm.2,cD];exact Or.comm
 rw[List.nodup_append];refine⟨hn (oG.filter _ ha),hn hf.ti,λ x hx y hy e=>?_⟩;subst e;exact(mem_stay.1 hx).2.2 ⟨x,hy,rfl⟩
theorem aJY{la:List Tk}{gn:List Int}{tk r m:List Tk}(ha:IdL la)(hf:TkFit la gn tk)(hm:oQ la gn tk m)(hp:r.Perm (yW la gn tk++tk))(hs:r.Pairwise λ x y=>x.id<=y.id):r=m:=by have h1:r.Perm m:=hp.trans (XI ha hf hm).symm;have hne:m.Pairwise λ x y=>x.id≠y.id:=oG.imp (λ hxy e=>oO) hm.1;have hne':r.Pairwise λ x y=>x.id≠y.id:=(h1.pairwise_iff λ {x y} h e=>h e.symm).2 hne;have hi:IdL r:=(hs.and hne').imp λ⟨h2,h3⟩=>oO;exact tT (key:=λ t:Tk=>t.id) hi hm.1 λ x=>h1.mem_iff
def LS(a:St)(d:Dl)(r:List Tk):St:={a with wt:=pT a.ng a.wt d.wg,clk:=pT a.nk a.clk d.ck,cur:=pT a.nk a.cur d.cu,nt:=r.length,tsk:=λ i=>r.getD i fB,sp:=CU a.ns a.nk a.sp d.sp}
theorem TJ{a:St}{d:Dl}(h:FitD a d)(r:List Tk):LS a d r=XG a d r:=by unfold LS XG;rw[KZ h.ck,KZ h.cu,KZ h.wg,aOX h.sp]
theorem bFO{a:St}{d:Dl}{r m:List Tk}(ha:zI a)(hb:zI (LS a d r))(hK:0<a.nk)(he:HK a (LS a d r)=d):FitD a d/\(oQ (mP a) d.gn d.tk m->XG a d m=LS a d r):=by obtain⟨h1,h2⟩:=aTM (b:=LS a d r) ha hb (λ _ _=>rfl) hK;rw[he]at h1 h2;refine⟨h1,λ hm=>?_⟩;have e:m=r:=XH hm (show oQ (mP a) d.gn d.tk r from EG (m:=r)▸h2);rw[e,TJ h1]
theorem bFN{a:St}{d:Dl}{r m:List Tk}(ha:zI a)(hf:FitD a d)(hm:oQ (mP a) d.gn d.tk m)(hp:r.Perm (yW (mP a) d.gn d.tk++d.tk))(hs:r.Pairwise λ x y=>x.id<=y.id):LS a d r=XG a d m/\HK a (LS a d r)=d:=by have e:r=m:=aJY (sP ha) hf.tk hm hp hs;subst e;rw[TJ hf];exact⟨rfl,aRT ha hf hm⟩
structure MInv (la:List Tk) (gn:List Int) (tk:List Tk) (i k:Nat) (acc:List Tk):Prop where
 inc:IdL acc
 mem:∀x,x∈acc↔x∈tk.take k\/x∈yW (la.take i) gn tk
 la:∀x∈acc,∀j,i<=j->j<la.length->x.id<(la.getD j fB).id
 tk:∀x∈acc,∀j,k<=j->j<tk.length->x.id<(tk.getD j fB).id
 len:acc.length<=i+k
theorem TQ{l:List Tk}(h:IdL l){i j:Nat}(hij:i<j)(hj:j<l.length):(l.getD i fB).id<(l.getD j fB).id:=by rw[nV hj,nV (by omega:i<l.length)];exact lN.1 h i j oO hj hij
theorem tD{α:Type}{l:List α}{z:α}{i:Nat}(h:i<l.length):l.take (i+1)=l.take i++[l.getD i z]:=by rw[nV h,<-List.take_append_getElem h]
theorem a6Y{la:List Tk}{gn:List Int}{tk:List Tk}:MInv la gn tk 0 0 []:=
 ⟨.nil,λ x=>by simp[yW],λ x hx=>by simp at hx,λ x hx=>by simp at hx,aF _⟩
theorem YE{l:List Tk}{t:Tk}(h:IdL l)(ht:∀x∈l,x.id<t.id):IdL (l++[t]):=by unfold IdL;rw[aAB];exact⟨h,sS,λ x hx y hy=>by rw[gZ.1 hy];exact ht x hx⟩
section
variable{la:List Tk}{gn:List Int}{tk acc:List Tk}{i k:Nat}
theorem JL(hl:IdL la)(ht:IdL tk)(h:MInv la gn tk i k acc)(hk:k<tk.length)(hc:i=la.length\/(tk.getD k fB).id<(la.getD i fB).id):MInv la gn tk i (k+1) (acc++[tk.getD k fB]) where
 inc:=YE h.inc λ x hx=>h.tk x hx k (aF _) hk
 mem x:=by
  rw[cD,gZ,h.mem,tD (z:=fB) hk,cD,gZ];constructor
  .rintro((h1|h1)|h1);.exact .inl (.inl h1)
   .exact .inr h1
   exact .inl (.inr h1)
  rintro((h1|h1)|h1);.exact .inl (.inl h1)
  .exact .inr h1
  exact .inl (.inr h1)
 la x hx j hj hj2:=by
  rcases cD.1 hx with h1|h1;.exact h.la x h1 j hj hj2
  rw[gZ.1 h1];rcases hc with hc|hc;.omega
  by_cases he:i=j;.subst he;exact hc
  have:=TQ hl (oO:i<j) hj2;omega
 tk x hx j hj hj2:=by
  rcases cD.1 hx with h1|h1;.exact h.tk x h1 j oO hj2
  rw[gZ.1 h1];exact TQ ht oO hj2
 len:=by have:=h.len;simp;omega
theorem QJ(hl:IdL la)(ht:IdL tk)(h:MInv la gn tk i k acc)(hi:i<la.length)(hc:¬(k<tk.length/\(tk.getD k fB).id<(la.getD i fB).id))(h1:(la.getD i fB).id∉gn)(h2:¬qR tk (la.getD i fB).id):MInv la gn tk (i+1) k (acc++[la.getD i fB]) where
 inc:=YE h.inc λ x hx=>h.la x hx i (aF _) hi
 mem x:=by
  rw[cD,gZ,h.mem,tD (z:=fB) hi,mem_stay,mem_stay,cD,gZ];constructor
  .rintro((h3|h3)|rfl);.exact .inl h3
   .exact .inr ⟨.inl h3.1,h3.2⟩
   exact .inr ⟨.inr rfl,h1,h2⟩
  rintro(h3|⟨h3|h3,h4⟩);.exact .inl (.inl h3)
  .exact .inl (.inr ⟨h3,h4⟩)
  exact .inr h3
 la x hx j hj hj2:=by
  rcases cD.1 hx with h3|h3;.exact h.la x h3 j oO hj2
  rw[gZ.1 h3];exact TQ hl oO hj2
 tk x hx j hj hj2:=by
  rcases cD.1 hx with h3|h3;.exact h.tk x h3 j hj hj2
  rw[gZ.1 h3];have h4:(la.getD i fB).id<(tk.getD k fB).id:=by have h5:¬(tk.getD k fB).id<(la.getD i fB).id:=λ h6=>hc ⟨oO,h6⟩;have h6:(tk.getD k fB).id≠(la.getD i fB).id:=λ e=>h2 ⟨_,kK oO,e⟩;omega
  by_cases he:k=j;.subst he;exact h4
  have:=TQ ht (oO:k<j) hj2;omega
 len:=by have:=h.len;simp;omega
theorem tH(h:MInv la gn tk i k acc)(hi:i<la.length)(h1:(la.getD i fB).id∈gn\/qR tk (la.getD i fB).id):MInv la gn tk (i+1) k acc where
 inc:=h.inc
 mem x:=by
  rw[h.mem,tD (z:=fB) hi,mem_stay,mem_stay,cD,gZ];constructor
  .rintro(h3|h3);.exact .inl h3
   exact .inr ⟨.inl h3.1,h3.2⟩
  rintro(h3|⟨h3|h3,h4,h5⟩);.exact .inl h3
  .exact .inr ⟨h3,h4,h5⟩
  subst h3;rcases h1 with h1|h1;.exact absurd h1 h4
  exact absurd h1 h5
 la x hx j hj hj2:=h.la x hx j oO hj2
 tk:=h.tk
 len:=by have:=h.len;omega
theorem aPP(h:MInv la gn tk la.length tk.length acc):oQ la gn tk acc:=
 ⟨h.inc,λ x=>by rw[h.mem,aHS,aHS]⟩
end
section
variable{α:Type}(z:α)(lt:α->α->Bool)
def VT(l:List α)(i j:Nat):List α:=(l.set i (l.getD j z)).set j (l.getD i z)
def qY(a:Nat):Nat->List α->List α
 |0,l=>l
 |j+1,l=>if a<j+1/\lt (l.getD (j+1) z) (l.getD j z)=true then qY a j (VT z l (j+1) j)else l
def AH(a:Nat)(l:List α):Nat->List α
 |0=>l
 |n+1=>qY z lt a (a+n+1) (AH a l n)
def CY(l:List α)(a b:Nat):List α:=AH z lt a l (b-a-1)
def WH(l:List α)(a b:Nat):Nat->List α
 |0=>l
 |n+1=>VT z (WH l a b n) (a+n) (b+n)
def KV(m:Nat):Nat->Nat->Nat->List α->List α
 |0,_,_,l=>l
 |f+1,i,j,l=>if i=j then WH z l (m-i) m i else if j<i then KV m f (i-j) j (WH z l (m-i) m j)else KV m f i (j-i) (WH z l (m-i) (m+j-i) i)
def rot(l:List α)(a m b:Nat):List α:=KV z m (b-a) (m-a) (b-m) l
def CG(p:Nat->Bool):Nat->Nat->Nat->Nat
 |0,i,_=>i
 |f+1,i,j=>if i<j then(if p ((i+j)/2)=true then CG p f ((i+j)/2+1) j else CG p f i ((i+j)/2))else i
def shR(l:List α)(a:Nat):Nat->List α
 |0=>l
 |n+1=>VT z (shR l a n) (a+n) (a+n+1)
def shL(l:List α)(m:Nat):Nat->List α
 |0=>l
 |n+1=>VT z (shL l m n) (m-n) (m-n-1)
def rP:Nat->List α->Nat->Nat->Nat->List α
 |0,l,_,_,_=>l
 | f+1,l,a,m,b=>
   if m-a=1 then shR z l a (CG (λ h=>lt (l.getD h z) (l.getD a z)) (b-m) m b-1-a)
   else if b-m=1 then shL z l m (m-CG (λ h=> !(lt (l.getD m z) (l.getD h z))) (m-a) a m)
   else
    let mid:=(a+b)/2
    let n:=mid+m
    let st:=CG (λ c=> !(lt (l.getD (n-1-c) z) (l.getD c z))) (b-a) (if mid<m then n-b else a) (if mid<m then mid else m)
    let en:=n-st
    let l1:=if st<m/\m<en then rot z l st m en else l
    let l2:=if a<st/\st<mid then rP f l1 a st mid else l1
    if mid<en/\en<b then rP f l2 mid en b else l2
def blk(l:List α):Nat->List α
 |0=>l
 |q+1=>CY z lt (blk l q) (20*q) (20*q+20)
def VV(s:Nat)(l:List α):Nat->List α
 |0=>l
 |q+1=>rP z lt l.length (VV s l q) (2*s*q) (2*s*q+s) (2*s*q+2*s)
def OM(s:Nat)(l:List α):List α:=
 if 2*s*(l.length/(2*s))+s<l.length then rP z lt l.length (VV z lt s l (l.length/(2*s))) (2*s*(l.length/(2*s))) (2*s*(l.length/(2*s))+s) l.length else VV z lt s l (l.length/(2*s))
def wU:Nat->Nat->List α->List α
 |0,_,l=>l
 |f+1,s,l=>if s<l.length then wU f (2*s) (OM z lt s l)else l
def GE(l:List α):List α:=wU z lt l.length 20 (CY z lt (blk z lt l (l.length/20)) (20*(l.length/20)) l.length)
variable{z lt}
theorem BN{l:List α}{i q:Nat}{v:α}:(l.set i v).getD q z=if i=q/\q<l.length then v else l.getD q z:=by
 rw[bD,bD,fY];split
 .rename_i h;subst h;split;.rename_i h;rw[if_pos ⟨rfl,h⟩];rfl
  rename_i h;rw[if_neg (λ e=>h e.2),cI oO]
 rename_i h;rw[if_neg (λ e=>h e.1)]
theorem yC{l:List α}{i j:Nat}:(VT z l i j).length=l.length:=by simp[VT]
theorem KL{l:List α}{i j q:Nat}(hi:i<l.length)(hj:j<l.length):(VT z l i j).getD q z=if q=j then l.getD i z else if q=i then l.getD j z else l.getD q z:=by
 unfold VT;rw[BN,BN,PI];by_cases h1:q=j;.subst h1;rw[if_pos ⟨rfl,hj⟩,if_pos rfl]
 rw[if_neg (λ e=>h1 e.1.symm),if_neg h1];by_cases h2:q=i;.subst h2;rw[if_pos ⟨rfl,hi⟩,if_pos rfl]
 rw[if_neg (λ e=>h2 e.1.symm),if_neg h2]
theorem zL{l:List α}{i j:Nat}(hi:i<l.length)(hj:j<l.length):(VT z l i j).Perm l:=by unfold VT;rw[bD,bD,aE hi,aE hj];exact List.set_set_perm hi hj
theorem MF{a:Nat}:∀ {j:Nat} {l:List α},j<l.length->(qY z lt a j l).Perm l
 |0,_,_=>fV.refl _
 |j+1,l,h=>by
  rw[qY];split;.exact(MF (by rw[yC];omega)).trans (zL h oO)
  exact fV.refl _
theorem yG{a:Nat}{l:List α}:∀ {n:Nat},a+n<l.length\/n=0->(AH z lt a l n).Perm l
 |0,_=>fV.refl _
 |n+1,h=>by have ih:=yG (a:=a) (l:=l) (n:=n) oO;exact(MF (by rw[ih.length_eq];omega)).trans ih
theorem xD{l:List α}{a b:Nat}(h:b<=l.length):(CY z lt l a b).Perm l:=yG oO
theorem pB{l:List α}{a b:Nat}:∀ {n:Nat},(WH z l a b n).length=l.length
 |0=>rfl
 |n+1=>by rw[WH,yC,pB]
theorem DX{l:List α}{a b:Nat}:∀ {n:Nat},a+n<=l.length->b+n<=l.length->(WH z l a b n).Perm l
 |0,_,_=>fV.refl _
 |n+1,h1,h2=>(zL (by rw[pB];omega) (by rw[pB];omega)).trans (DX oO oO)
theorem SM{l:List α}{a b:Nat}:∀ {n q:Nat},a+n<=b->b+n<=l.length->(WH z l a b n).getD q z=if a<=q/\q<a+n then l.getD (q+b-a) z else if b<=q/\q<b+n then l.getD (q+a-b) z else l.getD q z
 |0,q,_,_=>by rw[if_neg oO,if_neg oO];rfl
 |n+1,q,h1,h2=>by
  have ih:=λ q=>SM (l:=l) (a:=a) (b:=b) (n:=n) (q:=q) oO oO;rw[WH,KL (by rw[pB];omega) (by rw[pB];omega),ih,ih,ih];repeat' split
  all_goals first|(exfalso;omega)|rfl|(congr 1;omega)
theorem GJ{m:Nat}:∀ {f i j:Nat} {l:List α},i<=m->m+j<=l.length->(KV z m f i j l).Perm l
 |0,_,_,_,_,_=>fV.refl _
 |f+1,i,j,l,h1,h2=>by
  rw[KV];split;.exact DX oO oO
  split;.exact(GJ oO (by rw[pB];omega)).trans (DX oO oO)
  exact(GJ oO (by rw[pB];omega)).trans (DX oO oO)
theorem SW{m:Nat}:∀ {f i j:Nat} {l:List α} {q:Nat},0<i->0<j->i+j<=f->i<=m->m+j<=l.length->(KV z m f i j l).getD q z=if m-i<=q/\q<m-i+j then l.getD (q+i) z else if m-i+j<=q/\q<m+j then l.getD (q-j) z else l.getD q z
 |0,_,_,_,_,h1,h2,h3,_,_=>oO
 |f+1,i,j,l,q,h1,h2,h3,h4,h5=>by
  rw[KV];split
  .rename_i he;subst he;rw[SM oO oO];by_cases c1:m-i<=q/\q<m-i+i;.rw[if_pos c1,if_pos c1];congr 1;omega
   rw[if_neg c1,if_neg c1];by_cases c2:m<=q/\q<m+i;.rw[if_pos c2,if_pos oO];congr 1;omega
   rw[if_neg c2,if_neg oO]
  rename_i hne;split
  .rename_i hlt;have S:=λ q=>SM (z:=z) (l:=l) (a:=m-i) (b:=m) (n:=j) (q:=q) oO oO;rw[SW oO oO oO oO (by rw[pB];omega),S,S,S];repeat' split
   all_goals first|(exfalso;omega)|rfl|(congr 1;omega)
  rename_i hlt;have S:=λ q=>SM (z:=z) (l:=l) (a:=m-i) (b:=m+j-i) (n:=i) (q:=q) oO oO;rw[SW oO oO oO oO (by rw[pB];omega),S,S,S];repeat' split
  all_goals first|(exfalso;omega)|rfl|(congr 1;omega)
theorem a2Y{l:List α}{a m b q:Nat}(h1:a<m)(h2:m<b)(h3:b<=l.length):(rot z l a m b).getD q z=if a<=q/\q<a+(b-m)then l.getD (q+(m-a)) z else if a+(b-m)<=q/\q<b then l.getD (q-(b-m)) z else l.getD q z:=by unfold rot;rw[SW oO oO oO oO oO];rw[(oO:m-(m-a)=a),(oO:m+(b-m)=b)]
theorem KU{l:List α}{a m b:Nat}(h1:a<m)(h2:m<b)(h3:b<=l.length):(rot z l a m b).Perm l:=GJ oO oO
theorem rL{p:Nat->Bool}:∀ {f i j:Nat},i<=j->i<=CG p f i j/\CG p f i j<=j
 |0,i,j,h=>⟨aF _,h⟩
 |f+1,i,j,h=>by
  rw[CG];split
  .split;.have:=rL (p:=p) (f:=f) (i:=(i+j)/2+1) (j:=j) oO;omega
   have:=rL (p:=p) (f:=f) (i:=i) (j:=(i+j)/2) oO;omega
  omega
theorem AP{p:Nat->Bool}:∀ {f i j:Nat},j-i<=f->(∀x y,i<=x->x<y->y<j->p y=true->p x=true)->(∀x,i<=x->x<CG p f i j->p x=true)/\∀x,CG p f i j<=x->x<j->p x=false
 |0,i,j,h,_=>⟨λ x h1 h2=>by rw[CG]at h2;omega,λ x h1 h2=>by rw[CG]at h1;omega⟩
 |f+1,i,j,h,hm=>by
  rw[CG];split
  .split
   .rename_i hp;obtain⟨h1,h2⟩:=AP (p:=p) (f:=f) (i:=(i+j)/2+1) (j:=j) oO (λ x y a b c d=>hm x y oO b c d);refine⟨λ x a b=>?_,λ x a b=>h2 x a b⟩;by_cases c:x<(i+j)/2+1
    .by_cases e:x=(i+j)/2;.subst e;exact hp
     exact hm x _ a (oO:x<(i+j)/2) oO hp
    exact h1 x oO b
   rename_i hp;obtain⟨h1,h2⟩:=AP (p:=p) (f:=f) (i:=i) (j:=(i+j)/2) oO (λ x y a b c d=>hm x y a b oO d);refine⟨λ x a b=>h1 x a b,λ x a b=>?_⟩;by_cases c:x<(i+j)/2;.exact h2 x a c
   rw[dS];intro hx;by_cases e:x=(i+j)/2;.subst e;exact hp hx
   exact hp (hm _ x oO oO b hx)
  exact⟨λ x a b=>oO,λ x a b=>oO⟩
theorem BC{l:List α}{a:Nat}:∀ {n:Nat},(shR z l a n).length=l.length
 |0=>rfl
 |n+1=>by rw[shR,yC,BC]
theorem KQ{l:List α}{a:Nat}:∀ {n:Nat},a+n<l.length\/n=0->(shR z l a n).Perm l
 |0,_=>fV.refl _
 |n+1,h=>(zL (by rw[BC];omega) (by rw[BC];omega)).trans (KQ oO)
theorem aOE{l:List α}{a:Nat}:∀ {n q:Nat},a+n<l.length\/n=0->(shR z l a n).getD q z=if a<=q/\q<a+n then l.getD (q+1) z else if q=a+n then l.getD a z else l.getD q z
 |0,q,_=>by
  rw[if_neg oO];split;.rename_i h;subst h;rfl
  rfl
 |n+1,q,h=>by
  have ih:=λ q=>aOE (l:=l) (a:=a) (n:=n) (q:=q) oO;rw[shR,KL (by rw[BC];omega) (by rw[BC];omega),ih,ih,ih];repeat' split
  all_goals first|(exfalso;omega)|rfl|(congr 1;omega)
theorem BD{l:List α}{m:Nat}:∀ {n:Nat},(shL z l m n).length=l.length
 |0=>rfl
 |n+1=>by rw[shL,yC,BD]
theorem KS{l:List α}{m:Nat}(hm:m<l.length):∀ {n:Nat},(shL z l m n).Perm l
 |0=>fV.refl _
 |n+1=>(zL (by rw[BD];omega) (by rw[BD];omega)).trans (KS hm)
theorem aOF{l:List α}{m:Nat}(hm:m<l.length):∀ {n q:Nat},n<=m->(shL z l m n).getD q z=if m-n<q/\q<=m then l.getD (q-1) z else if q=m-n then l.getD m z else l.getD q z
 |0,q,_=>by
  rw[if_neg oO];split;.rename_i h;subst h;rfl
  rfl
 |n+1,q,h=>by
  have ih:=λ q=>aOF (l:=l) hm (n:=n) (q:=q) oO;rw[shL,KL (by rw[BD];omega) (by rw[BD];omega),ih,ih,ih];repeat' split
  all_goals first|(exfalso;omega)|rfl|(congr 1;omega)
end
section
variable{α:Type}{z:α}{lt:α->α->Bool}{key:α->Int}
def Inc(z:α)(key:α->Int)(l:List α)(a b:Nat):Prop:=∀i j,a<=i->i<j->j<b->key (l.getD i z)<=key (l.getD j z)
def JB(z:α)(lt:α->α->Bool)(key:α->Int)(l:List α):Prop:=∀i j,i<l.length->j<l.length->lt (l.getD i z) (l.getD j z)=decide (key (l.getD i z)<key (l.getD j z))
theorem mC{l m:List α}(h:JB z lt key l)(hp:m.Perm l):JB z lt key m:=λ i j hi hj=>by obtain⟨i',hi',ei⟩:=vZ z (hp.mem_iff.1 (kK (z:=z) hi));obtain⟨j',hj',ej⟩:=vZ z (hp.mem_iff.1 (kK (z:=z) hj));rw[<-ei,<-ej];exact h i' j' hi' hj'
theorem rS{l m:List α}{a b:Nat}(h:Inc z key l a b)(he:∀q,a<=q->q<b->m.getD q z=l.getD q z):Inc z key m a b:=λ i j h1 h2 h3=>by rw[he i h1 oO,he j oO h3];exact h i j h1 h2 h3
theorem QW{a:Nat}:∀ {j:Nat} {l:List α} {q:Nat},j<l.length->a<=j->q<a\/j<q->(qY z lt a j l).getD q z=l.getD q z
 |0,_,_,_,_,_=>rfl
 |j+1,l,q,h,ha,hq=>by
  rw[qY];split;.rename_i hc;rw[QW (by rw[yC];omega) oO oO,KL h oO,if_neg oO,if_neg oO]
  rfl
theorem QX{a e:Nat}:∀ {j:Nat} {l:List α},j<l.length->a<=j->JB z lt key l->(∀x y,a<=x->x<y->y<e->x≠j->y≠j->key (l.getD x z)<=key (l.getD y z))->(∀y,j<y->y<e->key (l.getD j z)<=key (l.getD y z))->Inc z key (qY z lt a j l) a e
 |0,l,h,ha,hk,h1,h2=>λ x y hx hxy hy=>by
  show key (l.getD x z)<=key (l.getD y z);by_cases he:x=0;.subst he;exact h2 y hxy hy
  exact h1 x y hx hxy hy he oO
 |j+1,l,h,ha,hk,h1,h2=>by
  rw[qY];split
  .rename_i hc;have hs:=λ q=>KL (z:=z) (q:=q) h (oO:j<l.length);have hlt:=hk (j+1) j h oO;rw[hc.2]at hlt;have hlt:=of_decide_eq_true hlt.symm;refine QX (by rw[yC];omega) oO (mC hk (zL h oO)) (λ x y hx hxy hy n1 n2=>?_) (λ y hjy hy=>?_)
   .rw[hs,hs,if_neg n1,if_neg n2];by_cases c1:x=j+1;.subst c1;rw[if_pos rfl,if_neg oO];exact h1 j y oO oO hy oO oO
    rw[if_neg c1];by_cases c2:y=j+1;.subst c2;rw[if_pos rfl];exact h1 x j hx oO oO oO oO
    rw[if_neg c2];exact h1 x y hx hxy hy c1 c2
   rw[hs,hs,if_pos rfl,if_neg oO];by_cases c1:y=j+1;.subst c1;rw[if_pos rfl];omega
   rw[if_neg c1];exact h2 y oO hy
  rename_i hc;intro x y hx hxy hy;by_cases c1:x=j+1;.subst c1;exact h2 y hxy hy
  by_cases c2:y=j+1
  .subst c2;have hlt:=hk (j+1) j h oO;have h3:key (l.getD j z)<=key (l.getD (j+1) z):=by have:lt (l.getD (j+1) z) (l.getD j z)≠true:=λ e=>hc ⟨oO,e⟩;rw[hlt]at this;simp only[ne_eq,decide_eq_true_iff]at this;omega
   by_cases c3:x=j;.subst c3;exact h3
   have:=h1 x j hx oO oO c1 oO;omega
  exact h1 x y hx hxy hy c1 c2
theorem ME{a:Nat}{l:List α}(hk:JB z lt key l):∀ {n:Nat},a+n<l.length->Inc z key (AH z lt a l n) a (a+n+1)/\∀q,q<a\/a+n<q->(AH z lt a l n).getD q z=l.getD q z
 |0,h=>⟨λ i j h1 h2 h3=>oO,λ q _=>rfl⟩
 |n+1,h=>by obtain⟨i1,i2⟩:=ME (a:=a) hk (n:=n) oO;have hp:=yG (z:=z) (lt:=lt) (a:=a) (l:=l) (n:=n) oO;rw[AH];refine⟨QX (j:=a+n+1) (by rw[hp.length_eq];omega) oO (mC hk hp) (λ x y hx hxy hy n1 n2=>i1 x y hx hxy oO) (λ y h1 h2=>oO),λ q hq=>?_⟩;rw[QW (j:=a+n+1) (by rw[hp.length_eq];omega) oO oO,i2 q oO]
theorem QV{l:List α}(hk:JB z lt key l){a b:Nat}(hb:b<=l.length):Inc z key (CY z lt l a b) a b/\∀q,q<a\/b<=q->(CY z lt l a b).getD q z=l.getD q z:=by
 by_cases h:a+1<b;.obtain⟨h1,h2⟩:=ME (a:=a) (n:=b-a-1) hk oO;exact⟨λ i j c1 c2 c3=>h1 i j c1 c2 oO,λ q hq=>h2 q oO⟩
 have:b-a-1=0:=oO;unfold CY;rw[this];exact⟨λ i j c1 c2 c3=>oO,λ q _=>rfl⟩
structure Sym (z:α) (key:α->Int) (l r:List α) (a b:Nat):Prop where
 perm:r.Perm l
 inc:Inc z key r a b
 out:∀q,q<a\/b<=q->r.getD q z=l.getD q z
 inn:∀q,a<=q->q<b->∃q',a<=q'/\q'<b/\r.getD q z=l.getD q' z
theorem Sym.none {l:List α}{a b:Nat}(h:Inc z key l a b):Sym z key l l a b:=⟨fV.refl _,h,λ _ _=>rfl,λ q h1 h2=>⟨q,h1,h2,rfl⟩⟩
theorem aVU{l l1 l2 l3:List α}{a mid b:Nat}(h1:a<=mid)(h2:mid<=b)(hp:l1.Perm l)(ho:∀q,q<a\/b<=q->l1.getD q z=l.getD q z)(hi:∀q,a<=q->q<b->∃q',a<=q'/\q'<b/\l1.getD q z=l.getD q' z)
 (hc:∀q q',a<=q->q<mid->mid<=q'->q'<b->key (l1.getD q z)<=key (l1.getD q' z)) (s2:Sym z key l1 l2 a mid) (s3:Sym z key l2 l3 mid b):Sym z key l l3 a b where
 perm:=(s3.perm.trans s2.perm).trans hp
 inc i j c1 c2 c3:=by
  by_cases d1:j<mid;.rw[s3.out i oO,s3.out j oO];exact s2.inc i j c1 c2 d1
  by_cases d2:mid<=i;.exact s3.inc i j d2 c2 c3
  rw[s3.out i oO];obtain⟨i',e1,e2,e3⟩:=s2.inn i c1 oO;obtain⟨j',f1,f2,f3⟩:=s3.inn j oO c3;rw[e3,f3,s2.out j' oO];exact hc i' j' e1 e2 f1 f2
 out q hq:=by rw[s3.out q oO,s2.out q oO,ho q hq]
 inn q c1 c2:=by
  by_cases d:q<mid;.obtain⟨q',e1,e2,e3⟩:=s2.inn q c1 d;obtain⟨q2,f1,f2,f3⟩:=hi q' e1 oO;exact⟨q2,f1,f2,by rw[s3.out q oO,e3,f3]⟩
  obtain⟨q',e1,e2,e3⟩:=s3.inn q oO c2;obtain⟨q2,f1,f2,f3⟩:=hi q' oO e2;exact⟨q2,f1,f2,by rw[e3,s2.out q' oO,f3]⟩
theorem AY:∀ {f:Nat} {l:List α} {a m b:Nat},JB z lt key l->a<m->m<b->b<=l.length->b-a<=f->Inc z key l a m->Inc z key l m b->Sym z key l (rP z lt f l a m b) a b
 |0,_,_,_,_,_,h1,h2,_,h4,_,_=>oO
 |f+1,l,a,m,b,hk,h1,h2,h3,h4,h5,h6=>by
  rw[rP];split
  .rename_i hma;obtain⟨B1,B2⟩:=AP (p:=λ h=>lt (l.getD h z) (l.getD a z)) (f:=b-m) (i:=m) (j:=b) oO (λ x y c1 c2 c3 c4=>by have e1:=hk x a oO oO;have e2:=hk y a oO oO;rw[e2]at c4;have c4:=of_decide_eq_true c4;have:=h6 x y c1 c2 c3;show lt _ _=true;rw[e1];exact decide_eq_true oO)
   have hr:=rL (p:=λ h=>lt (l.getD h z) (l.getD a z)) (f:=b-m) (i:=m) (j:=b) oO;generalize CG (λ h=>lt (l.getD h z) (l.getD a z)) (b-m) m b=i at B1 B2 hr;have hs:=λ q=>aOE (z:=z) (l:=l) (a:=a) (n:=i-1-a) (q:=q) oO;have T1:∀x,m<=x->x<i->key (l.getD x z)<key (l.getD a z):=λ x c1 c2=>by have:=B1 x c1 c2;simp only[hk x a oO oO,decide_eq_true_iff]at this;exact this
   have T2:∀x,i<=x->x<b->key (l.getD a z)<=key (l.getD x z):=λ x c1 c2=>by have:=B2 x c1 c2;simp only[hk x a oO oO,dFn]at this;omega
   refine⟨KQ oO,λ x y c1 c2 c3=>?_,λ q hq=>?_,λ q c1 c2=>?_⟩
   .rw[hs,hs];by_cases d1:a<=x/\x<a+(i-1-a)
    .rw[if_pos d1];by_cases d2:y<a+(i-1-a);.rw[if_pos oO];exact h6 (x+1) (y+1) oO oO oO
     rw[if_neg oO];by_cases d3:y=a+(i-1-a);.rw[if_pos d3];have:=T1 (x+1) oO oO;omega
     rw[if_neg d3];exact h6 (x+1) y oO oO oO
    rw[if_neg d1];by_cases d2:x=a+(i-1-a);.rw[if_pos d2,if_neg oO,if_neg oO];exact T2 y oO oO
    rw[if_neg d2,if_neg oO,if_neg oO];exact h6 x y oO c2 c3
   .rw[hs,if_neg oO,if_neg oO]
   rw[hs];by_cases d1:a<=q/\q<a+(i-1-a);.rw[if_pos d1];exact⟨q+1,oO,oO,rfl⟩
   rw[if_neg d1];by_cases d2:q=a+(i-1-a);.rw[if_pos d2];exact⟨a,oO,oO,rfl⟩
   rw[if_neg d2];exact⟨q,c1,c2,rfl⟩
  split
  .rename_i hma hbm;obtain⟨B1,B2⟩:=AP (p:=λ h=> !(lt (l.getD m z) (l.getD h z))) (f:=m-a) (i:=a) (j:=m) oO (λ x y c1 c2 c3 c4=>by have e1:=hk m x oO oO;have e2:=hk m y oO oO;rw[e2,aT]at c4;have c4:=of_decide_eq_false c4;have:=h5 x y c1 c2 c3;show(!(lt _ _))=true;rw[e1,aT];exact decide_eq_false oO)
   have hr:=rL (p:=λ h=> !(lt (l.getD m z) (l.getD h z))) (f:=m-a) (i:=a) (j:=m) oO;generalize CG (λ h=> !(lt (l.getD m z) (l.getD h z))) (m-a) a m=i at B1 B2 hr;have hs:=λ q=>aOF (z:=z) (l:=l) (m:=m) (oO:m<l.length) (n:=m-i) (q:=q) oO;have T1:∀x,a<=x->x<i->key (l.getD x z)<=key (l.getD m z):=λ x c1 c2=>by have:=B1 x c1 c2;simp only[hk m x oO oO,aT,dFn]at this;omega
   have T2:∀x,i<=x->x<m->key (l.getD m z)<key (l.getD x z):=λ x c1 c2=>by have:=B2 x c1 c2;simp only[hk m x oO oO,dH,decide_eq_true_iff]at this;omega
   refine⟨KS oO,λ x y c1 c2 c3=>?_,λ q hq=>?_,λ q c1 c2=>?_⟩
   .rw[hs,hs];by_cases d1:m-(m-i)<x/\x<=m;.rw[if_pos d1,if_pos oO];exact h5 (x-1) (y-1) oO oO oO
    rw[if_neg d1];by_cases d2:x=m-(m-i);.rw[if_pos d2,if_pos oO];have:=T2 (y-1) oO oO;omega
    rw[if_neg d2];by_cases d3:m-(m-i)<y/\y<=m;.rw[if_pos d3];exact h5 x (y-1) c1 oO oO
    rw[if_neg d3];by_cases d4:y=m-(m-i);.rw[if_pos d4];exact T1 x c1 oO
    rw[if_neg d4];exact h5 x y c1 c2 oO
   .rw[hs,if_neg oO,if_neg oO]
   rw[hs];by_cases d1:m-(m-i)<q/\q<=m;.rw[if_pos d1];exact⟨q-1,oO,oO,rfl⟩
   rw[if_neg d1];by_cases d2:q=m-(m-i);.rw[if_pos d2];exact⟨m,oO,oO,rfl⟩
   rw[if_neg d2];exact⟨q,c1,c2,rfl⟩
  rename_i hma hbm;obtain⟨mid,em⟩:∃mid,mid=(a+b)/2:=⟨_,rfl⟩;simp only[<-em];obtain⟨s0,es⟩:∃s0,s0=if mid<m then mid+m-b else a:=⟨_,rfl⟩
  obtain⟨r0,er⟩:∃r0,r0=if mid<m then mid else m:=⟨_,rfl⟩
  rw[<-es,<-er]
  have cs:(mid<m/\s0=mid+m-b/\r0=mid)\/(m<=mid/\s0=a/\r0=m):=by
   by_cases c:mid<m;.rw[if_pos c]at es er;exact .inl ⟨c,es,er⟩
   rw[if_neg c]at es er;exact .inr ⟨oO,es,er⟩
  clear es er;have hpk:∀c,s0<=c->c<r0->(!(lt (l.getD (mid+m-1-c) z) (l.getD c z)))=decide (key (l.getD c z)<=key (l.getD (mid+m-1-c) z)):=λ c c1 c2=>by rw[hk _ _ oO oO,aY,aT,dFn,decide_eq_true_iff];omega
  obtain⟨B1,B2⟩:=AP (p:=λ c=> !(lt (l.getD (mid+m-1-c) z) (l.getD c z))) (f:=b-a) (i:=s0) (j:=r0) oO (λ x y c1 c2 c3 c4=>by show(!(lt _ _))=true;rw[hpk x c1 oO];rw[hpk y oO c3]at c4;have c4:=of_decide_eq_true c4;have i1:=h5 x y oO c2 oO;have i2:=h6 (mid+m-1-y) (mid+m-1-x) oO oO oO;exact decide_eq_true oO)
  have hr:=rL (p:=λ c=> !(lt (l.getD (mid+m-1-c) z) (l.getD c z))) (f:=b-a) (i:=s0) (j:=r0) oO;generalize CG (λ c=> !(lt (l.getD (mid+m-1-c) z) (l.getD c z))) (b-a) s0 r0=st at B1 B2 hr;obtain⟨en,ee⟩:∃en,en=mid+m-st:=⟨_,rfl⟩;rw[<-ee];have T1:s0<st->key (l.getD (st-1) z)<=key (l.getD en z):=λ c=>by have:=B1 (st-1) oO oO;rw[hpk _ oO oO,decide_eq_true_iff,(oO:mid+m-1-(st-1)=en)]at this;exact this
  have T2:st<r0->key (l.getD (en-1) z)<key (l.getD st z):=λ c=>by have:=B2 st oO oO;rw[hpk _ oO oO,dFn,(oO:mid+m-1-st=en-1)]at this;omega
  have le5:∀x y,a<=x->x<=y->y<m->key (l.getD x z)<=key (l.getD y z):=λ x y c1 c2 c3=>by
   by_cases c:x=y;.subst c;omega
   exact h5 x y c1 oO c3
  have le6:∀x y,m<=x->x<=y->y<b->key (l.getD x z)<=key (l.getD y z):=λ x y c1 c2 c3=>by
   by_cases c:x=y;.subst c;omega
   exact h6 x y c1 oO c3
  obtain⟨l1,e1⟩:∃l1,l1=if st<m/\m<en then rot z l st m en else l:=⟨_,rfl⟩
  have hp1:l1.Perm l:=by
   rw[e1];split;.exact KU oO oO oO
   exact fV.refl _
  have ha1:∀q,l1.getD q z=if st<=q/\q<mid then l.getD (q+(m-st)) z else if mid<=q/\q<en then l.getD (q-(mid-st)) z else l.getD q z:=λ q=>by
   rw[e1];split
   .rw[a2Y oO oO oO];repeat' split
    all_goals first|(exfalso;omega)|rfl|(congr 1;omega)
   repeat' split
   all_goals first|(exfalso;omega)|rfl|(congr 1;omega)
  rw[<-e1]
  have s2:Sym z key l1 (if a<st/\st<mid then rP z lt f l1 a st mid else l1) a mid:=by
   split
   .refine AY (mC hk hp1) oO oO (by rw[hp1.length_eq];omega) oO (λ i j c1 c2 c3=>?_) (λ i j c1 c2 c3=>?_);.rw[ha1,ha1,if_neg oO,if_neg oO,if_neg oO,if_neg oO];exact le5 _ _ oO oO oO
    rw[ha1,ha1,if_pos oO,if_pos oO];exact le6 _ _ oO oO oO
   refine .none λ i j c1 c2 c3=>?_;rw[ha1,ha1];by_cases c:st<=a;.rw[if_pos oO,if_pos oO];exact le6 _ _ oO oO oO
   rw[if_neg oO,if_neg oO,if_neg oO,if_neg oO];exact le5 _ _ oO oO oO
  obtain⟨l2,e2⟩:∃l2,l2=if a<st/\st<mid then rP z lt f l1 a st mid else l1:=⟨_,rfl⟩
  rw[<-e2]at s2⊢
  have hp2:l2.Perm l:=s2.perm.trans hp1;have ha2:∀q,mid<=q->l2.getD q z=l1.getD q z:=λ q h=>s2.out q (.inr h)
  have s3:Sym z key l2 (if mid<en/\en<b then rP z lt f l2 mid en b else l2) mid b:=by
   split
   .refine AY (mC hk hp2) oO oO (by rw[hp2.length_eq];omega) oO (λ i j c1 c2 c3=>?_) (λ i j c1 c2 c3=>?_);.rw[ha2 i oO,ha2 j oO,ha1,ha1,if_neg oO,if_pos oO,if_neg oO,if_pos oO];exact le5 _ _ oO oO oO
    rw[ha2 i oO,ha2 j oO,ha1,ha1,if_neg oO,if_neg oO,if_neg oO,if_neg oO];exact le6 _ _ oO oO oO
   refine .none λ i j c1 c2 c3=>?_;rw[ha2 i oO,ha2 j oO,ha1,ha1];by_cases c:en<=mid;.rw[if_neg oO,if_neg oO,if_neg oO,if_neg oO];exact le6 _ _ oO oO oO
   rw[if_neg oO,if_pos oO,if_neg oO,if_pos oO];exact le5 _ _ oO oO oO
  refine aVU (mid:=mid) oO oO hp1 (λ q hq=>?_) (λ q c1 c2=>?_) (λ q q' c1 c2 c3 c4=>?_) s2 s3;.rw[ha1,if_neg oO,if_neg oO]
  .rw[ha1];split;.exact⟨q+(m-st),oO,oO,rfl⟩
   split;.exact⟨q-(mid-st),oO,oO,rfl⟩
   exact⟨q,c1,c2,rfl⟩
  rw[ha1 q,ha1 q',if_neg (oO:¬(st<=q'/\q'<mid))];by_cases d1:q<st
  .rw[if_neg oO,if_neg oO];by_cases d2:q'<en;.rw[if_pos oO];exact le5 _ _ oO oO oO
   rw[if_neg oO];have t1:=T1 oO;have t2:=le5 q (st-1) oO oO oO;have t3:=le6 en q' oO oO oO;omega
  rw[if_pos oO];by_cases d2:q'<en;.rw[if_pos oO];have t1:=T2 oO;have t2:=le6 (q+(m-st)) (en-1) oO oO oO;have t3:=le5 st (q'-(mid-st)) oO oO oO;omega
  rw[if_neg oO];exact le6 _ _ oO oO oO
end
section
variable{α:Type}{z:α}{lt:α->α->Bool}{key:α->Int}
def aVC(z:α)(key:α->Int)(s:Nat)(l:List α):Prop:=∀t,Inc z key l (s*t) (min (s*t+s) l.length)
theorem ZL{l:List α}(hk:JB z lt key l):∀ {q:Nat},20*q<=l.length->(blk z lt l q).Perm l/\∀t,t<q->Inc z key (blk z lt l q) (20*t) (20*t+20)
 |0,_=>⟨fV.refl _,λ t ht=>absurd ht (bJ t)⟩
 |q+1,h=>by
  obtain⟨h1,h2⟩:=ZL hk (q:=q) oO;have hb:20*q+20<=(blk z lt l q).length:=by rw[h1.length_eq];omega
  obtain⟨h3,h4⟩:=QV (a:=20*q) (mC hk h1) hb;refine⟨(xD hb).trans h1,λ t ht=>?_⟩;by_cases he:t=q;.subst he;exact h3
  exact rS (h2 t oO) λ q' c1 c2=>h4 q' oO
theorem aCR{l:List α}(hk:JB z lt key l):(CY z lt (blk z lt l (l.length/20)) (20*(l.length/20)) l.length).Perm l/\aVC z key 20 (CY z lt (blk z lt l (l.length/20)) (20*(l.length/20)) l.length):=by
 obtain⟨h1,h2⟩:=ZL hk (q:=l.length/20) oO;obtain⟨h3,h4⟩:=QV (a:=20*(l.length/20)) (b:=l.length) (mC hk h1) (by rw[h1.length_eq];omega);have hp:=(xD (z:=z) (lt:=lt) (l:=blk z lt l (l.length/20)) (a:=20*(l.length/20)) (b:=l.length) (by rw[h1.length_eq];omega)).trans h1;refine⟨hp,λ t=>?_⟩;rw[hp.length_eq];intro i j c1 c2 c3;by_cases ht:t<l.length/20;.exact rS (h2 t ht) (λ q' d1 d2=>h4 q' oO) i j c1 c2 oO
 exact h3 i j oO c2 oO
theorem TE{s t q:Nat}(h:t<=q):2*s*t<=2*s*q:=Nat.mul_le_mul_left _ h
theorem JK{s t q:Nat}(h:t<q):2*s*t+2*s<=2*s*q:=by have:=TE (s:=s) (show t+1<=q from h);rw[Nat.mul_add,bAM]at this;exact this
theorem WY{s:Nat}{l:List α}(hs:0<s)(hk:JB z lt key l)(hB:aVC z key s l):∀ {q:Nat},2*s*q<=l.length->(VV z lt s l q).Perm l/\(∀t,t<q->Inc z key (VV z lt s l q) (2*s*t) (2*s*t+2*s))/\∀x,2*s*q<=x->(VV z lt s l q).getD x z=l.getD x z
 |0,_=>⟨fV.refl _,λ t ht=>absurd ht (bJ t),λ _ _=>rfl⟩
 |q+1,h=>by
  have hm:=JK (s:=s) (oO:q<q+1);obtain⟨h1,h2,h3⟩:=WY hs hk hB (q:=q) oO;have e1:s*(2*q)=2*s*q:=by rw[jW 2 s,Nat.mul_assoc]
  have e2:s*(2*q+1)=2*s*q+s:=by rw[Nat.mul_add,e1,bAM]
  have b1:=hB (2*q);have b2:=hB (2*q+1);rw[e1]at b1;rw[e2]at b2
  have S:Sym z key (VV z lt s l q) (rP z lt l.length (VV z lt s l q) (2*s*q) (2*s*q+s) (2*s*q+2*s)) (2*s*q) (2*s*q+2*s):=
   AY (mC hk h1) oO oO (by rw[h1.length_eq];omega) oO (rS (λ i j c1 c2 c3=>b1 i j c1 c2 oO) λ x c1 c2=>h3 x c1) (rS (λ i j c1 c2 c3=>b2 i j c1 c2 oO) λ x c1 c2=>h3 x oO)
  rw[VV];refine⟨S.perm.trans h1,λ t ht=>?_,λ x hx=>?_⟩
  .by_cases he:t=q;.subst he;exact S.inc
   have:=JK (s:=s) (oO:t<q);exact rS (h2 t oO) λ x c1 c2=>S.out x oO
  rw[S.out x oO,h3 x oO]
theorem aJN{s:Nat}{l:List α}(hs:0<s)(hk:JB z lt key l)(hB:aVC z key s l):(OM z lt s l).Perm l/\aVC z key (2*s) (OM z lt s l):=by
 obtain⟨k,ek⟩:∃k,k=l.length/(2*s):=⟨_,rfl⟩;have k1:2*s*k<=l.length:=by rw[ek];exact Nat.mul_div_le _ _
 have k2:l.length<2*s*k+2*s:=by have:=Nat.lt_mul_div_succ l.length (oO:0<2*s);rw[<-ek,Nat.mul_add,bAM]at this;exact this
 obtain⟨h1,h2,h3⟩:=WY hs hk hB k1;have e1:s*(2*k)=2*s*k:=by rw[jW 2 s,Nat.mul_assoc]
 have e2:s*(2*k+1)=2*s*k+s:=by rw[Nat.mul_add,e1,bAM]
 have b1:=hB (2*k);have b2:=hB (2*k+1);rw[e1]at b1;rw[e2]at b2;unfold OM;rw[<-ek];split
 .rename_i hc
  have S:Sym z key (VV z lt s l k) (rP z lt l.length (VV z lt s l k) (2*s*k) (2*s*k+s) l.length) (2*s*k) l.length:=
   AY (mC hk h1) oO oO (by rw[h1.length_eq];omega) oO (rS (λ i j c1 c2 c3=>b1 i j c1 c2 oO) λ x c1 c2=>h3 x c1) (rS (λ i j c1 c2 c3=>b2 i j c1 c2 oO) λ x c1 c2=>h3 x oO)
  have hp:=S.perm.trans h1;refine⟨hp,λ t=>?_⟩;rw[hp.length_eq];intro i j c1 c2 c3;by_cases ht:t<k;.have:=JK (s:=s) ht;exact rS (h2 t ht) (λ x d1 d2=>S.out x oO) i j c1 c2 oO
  have:=TE (s:=s) (oO:k<=t);exact S.inc i j oO c2 oO
 rename_i hc;refine⟨h1,λ t=>?_⟩;rw[h1.length_eq];intro i j c1 c2 c3;by_cases ht:t<k;.exact h2 t ht i j c1 c2 oO
 have:=TE (s:=s) (oO:k<=t);rw[h3 i oO,h3 j oO];exact b1 i j oO c2 oO
theorem LD:∀ {f s:Nat} {l:List α},0<s->l.length<=s+f->JB z lt key l->aVC z key s l->(wU z lt f s l).Perm l/\Inc z key (wU z lt f s l) 0 l.length
 |0,s,l,hs,hf,hk,hB=>⟨fV.refl _,λ i j c1 c2 c3=>hB 0 i j oO c2 (by show j<min (s*0+s) l.length;omega)⟩
 |f+1,s,l,hs,hf,hk,hB=>by
  rw[wU];split;.obtain⟨h1,h2⟩:=aJN hs hk hB;obtain⟨h3,h4⟩:=LD (f:=f) (s:=2*s) (l:=OM z lt s l) oO (by rw[h1.length_eq];omega) (mC hk h1) h2;rw[h1.length_eq]at h4;exact⟨h3.trans h1,h4⟩
  exact⟨fV.refl _,λ i j c1 c2 c3=>hB 0 i j oO c2 (by show j<min (s*0+s) l.length;omega)⟩
theorem aIL{l:List α}(hk:JB z lt key l):(GE z lt l).Perm l/\(GE z lt l).Pairwise λ x y=>key x<=key y:=by obtain⟨h1,h2⟩:=aCR hk;have h3:=LD (f:=l.length) (s:=20) oO (by rw[h1.length_eq];omega) (mC hk h1) h2;have hp:=h3.1.trans h1;refine⟨hp,?_⟩;have h4:=h3.2;rw[h1.length_eq]at h4;rw[lN];intro i j hi hj hij;have:key ((GE z lt l).getD i z)<=key ((GE z lt l).getD j z):=h4 i j oO hij (by rw[<-hp.length_eq];exact hj);rw[nV hj,nV hi]at this;exact this
end
section
variable{α:Type}{z:α}{lt:α->α->Bool}
theorem wN:∀ {f:Nat} {l:List α} {a m b:Nat},a<m->m<b->b<=l.length->(rP z lt f l a m b).Perm l
 |0,_,_,_,_,_,_,_=>fV.refl _
 |f+1,l,a,m,b,h1,h2,h3=>by
  rw[rP];split;.have hr:=rL (p:=λ h=>lt (l.getD h z) (l.getD a z)) (f:=b-m) (i:=m) (j:=b) oO;exact KQ oO
  split;.exact KS oO
  obtain⟨mid,em⟩:∃mid,mid=(a+b)/2:=⟨_,rfl⟩;simp only[<-em];obtain⟨s0,es⟩:∃s0,s0=if mid<m then mid+m-b else a:=⟨_,rfl⟩
  obtain⟨r0,er⟩:∃r0,r0=if mid<m then mid else m:=⟨_,rfl⟩
  rw[<-es,<-er]
  have cs:(mid<m/\s0=mid+m-b/\r0=mid)\/(m<=mid/\s0=a/\r0=m):=by
   by_cases c:mid<m;.rw[if_pos c]at es er;exact .inl ⟨c,es,er⟩
   rw[if_neg c]at es er;exact .inr ⟨oO,es,er⟩
  clear es er;have hr:=rL (p:=λ c=> !(lt (l.getD (mid+m-1-c) z) (l.getD c z))) (f:=b-a) (i:=s0) (j:=r0) oO;generalize CG (λ c=> !(lt (l.getD (mid+m-1-c) z) (l.getD c z))) (b-a) s0 r0=st at hr;obtain⟨en,ee⟩:∃en,en=mid+m-st:=⟨_,rfl⟩;rw[<-ee];obtain⟨l1,e1⟩:∃l1,l1=if st<m/\m<en then rot z l st m en else l:=⟨_,rfl⟩
  have hp1:l1.Perm l:=by
   rw[e1];split;.exact KU oO oO oO
   exact fV.refl _
  rw[<-e1];obtain⟨l2,e2⟩:∃l2,l2=if a<st/\st<mid then rP z lt f l1 a st mid else l1:=⟨_,rfl⟩
  have hp2:l2.Perm l:=by
   rw[e2];split;.exact(wN oO oO (by rw[hp1.length_eq];omega)).trans hp1
   exact hp1
  rw[<-e2];split;.exact(wN oO oO (by rw[hp2.length_eq];omega)).trans hp2
  exact hp2
theorem NN{l:List α}:∀ {q:Nat},20*q<=l.length->(blk z lt l q).Perm l
 |0,_=>fV.refl _
 |q+1,h=>by have ih:=NN (l:=l) (q:=q) oO;exact(xD (by rw[ih.length_eq];omega)).trans ih
theorem LF{s:Nat}{l:List α}(hs:0<s):∀ {q:Nat},2*s*q<=l.length->(VV z lt s l q).Perm l
 |0,_=>fV.refl _
 |q+1,h=>by have hm:=JK (s:=s) (oO:q<q+1);have ih:=LF (l:=l) hs (q:=q) oO;exact(wN oO oO (by rw[ih.length_eq];omega)).trans ih
theorem QC{s:Nat}{l:List α}(hs:0<s):(OM z lt s l).Perm l:=by
 have k1:2*s*(l.length/(2*s))<=l.length:=Nat.mul_div_le _ _;have ih:=LF (z:=z) (lt:=lt) (l:=l) hs k1;unfold OM;split;.exact(wN oO oO (by rw[ih.length_eq];omega)).trans ih
 exact ih
theorem LE:∀ {f s:Nat} {l:List α},0<s->(wU z lt f s l).Perm l
 |0,_,_,_=>fV.refl _
 |f+1,s,l,hs=>by
  rw[wU];split;.exact(LE oO).trans (QC hs)
  exact fV.refl _
theorem aCS{l:List α}:(CY z lt (blk z lt l (l.length/20)) (20*(l.length/20)) l.length).Perm l:=by have h1:=NN (z:=z) (lt:=lt) (l:=l) (q:=l.length/20) oO;exact(xD (by rw[h1.length_eq];omega)).trans h1
theorem stab_perm{l:List α}:(GE z lt l).Perm l:=(LE oO).trans aCS
end
end Go.Proofs.T
end
section
namespace Go.Proofs.T
open Go Go.AM Go.Proofs
def a0E(a:St)(d:Dl)(r:List Tk):Prop:=vF a (LS a d r)=0/\OF a (LS a d r)=d
def appR(a:St)(d:Dl)(m:List Tk):Prop:=FitD a d/\bW (XG a d m)=[]
theorem a4C{s:St}(h:bW s=[]):∀t∈mP s,1<=t.id/\t.id<=65535:=λ t ht=>by obtain⟨i,hi,rfl⟩:=mem_tkL.1 ht;have h:=BL (s:=s) (by rw[h];rfl);exact⟨h.lo i hi,h.hi i hi⟩
theorem aBV(a:St)(d:Dl)(r:List Tk):xZ a (LS a d r) a.ng=true:=by simp only[xZ,dTt];exact⟨rfl,rfl,rfl,λ _ _=>rfl⟩
theorem a0C{a:St}{d:Dl}{r m:List Tk}(ha:bW a=[])(hK:0<a.nk)(hp:r.Perm (yW (mP a) d.gn d.tk++d.tk))
 (hs:(∀t∈r,1<=t.id/\t.id<=65535)->r.Pairwise λ x y=>x.id<=y.id) (hm:FitD a d->oQ (mP a) d.gn d.tk m):(a0E a d r↔appR a d m)/\(a0E a d r->LS a d r=XG a d m):=by
 have ia:=(BL (s:=a) (by rw[ha];rfl)).st
 have key:a0E a d r->FitD a d/\bW (LS a d r)=[]/\LS a d r=XG a d m:=by
  rintro⟨h1,h2⟩;have hnb:¬pI a (LS a d r):=λ hb=>by unfold vF at h1;rw[if_pos hb]at h1;exact absurd h1 (by decide)
  have hb:bW (LS a d r)=[]:=by refine fL ?_;unfold pI at hnb;omega
  have h3:HK a (LS a d r)=d:=by unfold OF at h2;rw[if_neg hnb,aBV,if_neg sS]at h2;exact h2
  obtain⟨h4,h5⟩:=bFO (m:=m) ia (BL (by rw[hb];rfl)).st hK h3;exact⟨h4,hb,(h5 (hm h4)).symm⟩
 refine⟨⟨λ h=>?_,?_⟩,λ h=>(key h).2.2⟩;.obtain⟨h1,h2,h3⟩:=key h;exact⟨h1,by rw[<-h3];exact h2⟩
 rintro⟨hf,hc⟩;have hmm:=hm hf
 have hid:∀t∈r,1<=t.id/\t.id<=65535:=λ t ht=>by
  have h1:=a4C hc t;rw[SK]at h1;refine h1 ((hmm.2 t).2 ?_);rcases cD.1 (hp.mem_iff.1 ht)with h|h;.exact .inr h
  exact .inl h
 obtain⟨e1,e2⟩:=bFN ia hf hmm hp (hs hid);have hnb:¬pI a (LS a d r):=by unfold pI;rw[e1,ha,hc];simp
 refine⟨?_,?_⟩;.unfold vF;rw[if_neg hnb,aBV,if_neg sS]
 unfold OF;rw[if_neg hnb,aBV,if_neg sS];exact e2
def gU(x y:Tk):Bool:=decide (aN.wrap (x.id-y.id)<0)
theorem aNN{l:List Tk}(h:∀t∈l,1<=t.id/\t.id<=65535):(GE fB gU l).Pairwise λ x y=>x.id<=y.id:=by refine(aIL (z:=fB) (lt:=gU) (key:=λ t:Tk=>t.id) λ i j hi hj=>?_).2;have h1:=h _ (kK (z:=fB) hi);have h2:=h _ (kK (z:=fB) hj);unfold gU;rw[dA oO oO];show decide _=decide ((l.getD i fB).id<(l.getD j fB).id);congr 1;exact propext ⟨λ h=>oO,λ h=>oO⟩
end Go.Proofs.T
end
section
namespace Go.Proofs.T
open Go Go.AM Go.Proofs
variable{Γ:List (Nat×List AVal)}
theorem a2I(a b:Int):jM (a,b)=[.lit (.int .i64 a),.lit (.int .i64 b)]:=rfl
theorem a6T(a b:Int)(s:Sp):pR (a,b,s)=[.lit (.int .i64 a),.lit (.int .i64 b),.lit (.int .u64 s.v),.lit (.int .u32 s.r),.lit (.int .u64 s.floor)]:=rfl
attribute [go_sem] a2I a6T
theorem iZ{c:AVal}(h:∀p,iC p c=true)(a b:Nat):CO a b c=c:=by have:=h λ _=>false;cases c<;>first|rfl|(simp[iC]at this;done)|(simp[iC]at this;subst this;rfl)
theorem qD(a b:Nat->Int)(i:Nat):(fG a b i).length<=1:=EN _ _
theorem YY(a b:St)(i:Nat):(vE a b i).length<=1:=EN _ _
theorem MX(a b:St)(g i:Nat):(jN a b g i).length<=1:=EN _ _
theorem aZA(k D:Nat)(hD:D<k)(a b:Nat->Int)(n:Nat)(hn:n<=1000)(c1 c2 c3 c4 c5:AVal)(e1:∀p,iC p c1=true)(e2:∀p,iC p c2=true)(e3:∀p,iC p c3=true)(e4:∀p,iC p c4=true)(e5:∀p,iC p c5=true):
 Tr aA Γ 53 k [.rd 1 n (λ i=>[(a i)]),.rd 1 n (λ i=>[(b i)]),.fn 54 [.ptr D 0 0]] ([(D,⟨6,false,[[(),c1,c2,c3,c4,c5]]⟩)]) (λ k1 r1 H1=>k1=k+1/\r1= .tup []/\H1=cA k 2 ((fC (fG a b) n).map jM) [(D,⟨6,false,[[bV k ((fC (fG a b) n).map jM),c1,c2,c3,c4,c5]]⟩)]):=by
 obtain⟨a1,a2,a3,a4,a5,a6⟩:=dW hD;obtain⟨s1,s2,s3,s4,s5⟩:=xY (iZ e1) (iZ e2) (iZ e3) (iZ e4) (iZ e5);refine iD Tryz.func53 rfl 26 rfl bB (pS ?_);have kp:Kp [0,1,2,6,7,8,9,10,11,20] (λ i=>if i=D then 0 else i-k+1):=vD;have uU:=eQ @a1 @a2 @a3 @a4 @a5 @a6 @e1 @e2 (qW @e3 @e4 @e5 @s1 @s2 @s3 @s4 @s5);refine wl ?_;refine aU (zs ?_);refine bE (X:=Nat) rfl [0,1,2,6,7,8,9,10,11,20] (k+1) (λ i=>[(10,i)]) (λ i=>cA k 2 ((fC (fG a b) i).map jM) [(D,⟨6,false,[[bV k ((fC (fG a b) i).map jM),c1,c2,c3,c4,c5]]⟩)]) (λ i=>i<=n) (λ i=>n-i) 0 ?_ (aJ _) ?_;.rw[lG,aV];refine rR ?_;apply zN;(have uU:=eQ @a1 @a2 @a3 @a4 @a5 @a6 @e1 @e2 (qW @e3 @e4 @e5 @s1 @s2 @s3 @s4 @s5);exact oZ)
 intro i hi;have hfl:=jH (qD a b) i;obtain⟨l,el,hl⟩:∃x,x=((fC (fG a b) i).map jM)/\x.length<=i:=⟨_,rfl,by simp;omega⟩;have es:((fC (fG a b) (i+1)).map jM)=l++(fG a b i).map jM:=by rw[kL,aH,<-el]
 rw[<-el];refine rR ?_;apply zN;refine wl ?_;refine wM ⟨λ ht ht=>zN ?_⟩ ⟨λ ht ht=>zN ?_⟩ ⟨λ ht=>zN ?_⟩
 .refine cl [.gen (.tup []) (k+3) (cA k 2 l [(D,⟨6,false,[[bV k l,c1,c2,c3,c4,c5]]⟩)]) [(k+2,⟨2,true,l++[[.lit (.int .i64 (i:Int)),.lit (.int .i64 (b i))]]⟩),(D,⟨6,false,[[.sl (k+2) 0 (l.length+1),c1,c2,c3,c4,c5]]⟩)]] ?_;refine dD (zs ?_) (zs ?_);.exact a9S (k+1) D k oO oO oO l oO c1 c2 c3 c4 c5 (i:Int) (b i) (e1 _) (e2 _) (e3 _) (e4 _) (e5 _)
  refine wl ?_;refine aU (zs ?_);refine⟨i+1,oO,oO,?_⟩;rw[es,show fG a b i=[_]from by rw[fG,uG,if_pos (by first|(simp;omega)|(simp[wO]at ht⊢;omega))],bG,aV];refine rR ?_;apply zN;exact lM (k+2) k (wV (eQ (@a1) (@a2) (@a3) (@a4) (@a5) (@a6) (@e1) (@e2) (qW (@e3) (@e4) (@e5) (@s1) (@s2) (@s3) (@s4) (@s5))))
 .refine⟨i+1,oO,oO,?_⟩;rw[es,show fG a b i=[]from by rw[fG,uG,if_neg (by first|(simp;omega)|(simp[wO]at ht⊢;omega))],aV,aR];refine rR ?_;apply zN;(have uU:=eQ @a1 @a2 @a3 @a4 @a5 @a6 @e1 @e2 (qW @e3 @e4 @e5 @s1 @s2 @s3 @s4 @s5);exact oZ)
 have hin:i=n:=oO;subst hin;refine⟨k+1,[],cA k 2 l [(D,⟨6,false,[[bV k l,c1,c2,c3,c4,c5]]⟩)],?_,_,rfl,rfl,rfl,by rw[el]⟩;(have uU:=eQ @a1 @a2 @a3 @a4 @a5 @a6 @e1 @e2 (qW @e3 @e4 @e5 @s1 @s2 @s3 @s4 @s5);exact oZ)
theorem aYZ(k D:Nat)(hD:D<k)(a b:Nat->Int)(n:Nat)(hn:n<=1000)(c1 c2 c3 c4 c5:AVal)(e1:∀p,iC p c1=true)(e2:∀p,iC p c2=true)(e3:∀p,iC p c3=true)(e4:∀p,iC p c4=true)(e5:∀p,iC p c5=true):
 Tr aA Γ 53 k [.rd 1 n (λ i=>[(a i)]),.rd 1 n (λ i=>[(b i)]),.fn 55 [.ptr D 0 0]] ([(D,⟨6,false,[[c1,(),c2,c3,c4,c5]]⟩)]) (λ k1 r1 H1=>k1=k+1/\r1= .tup []/\H1=cA k 2 ((fC (fG a b) n).map jM) [(D,⟨6,false,[[c1,bV k ((fC (fG a b) n).map jM),c2,c3,c4,c5]]⟩)]):=by
 obtain⟨a1,a2,a3,a4,a5,a6⟩:=dW hD;obtain⟨s1,s2,s3,s4,s5⟩:=xY (iZ e1) (iZ e2) (iZ e3) (iZ e4) (iZ e5);refine iD Tryz.func53 rfl 26 rfl bB (pS ?_);have kp:Kp [0,1,2,6,7,8,9,10,11,20] (λ i=>if i=D then 0 else i-k+1):=vD;have uU:=eQ @a1 @a2 @a3 @a4 @a5 @a6 @e1 @e2 (qW @e3 @e4 @e5 @s1 @s2 @s3 @s4 @s5);refine wl ?_;refine aU (zs ?_);refine bE (X:=Nat) rfl [0,1,2,6,7,8,9,10,11,20] (k+1) (λ i=>[(10,i)]) (λ i=>cA k 2 ((fC (fG a b) i).map jM) [(D,⟨6,false,[[c1,bV k ((fC (fG a b) i).map jM),c2,c3,c4,c5]]⟩)]) (λ i=>i<=n) (λ i=>n-i) 0 ?_ (aJ _) ?_;.rw[lG,aV];refine rR ?_;apply zN;(have uU:=eQ @a1 @a2 @a3 @a4 @a5 @a6 @e1 @e2 (qW @e3 @e4 @e5 @s1 @s2 @s3 @s4 @s5);exact oZ)
 intro i hi;have hfl:=jH (qD a b) i;obtain⟨l,el,hl⟩:∃x,x=((fC (fG a b) i).map jM)/\x.length<=i:=⟨_,rfl,by simp;omega⟩;have es:((fC (fG a b) (i+1)).map jM)=l++(fG a b i).map jM:=by rw[kL,aH,<-el]
 rw[<-el];refine rR ?_;apply zN;refine wl ?_;refine wM ⟨λ ht ht=>zN ?_⟩ ⟨λ ht ht=>zN ?_⟩ ⟨λ ht=>zN ?_⟩
 .refine cl [.gen (.tup []) (k+3) (cA k 2 l [(D,⟨6,false,[[c1,bV k l,c2,c3,c4,c5]]⟩)]) [(k+2,⟨2,true,l++[[.lit (.int .i64 (i:Int)),.lit (.int .i64 (b i))]]⟩),(D,⟨6,false,[[c1,.sl (k+2) 0 (l.length+1),c2,c3,c4,c5]]⟩)]] ?_;refine dD (zs ?_) (zs ?_);.exact a9R (k+1) D k oO oO oO l oO c1 c2 c3 c4 c5 (i:Int) (b i) (e1 _) (e2 _) (e3 _) (e4 _) (e5 _)
  refine wl ?_;refine aU (zs ?_);refine⟨i+1,oO,oO,?_⟩;rw[es,show fG a b i=[_]from by rw[fG,uG,if_pos (by first|(simp;omega)|(simp[wO]at ht⊢;omega))],bG,aV];refine rR ?_;apply zN;exact lM (k+2) k (wV (eQ (@a1) (@a2) (@a3) (@a4) (@a5) (@a6) (@e1) (@e2) (qW (@e3) (@e4) (@e5) (@s1) (@s2) (@s3) (@s4) (@s5))))
 .refine⟨i+1,oO,oO,?_⟩;rw[es,show fG a b i=[]from by rw[fG,uG,if_neg (by first|(simp;omega)|(simp[wO]at ht⊢;omega))],aV,aR];refine rR ?_;apply zN;(have uU:=eQ @a1 @a2 @a3 @a4 @a5 @a6 @e1 @e2 (qW @e3 @e4 @e5 @s1 @s2 @s3 @s4 @s5);exact oZ)
 have hin:i=n:=oO;subst hin;refine⟨k+1,[],cA k 2 l [(D,⟨6,false,[[c1,bV k l,c2,c3,c4,c5]]⟩)],?_,_,rfl,rfl,rfl,by rw[el]⟩;(have uU:=eQ @a1 @a2 @a3 @a4 @a5 @a6 @e1 @e2 (qW @e3 @e4 @e5 @s1 @s2 @s3 @s4 @s5);exact oZ)
theorem aYY(k D:Nat)(hD:D<k)(a b:St)(n:Nat)(hn:n<=1000)(c1 c2 c3 c4 c5:AVal)(e1:∀p,iC p c1=true)(e2:∀p,iC p c2=true)(e3:∀p,iC p c3=true)(e4:∀p,iC p c4=true)(e5:∀p,iC p c5=true):
 Tr aA Γ 56 k [.rd 2 n (gf a),.rd 2 n (gf b),.fn 57 [.ptr D 0 0]] ([(D,⟨6,false,[[c1,c2,(),c3,c4,c5]]⟩)]) (λ k1 r1 H1=>k1=k+1/\r1= .tup []/\H1=cA k 2 ((fC (vE a b) n).map jM) [(D,⟨6,false,[[c1,c2,bV k ((fC (vE a b) n).map jM),c3,c4,c5]]⟩)]):=by
 obtain⟨a1,a2,a3,a4,a5,a6⟩:=dW hD;obtain⟨s1,s2,s3,s4,s5⟩:=xY (iZ e1) (iZ e2) (iZ e3) (iZ e4) (iZ e5);refine iD Tryz.func56 rfl 26 rfl bB (pS ?_);have kp:Kp [0,1,2,6,7,8,9,10,11,20] (λ i=>if i=D then 0 else i-k+1):=vD;have uU:=eQ @a1 @a2 @a3 @a4 @a5 @a6 @e1 @e2 (qW @e3 @e4 @e5 @s1 @s2 @s3 @s4 @s5);refine wl ?_;refine aU (zs ?_);refine bE (X:=Nat) rfl [0,1,2,6,7,8,9,10,11,20] (k+1) (λ i=>[(10,i)]) (λ i=>cA k 2 ((fC (vE a b) i).map jM) [(D,⟨6,false,[[c1,c2,bV k ((fC (vE a b) i).map jM),c3,c4,c5]]⟩)]) (λ i=>i<=n) (λ i=>n-i) 0 ?_ (aJ _) ?_;.rw[lG,aV];refine rR ?_;apply zN;(have uU:=eQ @a1 @a2 @a3 @a4 @a5 @a6 @e1 @e2 (qW @e3 @e4 @e5 @s1 @s2 @s3 @s4 @s5);exact oZ)
 intro i hi;have hfl:=jH (YY a b) i;obtain⟨l,el,hl⟩:∃x,x=((fC (vE a b) i).map jM)/\x.length<=i:=⟨_,rfl,by simp;omega⟩;have es:((fC (vE a b) (i+1)).map jM)=l++(vE a b i).map jM:=by rw[kL,aH,<-el]
 rw[<-el];refine rR ?_;apply zN;refine wl ?_;refine wM ⟨λ ht ht=>zN ?_⟩ ⟨λ ht ht=>zN ?_⟩ ⟨λ ht=>zN ?_⟩
 .refine cl [.gen (.tup []) (k+5) (cA k 2 l [(D,⟨6,false,[[c1,c2,bV k l,c3,c4,c5]]⟩)]) [(k+4,⟨2,true,l++[[.lit (.int .i64 (i:Int)),.lit (.int .i64 (b.wt i))]]⟩),(D,⟨6,false,[[c1,c2,.sl (k+4) 0 (l.length+1),c3,c4,c5]]⟩)]] ?_;refine dD (zs ?_) (zs ?_);.exact a9Q (k+2) D k oO oO oO l oO c1 c2 c3 c4 c5 (i:Int) (b.par i) (b.wt i) (e1 _) (e2 _) (e3 _) (e4 _) (e5 _)
  refine wl ?_;refine aU (zs ?_);refine⟨i+1,oO,oO,?_⟩;rw[es,show vE a b i=[_]from by rw[vE,uG,if_pos (by first|(simp;omega)|(simp[wO]at ht⊢;omega))],bG,aV];refine rR ?_;apply zN;exact lM (k+4) k (wV (eQ (@a1) (@a2) (@a3) (@a4) (@a5) (@a6) (@e1) (@e2) (qW (@e3) (@e4) (@e5) (@s1) (@s2) (@s3) (@s4) (@s5))))
 .refine⟨i+1,oO,oO,?_⟩;rw[es,show vE a b i=[]from by rw[vE,uG,if_neg (by first|(simp;omega)|(simp[wO]at ht⊢;omega))],aV,aR];refine rR ?_;apply zN;(have uU:=eQ @a1 @a2 @a3 @a4 @a5 @a6 @e1 @e2 (qW @e3 @e4 @e5 @s1 @s2 @s3 @s4 @s5);exact oZ)
 have hin:i=n:=oO;subst hin;refine⟨k+1,[],cA k 2 l [(D,⟨6,false,[[c1,c2,bV k l,c3,c4,c5]]⟩)],?_,_,rfl,rfl,rfl,by rw[el]⟩;(have uU:=eQ @a1 @a2 @a3 @a4 @a5 @a6 @e1 @e2 (qW @e3 @e4 @e5 @s1 @s2 @s3 @s4 @s5);exact oZ)
theorem aYX(k D:Nat)(hD:D<k)(id:Nat)(hid:id<k)(hne:D≠id)(E:Nat)(hE:E<k)(hDE:D≠E)(hEi:E≠id)(l0:List (Int×Int×Sp))(hl0:l0.length<=10000)(a b:St)(g:Nat)(n:Nat)(hn:n<=1000)(c1 c2 c3 c4 c5:AVal)(e1:∀p,iC p c1=true)(e2:∀p,iC p c2=true)(e3:∀p,iC p c3=true)(e4:∀p,iC p c4=true)(e5:∀p,iC p c5=true):
 Tr aA Γ 59 k [.rd 3 n (sf a g),.rd 3 n (sf b g),.fn 60 [.ptr D 0 0,.ptr E 0 0]] (cA id 5 (l0.map pR) [(D,⟨6,false,[[c1,c2,c3,c4,c5,bV id (l0.map pR)]]⟩),(E,⟨1,true,[[g]]⟩)]) (λ k1 r1 H1=>k1=k+1/\r1= .tup []/\H1=cA k 5 ((l0++fC (jN a b g) n).map pR) [(D,⟨6,false,[[c1,c2,c3,c4,c5,bV k ((l0++fC (jN a b g) n).map pR)]]⟩),(E,⟨1,true,[[g]]⟩)]):=by
 obtain⟨a1,a2,a3,a4,a5,a6⟩:=dW hD;obtain⟨s1,s2,s3,s4,s5⟩:=xY (iZ e1) (iZ e2) (iZ e3) (iZ e4) (iZ e5);obtain⟨b1,b2,b3,b4,b5,b6⟩:=dW hid;obtain⟨d1,d2⟩:=iE hne;obtain⟨g1,g2,g3,g4,g5,g6⟩:=dW hE;obtain⟨d3,d4⟩:=iE hDE;obtain⟨d5,d6⟩:=iE hEi;refine iD Tryz.func59 rfl 26 rfl bB (pS ?_);refine dI (BY id oO) ?_;have uU:=eQ @a1 @a2 @a3 @a4 @a5 @a6 @e1 @e2 (eQ @e3 @e4 @e5 @s1 @s2 @s3 @s4 @s5 (eQ @b1 @b2 @b3 @b4 @b5 @b6 @d1 @d2 (eQ @g1 @g2 @g3 @g4 @g5 @g6 @d3 @d4 (zA @d5 @d6))));refine rR ?_;apply zN;have kp:Kp [0,1,2,6,7,8,9,10,11,20] (λ i=>if i=D then 0 else if i=E then 1 else if i=id then 2 else i-k+3):=vD;refine wl ?_;refine aU (zs ?_);refine bE (X:=Nat) rfl [0,1,2,6,7,8,9,10,11,20] (k+1) (λ i=>[(10,i)]) (λ i=>cA k 5 ((l0++fC (jN a b g) i).map pR) [(D,⟨6,false,[[c1,c2,c3,c4,c5,bV k ((l0++fC (jN a b g) i).map pR)]]⟩),(E,⟨1,true,[[g]]⟩)]) (λ i=>i<=n) (λ i=>n-i) 0 ?_ (aJ _) ?_;.rw[lG,aR];refine rR ?_;apply zN;(have uU:=eQ @a1 @a2 @a3 @a4 @a5 @a6 @e1 @e2 (eQ @e3 @e4 @e5 @s1 @s2 @s3 @s4 @s5 (eQ @b1 @b2 @b3 @b4 @b5 @b6 @d1 @d2 (eQ @g1 @g2 @g3 @g4 @g5 @g6 @d3 @d4 (zA @d5 @d6))));exact oZ)
 intro i hi;have hfl:=jH (MX a b g) i;obtain⟨l,el,hl⟩:∃x,x=((l0++fC (jN a b g) i).map pR)/\x.length<=10000+i:=⟨_,rfl,by simp;omega⟩;have es:((l0++fC (jN a b g) (i+1)).map pR)=l++(jN a b g i).map pR:=by rw[kL,<-bL,aH,<-el]
 rw[<-el];refine rR ?_;apply zN;refine wl ?_;refine wM ⟨λ ht ht=>zN ?_⟩ ⟨λ ht ht=>zN ?_⟩ ⟨λ ht=>zN ?_⟩
 .refine cl [.gen (.tup []) (k+5) (cA k 5 l [(D,⟨6,false,[[c1,c2,c3,c4,c5,bV k l]]⟩),(E,⟨1,true,[[g]]⟩)]) [(k+4,⟨5,true,l++[[.lit (.int .i64 (g:Int)),.lit (.int .i64 (i:Int)),.lit (.int .u64 (b.sp g i).v),.lit (.int .u32 (b.sp g i).r),.lit (.int .u64 (b.sp g i).floor)]]⟩),(D,⟨6,false,[[c1,c2,c3,c4,c5,.sl (k+4) 0 (l.length+1)]]⟩),(E,⟨1,true,[[g]]⟩)]] ?_;refine dD (zs ?_) (zs ?_);.exact a9P (k+2) D E k oO oO oO oO hDE oO l oO c1 c2 c3 c4 c5 (g:Int) (i:Int) (b.sp g i).v (b.sp g i).r (b.sp g i).floor (e1 _) (e2 _) (e3 _) (e4 _) (e5 _)
  refine wl ?_;refine aU (zs ?_);refine⟨i+1,oO,oO,?_⟩;rw[es,show jN a b g i=[_]from by rw[jN,uG,if_pos (by first|(simp[wO];omega)|(simp[wO]at ht⊢;omega))],bG,aV];refine rR ?_;apply zN;exact lM (k+4) k (wV (eQ (@a1) (@a2) (@a3) (@a4) (@a5) (@a6) (@e1) (@e2) (eQ (@e3) (@e4) (@e5) (@s1) (@s2) (@s3) (@s4) (@s5) (eQ (@b1) (@b2) (@b3) (@b4) (@b5) (@b6) (@d1) (@d2) (eQ (@g1) (@g2) (@g3) (@g4) (@g5) (@g6) (@d3) (@d4) (zA (@d5) (@d6)))))))
 .refine⟨i+1,oO,oO,?_⟩;rw[es,show jN a b g i=[]from by rw[jN,uG,if_neg (by first|(simp[wO];omega)|(simp[wO]at ht⊢;omega))],aV,aR];refine rR ?_;apply zN;(have uU:=eQ @a1 @a2 @a3 @a4 @a5 @a6 @e1 @e2 (eQ @e3 @e4 @e5 @s1 @s2 @s3 @s4 @s5 (eQ @b1 @b2 @b3 @b4 @b5 @b6 @d1 @d2 (eQ @g1 @g2 @g3 @g4 @g5 @g6 @d3 @d4 (zA @d5 @d6))));exact oZ)
 have hin:i=n:=oO;subst hin;refine⟨k+1,[],cA k 5 l [(D,⟨6,false,[[c1,c2,c3,c4,c5,bV k l]]⟩),(E,⟨1,true,[[g]]⟩)],?_,_,rfl,rfl,rfl,by rw[el]⟩;(have uU:=eQ @a1 @a2 @a3 @a4 @a5 @a6 @e1 @e2 (eQ @e3 @e4 @e5 @s1 @s2 @s3 @s4 @s5 (eQ @b1 @b2 @b3 @b4 @b5 @b6 @d1 @d2 (eQ @g1 @g2 @g3 @g4 @g5 @g6 @d3 @d4 (zA @d5 @d6))));exact oZ)
end Go.Proofs.T
end
section
namespace Go.Proofs
open Go.Shelf
def Tryz.sortI_ren:Go.Shelf.Ren:=⟨λ |53=>58|64=>119|63=>118|78=>206|79=>207|70=>197|71=>198|72=>199|73=>200|74=>201|75=>202|59=>203|76=>204|77=>205|88=>248|89=>249|90=>250|91=>251|92=>252|68=>212|96=>284|n=>n,λ |22=>26|23=>3|3=>3|51=>189|0=>0|67=>50|69=>22|4=>4|61=>261|60=>260|44=>204|5=>5|9=>9|75=>300|79=>303|83=>326|84=>285|n=>n,λ |n=>n⟩
theorem Tryz.sortI:Go.Proofs.SlLaysN.n53 aA Tryz.sortI_ren:={
 mixed:=by kernel_rfl
 f53:=⟨Tryz.f58.name,by decide,Tryz.func58.trans (congrArg some (by kernel_rfl))⟩
 f59:=⟨Tryz.f203.name,by decide,Tryz.func203.trans (congrArg some (by kernel_rfl))⟩
 f63:=⟨Tryz.f118.name,by decide,Tryz.func118.trans (congrArg some (by kernel_rfl))⟩
 f64:=Tryz.func119.trans (congrArg some (by kernel_rfl))
 f68:=⟨Tryz.f212.name,by decide,Tryz.func212.trans (congrArg some (by kernel_rfl))⟩
 f70:=⟨Tryz.f197.name,by decide,Tryz.func197.trans (congrArg some (by kernel_rfl))⟩
 f71:=⟨Tryz.f198.name,by decide,Tryz.func198.trans (congrArg some (by kernel_rfl))⟩
 f72:=⟨Tryz.f199.name,by decide,Tryz.func199.trans (congrArg some (by kernel_rfl))⟩
 f73:=⟨Tryz.f200.name,by decide,Tryz.func200.trans (congrArg some (by kernel_rfl))⟩
 f74:=⟨Tryz.f201.name,by decide,Tryz.func201.trans (congrArg some (by kernel_rfl))⟩
 f75:=⟨Tryz.f202.name,by decide,Tryz.func202.trans (congrArg some (by kernel_rfl))⟩
 f76:=⟨Tryz.f204.name,by decide,Tryz.func204.trans (congrArg some (by kernel_rfl))⟩
 f77:=⟨Tryz.f205.name,by decide,Tryz.func205.trans (congrArg some (by kernel_rfl))⟩
 f78:=Tryz.func206.trans (congrArg some (by kernel_rfl))
 f79:=Tryz.func207.trans (congrArg some (by kernel_rfl))
 f88:=⟨Tryz.f248.name,by decide,Tryz.func248.trans (congrArg some (by kernel_rfl))⟩
 f89:=Tryz.func249.trans (congrArg some (by kernel_rfl))
 f90:=Tryz.func250.trans (congrArg some (by kernel_rfl))
 f91:=⟨Tryz.f251.name,by decide,Tryz.func251.trans (congrArg some (by kernel_rfl))⟩
 f92:=⟨Tryz.f252.name,by decide,Tryz.func252.trans (congrArg some (by kernel_rfl))⟩
 f96:=⟨Tryz.f284.name,by decide,Tryz.func284.trans (congrArg some (by kernel_rfl))⟩
 t0:=HP
 a0:=Tryz.isAgg0
 z0:=bFT
 v0:=PA
 t3:=dB
 a3:=PF
 z3:=DR
 v3:=qT
 t4:=lW
 a4:=aME
 z4:=PD
 v4:=vI
 t5:=oR
 a5:=aMD
 z5:=PC
 v5:=vH
 t9:=kC
 a9:=aMC
 z9:=PB
 v9:=vG
 t22:=bAI
 a22:=Tryz.isAgg26
 z22:=Tryz.sizeOf26
 v22:=Tryz.zeroValue26
 t23:=dB
 a23:=PF
 z23:=DR
 v23:=qT
 t44:=Tryz.underlying204
 a44:=Tryz.isAgg204
 z44:=Tryz.sizeOf204
 v44:=Tryz.zeroValue204
 t51:=oB
 a51:=FN
 z51:=zH
 v51:=pU
 t60:=Tryz.underlying260
 a60:=Tryz.isAgg260
 z60:=Tryz.sizeOf260
 v60:=Tryz.zeroValue260
 t61:=Tryz.underlying261
 a61:=Tryz.isAgg261
 z61:=Tryz.sizeOf261
 v61:=Tryz.zeroValue261
 t67:=jB
 a67:=PE
 z67:=FM
 v67:=rZ
 t69:=iL
 a69:=Tryz.isAgg22
 z69:=Tryz.sizeOf22
 v69:=aHN
 t75:=Tryz.underlying300
 a75:=Tryz.isAgg300
 z75:=Tryz.sizeOf300
 v75:=Tryz.zeroValue300
 t79:=Tryz.underlying303
 a79:=Tryz.isAgg303
 z79:=Tryz.sizeOf303
 v79:=Tryz.zeroValue303
 t83:=Tryz.underlying326
 a83:=Tryz.isAgg326
 z83:=Tryz.sizeOf326
 v83:=Tryz.zeroValue326
 t84:=Tryz.underlying285
 a84:=Tryz.isAgg285
 z84:=Tryz.sizeOf285
 v84:=Tryz.zeroValue285}
end Go.Proofs
end
section
namespace Go.Proofs.T
open Go Go.AM Go.Proofs Go.Shelf Go.RowKit Go.Lib Go.Sort
variable{Γ:List (Nat×List AVal)}
theorem SX{α:Type} [Inhabited α]{qS:α->Value}{w:World}{b:Nat}{C:Array Value}{ty:TypeId}(n:Nat)(F:Array α)(hC:w.heap[b]? =some (Obj.cells C ty (0,0))):
 (putRow qS (Sort.ahead w n) b 0 F).heap[b]? =some (.cells (putCells qS 0 F C) ty (0,0))/\(∀j,j≠b->(putRow qS (Sort.ahead w n) b 0 F).heap[j]? =w.heap[j]?)/\(putRow qS (Sort.ahead w n) b 0 F).heap.size=w.heap.size:=by
 refine⟨?_,λ j hj=>?_,?_⟩;.simp only[putRow,mapBlock,Sort.ahead,PL,if_true];rw[hC];rfl
 .simp only[putRow,mapBlock,Sort.ahead,PL];rw[if_neg (λ h=>hj h.symm)]
 simp[putRow,mapBlock,Sort.ahead]
theorem OK{α:Type} [Inhabited α]{qS:α->Value}(F:Array α)(C:Array Value)(j:Nat)(hj:j<F.size)(hC:j<C.size):(putCells qS 0 F C)[j]? =some (qS F[j]!):=by simp only[putCells,Array.getElem?_mapIdx,aP hC,cB,aJ,dV,hj,and_self,if_true,bFW]
theorem aPQ(l R:List Int)(hp:R.Perm l)(hs:R.Pairwise (λ x y=>x<=y)):(l.mergeSort λ x y=>decide (x<=y))=R:=by refine fV.eq_of_pairwise (le:=λ x y:Int=>x<=y) (λ a b _ _ h1 h2=>oO) ?_ hs ((List.mergeSort_perm l _).trans hp.symm);have:=List.pairwise_mergeSort (le:=λ x y:Int=>decide (x<=y)) (λ a b c h1 h2=>by simp only[dTt]at*;omega) (λ a b=>by simp only[bH,dTt];omega) l;simpa only[dTt]using this
theorem aWH(k F:Nat)(l R:List Int)(hp:R.Perm l)(hs:R.Pairwise (λ x y=>x<=y))(hl:l.length<=100000):
 Tr aA Γ 58 k [bV F (l.map nR)] (cA F 1 (l.map nR) []) (λ k1 r1 H1=>k1=k/\r1= .tup []/\H1=cA F 1 (R.map nR) []):=by
 intro A hA w G ρ cargs hr hvs;obtain⟨hlen,hv⟩:=hvs;have h0:=hv 0 _ rfl
 have hc2:cargs= #[cargs.getD 0 undef]:=by
  have hsz:cargs.size=1:=hlen.symm;apply aFB;.simp[hsz]
  intro i hi1 hi2
  match i with
  |0=>simp[Array.getD,hsz]
  |i+1=>omega
 cases l with
 |nil=>
  have hR:R=[]:=hp.eq_nil;subst hR;have e0:cargs.getD 0 undef= .slice none 0 0:=by generalize cargs.getD 0 undef=x at h0;cases h0;rfl
  rw[hc2,e0];have hnone:Calls aA 58 #[.slice none 0 0] w λ e w'=>e= .returned (.tuple #[])/\w'=w:=AnyG.slices_Sort_int_none Tryz.sortI none 0 w;refine hnone.mono ?_;rintro e w' ⟨rfl,rfl⟩;refine⟨.tuple #[],G,ρ,k,.tup [],[],rfl,⟨rfl,rfl,rfl⟩,aF _,?_,.tup rfl (λ j v hj=>by simp at hj),jT _ _ _ _⟩;exact⟨λ id _=>hr.dom id rfl,λ id B A' hid=>by simp[bK,AM.look]at hid,hr.inj,hr.ro,hr.glob⟩
 |cons x t=>
  obtain⟨l,el⟩:∃l,l=x::t:=⟨_,rfl⟩;have hne:l.length≠0:=by rw[el];simp
  have eV:bV F ((x::t).map nR)= .sl F 0 l.length:=by rw[el];simp[bV]
  have eH:∀q:List Int,q.length≠0->cA F 1 (q.map nR) []=[(F,⟨1,true,q.map nR⟩)]:=λ q hq=>by
   cases q with
   |nil=>simp at hq
   |cons a b=>rfl
  rw[eV]at h0;rw[<-el,eH l hne]at hr;rw[<-el]at hp hl;clear eV;have hRne:R.length≠0:=by rw[hp.length_eq];exact hne
  rw[eH R hRne];have hid:bK [(F,⟨1,true,l.map nR⟩)] A F=some (⟨1,true,l.map nR⟩,A):=by simp[bK,AM.look]
  obtain⟨hAF,b,hρ,hgb,hBRF⟩:=hr.blk F _ _ hid;simp only at hρ
  obtain⟨cap,e0,sh,hsh⟩:∃cap,cargs.getD 0 undef= .slice (some ⟨b,0,none⟩) l.length cap/\∃sh,w.shape? b=some sh:=by
   generalize cargs.getD 0 undef=x at h0;generalize hll:l.length=ll at h0⊢
   cases h0 with
   |dangs _ hn=>rw[hρ]at hn;cases hn
   |sl0=>exact absurd hll hne
   |sl _ hs hsh _ hnc _ ho=>
    rw[hρ]at hs;cases hs;rcases ho with ho|ho;.omega
    rw[ho,tM];exact⟨_,rfl,_,hsh⟩
  obtain⟨⟨C,ty,hC,hrow⟩,hrl⟩:=hBRF.old hsh;simp only[if_true]at hrow;have hblt:b<w.heap.size:=hr.owned_lt ⟨F,1,hρ⟩;have hget:∀(q:List Int) j,j<q.length->(q.map nR)[j]? =some [.lit (.int .i64 q[j]!)]:=λ q j hj=>by rw[aQ,aE hj,getElem!_pos q j hj];rfl
  have hH:Holds (bC .i64) w b 0 l.toArray:=by
   intro j hj;have hj':j<l.length:=by simpa using hj
   obtain⟨cv,h3,h4⟩:=hrow j _ 0 _ (hget l j hj') rfl;cases h4;refine⟨?_,?_⟩;.unfold World.cell?;simp only[hC];rw[bAM,jX]at h3;simp[h3,hj']
   unfold World.frozen?;simp[hC]
  have hcon:=AnyG.slices_Sort_int Tryz.sortI b 0 cap l w hH hblt oO;change Calls aA 58 _ _ _ at hcon;rw[aPQ l R hp hs]at hcon;rw[hc2,e0];refine hcon.mono ?_;rintro e w' ⟨rfl,n,os,rfl⟩;obtain⟨p1,p2,p3⟩:=SX (qS:=bC .i64) n R.toArray hC
  have hrows:∀r row c v,(R.map nR)[r]? =some row->row[c]? =some v->∃cv,(putCells (bC .i64) 0 R.toArray C)[r*1+c]? =some cv/\V w G bR cF v cv:=by
   intro r row c v hrw hcv
   have hrlt:r<R.length:=by
    by_cases h:r<R.length;.exact h
    rw[cI (by simp;omega)]at hrw;cases hrw
   rw[hget R r hrlt]at hrw;cases hrw
   match c with
   | 0=>
     simp only[iX,mB.injEq]at hcv
     subst hcv
     have hll:r<l.length:=by rw[<-hp.length_eq];exact hrlt
     have hCs:r<C.size:=by
      obtain⟨cv,hcv1,_⟩:=hrow r _ 0 _ (hget l r hll) rfl;by_cases h:r<C.size;.exact h
      rw[gH oO]at hcv1;cases hcv1
     refine⟨.int .i64 R[r]!,?_,.lit⟩
     rw[bAM,jX,OK _ _ _ (by simpa using hrlt) hCs]
     simp
   |c+1=>simp at hcv
  have hHF:∀i,bK [(F,(⟨1,true,R.map nR⟩:Blk))] A i=if i=F then some ((⟨1,true,R.map nR⟩:Blk),A)else bK [(F,(⟨1,true,l.map nR⟩:Blk))] A i:=λ i=>by
   by_cases h:i=F;.subst h;simp[bK,AM.look]
   have h':¬F=i:=λ e=>h e.symm;rw[if_neg h];simp[bK,AM.look,h']
  obtain⟨q1,q2⟩:=HRel.rows (S:=kN k) (H':=bK [(F,⟨1,true,R.map nR⟩)] A) (B':=⟨1,true,R.map nR⟩) hr hid hρ rfl hHF hC p1 (by simp[putCells]) p2 p3 rfl rfl rfl
   (λ i B A' hi j hj=>by
     have:A'=A:=by simp only[bK,AM.look]at hi;split at hi<;>simp at hi;exact hi.2.symm
     subst this;exact hA j hj)
   (λ r row hrw=>by
     rw[aQ]at hrw
     cases hR:R[r]? with
     |none=>rw[hR]at hrw;cases hrw
     |some f=>rw[hR]at hrw;cases hrw;rfl)
   hrows rfl
  refine⟨.tuple #[],G,ρ,k,.tup [],[(F,⟨1,true,R.map nR⟩)],rfl,⟨rfl,rfl,rfl⟩,aF _,?_,.tup rfl (λ j v hj=>by simp at hj),?_⟩
  .refine(q1.grow os).allow _ ?_ ?_;.intro i hi;simp only[bK,dG]at hi⊢;exact hi
   intro i B A' hi;simp only[bK]at hi⊢
   cases hlk:AM.look [(F,(⟨1,true,R.map nR⟩:Blk))] i with
   |none=>rw[hlk]at hi;cases hi
   |some B1=>rw[hlk]at hi;cases hi;exact⟨A,rfl,λ i hi=> .inl hi⟩
  exact q2.trans (GC (kN k) os) (λ _ h=>h)
end Go.Proofs.T
end
section
namespace Go.AM
open Go
structure Xt where
 op:Oper->(Operand->Option AVal)->(Nat->Option Blk)->Nat->Option Out
 nx:Oper->(Operand->Option AVal)->(Nat->Option Blk)->Nat->Option Out
 tab:FuncId->Nat->List AVal->aS->Option (Nat×AVal×aS)
structure XtOk (P:Program) (Γ:List (Nat×List AVal)) (x:Xt):Prop where
 op:∀o ev get k out,x.op o ev get k=some out->Good P Γ o ev get k out
 nx:∀o ev get k out,x.nx o ev get k=some out->∃rds,GoodN P Γ o ev get k rds (λ out'=>out'=out)
 tab:∀f k args H k' v H',x.tab f k args H=some (k',v,H')->Tr P Γ f k args H (λ k1 r1 H1=>k1=k'/\r1=v/\H1=H')
def DD(x:Xt)(e:Ev)(P:Program)(Γ:List (Nat×List AVal))(all:Array Oper):List Oper->Nat->Fr->aS->Option (List Foot×Nat×Fr×aS)
 |[],k,fr,H=>some ([],k,fr,H)
 | o::r,k,fr,H=>match mJ all fr o with
   |none=>none
   | some false=>match DD x e P Γ all r k (gK fr o.dst (.lit undef)) H with
     |none=>none
     |some (tr,y)=>some (⟨[],[],k,k⟩::tr,y)
   | some true=>match(match uE o with|true=>UB e P o (kB Γ fr) H k|false=>match x.op o (kB Γ fr) (look H) k with|some out=>some out|none=>BV P Γ o (kB Γ fr) (look H) k)with
     |none=>none
     | some out=>match DD x e P Γ all r out.k (gK fr o.dst out.v) (lD H out.upd)with
       |none=>none
       |some (tr,y)=>some (⟨out.rds,out.upd.map (·.1),k,out.k⟩::tr,y)
def a3N(x:Xt)(Γ:List (Nat×List AVal))(ops:Array Oper)(d:Bool)(k:Nat)(fr:Fr)(H:aS):Option (Oper×List Oper×Out):=
 match d,ops.toList with
 | false,o::r=>match o.guard,x.nx o (kB Γ fr) (look H) k with
   |none,some out=>some (o,r,out)
   |_,_=>none
 |_,_=>none
def dU(x:Xt)(e:Ev)(P:Program)(Γ:List (Nat×List AVal))(nt:Nat):Code->Nat->Fr->aS->Option (Exit×Nat×Fr×aS)
 | .skip,k,fr,H=>some (.normal,k,fr,H)
 | .ret,k,fr,H=>some (.ret,k,fr,H)
 | .exit id,k,fr,H=>some (.exit id,k,fr,H)
 | .seq a b,k,fr,H=>match dU x e P Γ nt a k fr H with
   |some (.normal,k1,fr1,H1)=>dU x e P Γ nt b k1 fr1 H1
   |r=>r
 | .cond c a b,k,fr,H=>match kB Γ fr c with
   |some (.lit (.bool true))=>dU x e P Γ nt a k fr H
   |some (.lit (.bool false))=>dU x e P Γ nt b k fr H
   |_=>none
 | .block id c,k,fr,H=>match dU x e P Γ nt c k fr H with
   | some (.exit id',k1,fr1,H1)=>match sD id' id with
     |true=>some (.normal,k1,fr1,H1)
     |false=>some (.exit id',k1,fr1,H1)
   |r=>r
 | .loop c,k,fr,H=>match dU x e P Γ nt c k fr H with
   |some (.normal,k1,fr1,H1)=>e.loop nt c k1 fr1 H1
   |r=>r
 | .region _ ops d,k,fr,H=>match mM nt ops with
   |false=>none
   | true=>match a3N x Γ ops d k fr H with
     | some (o,r,out)=>match DD x e P Γ ops r k (gK fr o.dst out.v) (lD H out.upd)with
       |none=>none
       |some (_,k1,fr1,H1)=>some (.normal,k1,fr1,H1)
     | none=>match DD x e P Γ ops ops.toList k fr H with
       |none=>none
       | some (tr,k1,fr1,H1)=>match(!d)||(P.follows .mixedOrders&&kS ops tr)with
         |true=>some (.normal,k1,fr1,H1)
         |false=>none
 |_,_,_,_=>none
def UA(x:Xt)(e:Ev)(P:Program)(Γ:List (Nat×List AVal))(f:FuncId)(k:Nat)(args:List AVal)(H:aS):Option (Nat×AVal×aS):=
 match x.tab f k args H with
 |some r=>some r
 | none=>match P.funcs[f]? with
   |none=>none
   | some fn=>match fn.body with
     |none=>none
     | some c=>match Nat.ble args.length fn.ntmps with
       |false=>none
       | true=>match dU x e P Γ fn.ntmps c k (uX 0 args) H with
         | some (.normal,k1,fr1,H1)=>match IU P fn fr1 H1 with
           |some r=>some (k1,r,vA (pN H1 100000 (nm2 r++XQ k H1) []) H1)
           |none=>none
         | some (.ret,k1,fr1,H1)=>match IU P fn fr1 H1 with
           |some r=>some (k1,r,vA (pN H1 100000 (nm2 r++XQ k H1) []) H1)
           |none=>none
         |_=>none
def TZ(x:Xt)(e:Ev)(P:Program)(Γ:List (Nat×List AVal))(nt:Nat)(c:Code)(k:Nat)(fr:Fr)(H:aS):Option (Exit×Nat×Fr×aS):=
 match dU x e P Γ nt c k fr H with
 |some (.normal,k1,fr1,H1)=>e.loop nt c k1 fr1 H1
 |r=>r
def RI(x:Xt)(P:Program)(Γ:List (Nat×List AVal)):Nat->Ev
 |0=>⟨λ _ _ _ _=>none,λ _ _ _ _ _=>none⟩
 |n+1=>⟨λ f k args H=>UA x (RI x P Γ n) P Γ f k args H,λ nt c k fr H=>TZ x (RI x P Γ n) P Γ nt c k fr H⟩
section
variable{P:Program}{Γ:List (Nat×List AVal)}{nt kb:Nat}{k:Nat}{fr:Fr}{H:aS}{e:Ev}{x:Xt}
theorem DC(hx:XtOk P Γ x)(he:EvOk P Γ e){all:Array Oper}:∀(l:List Oper) (k:Nat) (fr:Fr) (H:aS) (tr:List Foot) (k':Nat) (fr':Fr) (H':aS) (K:List Foot->Nat->Fr->aS->Prop),DD x e P Γ all l k fr H=some (tr,k',fr',H')->K tr k' fr' H'->Run P Γ all l k fr H K:=by
 intro l
 induction l with
 |nil=>intro k fr H tr k' fr' H' K h hK;simp only[DD]at h;cases h;exact hK
 |cons o r ih=>
  intro k fr H tr k' fr' H' K h hK;simp only[DD]at h;split at h;.cases h
  .rename_i hg;split at h;.cases h
   rename_i tr1 y hy;obtain⟨k1,fr1,H1⟩:=y;cases h;exact .inl ⟨hg,ih _ _ _ _ _ _ _ _ hy hK⟩
  rename_i hg;split at h;.cases h
  rename_i out ho;split at h;.cases h
  rename_i tr1 y hy;obtain⟨k1,fr1,H1⟩:=y;cases h;refine .inr ⟨hg,out,?_,ih _ _ _ _ _ _ _ _ hy hK⟩;split at ho;.exact II he ho
  split at ho;.rename_i ho';cases ho;exact hx.op _ _ _ _ _ ho'
  exact uY ho
theorem aJV{ops:Array Oper}{d:Bool}{o:Oper}{r:List Oper}{out:Out}(h:a3N x Γ ops d k fr H=some (o,r,out)):d=false/\ops.toList=o::r/\o.guard=none/\x.nx o (kB Γ fr) (look H) k=some out:=by
 unfold a3N at h;split at h
 .rename_i o' r' hl;split at h;.rename_i h1 h2;cases h;exact⟨rfl,hl,h1,h2⟩
  cases h
 cases h
theorem yL(hX:XtOk P Γ x)(he:EvOk P Γ e):∀(c:Code) (k:Nat) (fr:Fr) (H:aS) (ex:Exit) (k':Nat) (fr':Fr) (H':aS),dU x e P Γ nt c k fr H=some (ex,k',fr',H')->W P Γ nt kb c (isQ ex k' fr' H') k fr H:=by
 intro c
 induction c with
 |skip=>intro k fr H ex k' fr' H' h;simp only[dU]at h;cases h;exact aEQ ⟨rfl,rfl,rfl,rfl⟩
 |ret=>intro k fr H ex k' fr' H' h;simp only[dU]at h;cases h;exact aUP ⟨rfl,rfl,rfl,rfl⟩
 |exit id=>intro k fr H ex k' fr' H' h;simp only[dU]at h;cases h;exact aER ⟨rfl,rfl,rfl,rfl⟩
 |seq a b iha ihb=>
  intro k fr H ex k' fr' H' h;simp only[dU]at h
  cases hx:dU x e P Γ nt a k fr H with
  |none=>rw[hx]at h;cases h
  |some r=>
   obtain⟨e1,k1,fr1,H1⟩:=r;rw[hx]at h;refine aUO (kT (iha _ _ _ _ _ _ _ hx) ?_);rintro e2 k2 fr2 H2 ⟨rfl,rfl,rfl,rfl⟩
   cases e2 with
   |normal=>exact ihb _ _ _ _ _ _ _ h
   |_=>cases h;exact⟨rfl,rfl,rfl,rfl⟩
 |cond c a b iha ihb=>
  intro k fr H ex k' fr' H' h;simp only[dU]at h;split at h;.rename_i hc;exact NZ true hc (λ _=>iha _ _ _ _ _ _ _ h) (λ hh=>by cases hh)
  .rename_i hc;exact NZ false hc (λ hh=>by cases hh) (λ _=>ihb _ _ _ _ _ _ _ h)
  cases h
 |block id c ih=>
  intro k fr H ex k' fr' H' h;simp only[dU]at h
  cases hx:dU x e P Γ nt c k fr H with
  |none=>rw[hx]at h;cases h
  |some r=>
   obtain⟨e1,k1,fr1,H1⟩:=r;rw[hx]at h;refine VH (kT (ih _ _ _ _ _ _ _ hx) ?_);rintro e2 k2 fr2 H2 ⟨rfl,rfl,rfl,rfl⟩
   cases e2 with
   |exit id'=>
    simp only[yT];by_cases hid:id'=id;.subst hid;simp only[Nat.beq_refl]at h;cases h;rw[if_pos rfl];exact⟨rfl,rfl,rfl,rfl⟩
    have hb:sD id' id=false:=by rw[dS];exact λ hb=>hid (bZ hb)
    simp only[hb]at h;cases h;rw[if_neg hid];exact⟨rfl,rfl,rfl,rfl⟩
   |_=>cases h;exact⟨rfl,rfl,rfl,rfl⟩
 |loop c ih=>
  intro k fr H ex k' fr' H' h;simp only[dU]at h
  cases hx:dU x e P Γ nt c k fr H with
  |none=>rw[hx]at h;cases h
  |some r=>
   obtain⟨e1,k1,fr1,H1⟩:=r;rw[hx]at h
   cases e1 with
   |normal=>obtain⟨n,hn⟩:=he.loop _ _ _ _ _ _ _ _ _ h kb;refine FK (n+1) (kT (ih _ _ _ _ _ _ _ hx) ?_);rintro e2 k2 fr2 H2 ⟨rfl,rfl,rfl,rfl⟩;exact hn
   |_=>cases h;refine FK 1 (kT (ih _ _ _ _ _ _ _ hx) ?_);rintro e2 k2 fr2 H2 ⟨rfl,rfl,rfl,rfl⟩;exact⟨rfl,rfl,rfl,rfl⟩
 |region id ops d=>
  intro k fr H ex k' fr' H' h;simp only[dU]at h;split at h;.cases h
  rename_i hd;split at h
  .rename_i o r out hnx;obtain⟨rfl,h1,h2,h3⟩:=aJV hnx;obtain⟨rds,h4⟩:=hX.nx _ _ _ _ _ h3;split at h;.cases h
   rename_i tr k1 fr1 H1 hx;cases h;refine SC h1 hd h2 h4 λ out' ho'=>?_;subst ho';exact DC hX he _ _ _ _ _ _ _ _ _ hx (λ _=>⟨rfl,rfl,rfl,rfl⟩)
  split at h;.cases h
  rename_i tr k1 fr1 H1 hx;split at h
  .rename_i hdr;cases h
   cases d with
   |false=>exact NY hd (DC hX he _ _ _ _ _ _ _ _ _ hx (λ _=>⟨rfl,rfl,rfl,rfl⟩))
   |true=>simp only[a0V,FW,aC]at hdr;exact aES hdr.1 hd (DC hX he _ _ _ _ _ _ _ _ _ hx ⟨hdr.2,λ _=>⟨rfl,rfl,rfl,rfl⟩⟩)
  cases h
 |_=>intro k fr H ex k' fr' H' h;simp[dU]at h
theorem aCY(hX:XtOk P Γ x)(he:EvOk P Γ e){c:Code}{ex:Exit}{k':Nat}{fr':Fr}{H':aS}(h:TZ x e P Γ nt c k fr H=some (ex,k',fr',H')):∃n,rJ P Γ nt kb c (isQ ex k' fr' H') n k fr H:=by
 unfold TZ at h
 cases hx:dU x e P Γ nt c k fr H with
 |none=>rw[hx]at h;cases h
 |some r=>
  obtain⟨e1,k1,fr1,H1⟩:=r;rw[hx]at h
  cases e1 with
  |normal=>obtain⟨n,hn⟩:=he.loop _ _ _ _ _ _ _ _ _ h kb;refine⟨n+1,kT (yL hX he c _ _ _ _ _ _ _ hx) ?_⟩;rintro e2 k2 fr2 H2 ⟨rfl,rfl,rfl,rfl⟩;exact hn
  |_=>cases h;refine⟨1,kT (yL hX he c _ _ _ _ _ _ _ hx) ?_⟩;rintro e2 k2 fr2 H2 ⟨rfl,rfl,rfl,rfl⟩;exact⟨rfl,rfl,rfl,rfl⟩
theorem aDA(hX:XtOk P Γ x)(he:EvOk P Γ e){f:FuncId}{args:List AVal}{k':Nat}{v:AVal}{H':aS}(h:UA x e P Γ f k args H=some (k',v,H')):Tr P Γ f k args H (λ k1 r1 H1=>k1=k'/\r1=v/\H1=H'):=by
 unfold UA at h;split at h;.rename_i r hr;cases h;exact hX.tab _ _ _ _ _ _ _ hr
 split at h;.cases h
 rename_i fn hfn;split at h;.cases h
 rename_i c hc;split at h;.cases h
 rename_i hn
 have main:∀ex k1 fr1 H1 r,(ex= .normal\/ex= .ret)->dU x e P Γ fn.ntmps c k (uX 0 args) H=some (ex,k1,fr1,H1)->IU P fn fr1 H1=some r→
  some (k1,r,vA (pN H1 100000 (nm2 r++XQ k H1) []) H1)=some (k',v,H')->Tr P Γ f k args H (λ k1 r1 H1=>k1=k'/\r1=v/\H1=H'):=by
  intro ex k1 fr1 H1 r hex hev hr hq
  cases hq
  refine(JZ (Q:=λ k2 r2 H2=>k2=k'/\r2=v/\H2=H1) hfn hc (qU hn) (kT (yL hX he c _ _ _ _ _ _ _ hev) ?_)).weaken ?_
  · rintro e2 k2 fr2 H2 ⟨rfl,rfl,rfl,rfl⟩
    rcases hex with rfl|rfl
    · exact⟨_,hr,rfl,rfl,rfl⟩
    · exact⟨_,hr,rfl,rfl,rfl⟩
  · rintro k2 r2 H2 hk ⟨rfl,rfl,rfl⟩
    exact⟨_,_,_,hk,aK _,λ id B hB=>⟨B,xB _ _ _ _ hB,pE B⟩,.inl rfl,rfl,rfl,rfl⟩
 split at h
 .rename_i k1 fr1 H1 hev;split at h;.rename_i r hr;exact main _ _ _ _ _ (.inl rfl) hev hr h
  cases h
 .rename_i k1 fr1 H1 hev;split at h;.rename_i r hr;exact main _ _ _ _ _ (.inr rfl) hev hr h
  cases h
 cases h
theorem aCX(hX:XtOk P Γ x):∀n,EvOk P Γ (RI x P Γ n)
 |0=>⟨λ _ _ _ _ _ _ _ h=>(by simp[RI]at h),λ _ _ _ _ _ _ _ _ _ h=>(by simp[RI]at h)⟩
 |n+1=>⟨λ _ _ _ _ _ _ _ h=>aDA hX (aCX hX n) h,λ _ _ _ _ _ _ _ _ _ h _=>aCY hX (aCX hX n) h⟩
end
def a4Z(q:IntKind):List AVal->Option (Int×Value×Nat)
 |[.lit (.int q' n),.lit v,.lit (.int .i64 s)]=>if q'=q/\0<=s then some (n,v,s.toNat)else none
 |_=>none
theorem aZF{q:IntKind}{r:List AVal}{e:Int×Value×Nat}(h:a4Z q r=some e):r=aKZ q e:=by
 unfold a4Z at h;split at h
 .split at h;.rename_i hc;cases h;obtain⟨rfl,h2⟩:=hc;simp[aKZ,gC h2]
  cases h
 cases h
def aHD(q:IntKind):List (List AVal)->Option lL
 |[]=>some []
 | r::l=>match a4Z q r,aHD q l with
   |some e,some m=>some (e::m)
   |_,_=>none
theorem ZD{q:IntKind}:∀ {rs:List (List AVal)} {l:lL},aHD q rs=some l->rs=l.map (aKZ q)
 |[],l,h=>by cases h;rfl
 |r::rs,l,h=>by
  simp only[aHD]at h;split at h;.rename_i e m h1 h2;cases h;rw[bG,<-aZF h1,<-ZD h2]
  cases h
def aSS(q:IntKind)(B:Blk):Option (lL×Nat):=
 match B.rows with
 | [.lit (.int .i64 c),.lit (.int .i64 n),.lit (.int .i64 m)]::rs=>match aHD q rs with
   |some l=>if sD B.sz 3=true/\B.pure=true/\0<=c/\n=l.length/\m=1 then some (l,c.toNat)else none
   |none=>none
 |_=>none
theorem UN{q:IntKind}{B:Blk}{l:lL}{c:Nat}(h:aSS q B=some (l,c)):B=mO q l c:=by
 unfold aSS at h;split at h
 .rename_i c' n m rs hr;split at h
  .rename_i l' hl;split at h;.rename_i hc;cases h;obtain⟨h1,h2,h3,h4,h5⟩:=hc;cases B;simp only at hr h1 h2;rw[hr,h2,bZ h1,ZD hl];simp[mO,gC h3,h4,h5]
   cases h
  cases h
 cases h
def LU(P:Program)(t:TypeId):Option (TypeId×IntKind×Value):=
 match P.underlying t with
 | some (.map kt et)=>match P.underlying kt,(P.info? et).bind (·.zero)with
   |some (.int q),some z=>some (kt,q,z)
   |_,_=>none
 |_=>none
theorem EH{P:Program}{t kt:TypeId}{q:IntKind}{z:Value}(h:LU P t=some (kt,q,z)):∃et,MapT P t kt et q z:=by
 unfold LU at h;split at h
 .rename_i kt' et h1;split at h;.rename_i q' z' h2 h3;cases h;exact⟨et,h1,h2,h3⟩
  cases h
 cases h
def unl:Value->AVal
 | .agg cs=> .agg (cs.toList.map .lit)
 |v=> .lit v
theorem a1X{w:World}{G:Nat->Prop}{ρ:cM}{A:bU}(v:Value):V w G ρ A (unl v) v:=by
 unfold unl;split;.rename_i cs;refine .agg sS λ j u hj=>?_;rw[aQ,aB]at hj;obtain⟨y,hy,rfl⟩:=hj;rw[bA]at hy;rw[aD,hy];exact .lit
 exact .lit
theorem Good.outV {P:Program}{Γ:List (Nat×List AVal)}{o:Oper}{ev:Operand->Option AVal}{get:Nat->Option Blk}{k k':Nat}{v v':AVal}{u:List (Nat×Option Blk)}{r:List Nat}(h:Good P Γ o ev get k ⟨v,k',u,r⟩)
 (hv:∀w G ρ A cv,V w G ρ A v cv->V w G ρ A v' cv):Good P Γ o ev get k ⟨v',k',u,r⟩:=
 ⟨λ w G ρ H A a hr hA hf hrd hop next Q hn=>h.ok w G ρ H A a hr hA hf hrd hop next Q λ w' G' ρ' cv hrel hV hst=>hn w' G' ρ' cv hrel (hv _ _ _ _ _ hV) hst,h.rds,h.le⟩
def MA(q:IntKind)(n:Int)(l:lL):Bool:=wfK q n&&l.all (λ e=>wfK q e.1)
def ukB:List Int->Bool
 |[]=>true
 |a::l=>l.all (λ b=> !(b==a))&&ukB l
theorem aAL:∀ {l:List Int},ukB l=true->l.Nodup
 |[],_=>List.nodup_nil
 |a::l,h=>by simp only[ukB,aC,aW,aT,beq_eq_false_iff_ne]at h;exact List.nodup_cons.2 ⟨λ hm=>h.1 a hm rfl,aAL h.2⟩
def XX(ev:Operand->Option AVal)(q:IntKind)(x:Operand):Option Int:=
 match ev x with
 |some (.lit (.int q' n))=>if q'=q then some n else none
 |_=>none
theorem MB{ev:Operand->Option AVal}{q:IntKind}{x:Operand}{n:Int}(h:XX ev q x=some n):ev x=some (.lit (.int q n)):=by
 unfold XX at h;split at h
 .rename_i h1;split at h;.rename_i h2;cases h;rw[<-h2];exact h1
  cases h
 cases h
def QN(ev:Operand->Option AVal)(get:Nat->Option Blk)(q:IntKind)(m:Operand):Option (Nat×lL×Nat):=
 match ev m with
 | some (.mp id)=>match get id with
   | some B=>match aSS q B with
     |some (l,c)=>some (id,l,c)
     |none=>none
   |none=>none
 |_=>none
theorem EI{ev:Operand->Option AVal}{get:Nat->Option Blk}{q:IntKind}{m:Operand}{id:Nat}{l:lL}{c:Nat}(h:QN ev get q m=some (id,l,c)):ev m=some (.mp id)/\get id=some (mO q l c):=by
 unfold QN at h;split at h
 .rename_i i h1;split at h
  .rename_i B h2;split at h;.rename_i h3;cases h;exact⟨h1,by rw[h2,UN h3]⟩
   cases h
  cases h
 cases h
def aZE(B:Blk):Option (Nat×Nat×List Nat×Nat):=
 match B.rows with
 | [.lit (.int .i64 c),.lit (.int .i64 n),.lit (.int .i64 m)]::[.mp mid,.lit (.int .i64 s),.lit (.int .i64 z)]::rs=>
   match rs with
   |[]=>if sD B.sz 3=true/\B.pure=false/\0<=c/\n=0/\m=2/\0<=s/\z=0 then some (mid,s.toNat,[],c.toNat)else none
   |[[.lit (.int .i64 y),.lit (.int .i64 z1),.lit (.int .i64 z2)]]=>if sD B.sz 3=true/\B.pure=false/\0<=c/\n=1/\m=2/\0<=s/\z=0/\0<=y/\z1=0/\z2=0 then some (mid,s.toNat,[y.toNat],c.toNat)else none
   |_=>none
 |_=>none
theorem aHC{B:Blk}{mid s:Nat}{l:List Nat}{c:Nat}(h:aZE B=some (mid,s,l,c)):B=jP mid s l c:=by
 unfold aZE at h;split at h
 .rename_i c' n m mid' s' z rs hr;split at h
  .split at h;.rename_i hc;cases h;obtain⟨h1,h2,h3,h4,h5,h6,h7⟩:=hc;cases B;simp only at hr h1 h2;rw[hr,h2,bZ h1];simp[jP,gC h3,gC h6,h4,h5,h7]
   cases h
  .split at h;.rename_i hc;cases h;obtain⟨h1,h2,h3,h4,h5,h6,h7,h8,h9,h10⟩:=hc;cases B;simp only at hr h1 h2;rw[hr,h2,bZ h1];simp[jP,gC h3,gC h6,gC h8,h4,h5,h7,h9,h10]
   cases h
  cases h
 cases h
def aPU(P:Program)(o:Oper)(ev:Operand->Option AVal)(get:Nat->Option Blk)(k:Nat):Option Out:=
 match o.op with
 | .makeMap t none=>match LU P t with
   |some (_,q,_)=>some ⟨.mp k,k+1,[(k,some (mO q [] 0))],[]⟩
   |none=>none
 | .lookup t m x true=>match LU P t with
   | some (_,q,z)=>match XX ev q x,QN ev get q m with
     | some n,some (id,l,_)=>match MA q n l&&ukB (l.map (·.1))with
       |true=>some ⟨.tup [unl ((yZ l n).getD z),.lit (.bool (yZ l n).isSome)],k,[],[id]⟩
       |false=>none
     |_,_=>none
   |none=>none
 | .mapUpdate t m x y=>match LU P t with
   | some (_,q,_)=>match XX ev q x,QN ev get q m,(ev y).bind SB with
     | some n,some (id,l,c),some v=>match MA q n l&&l.all (λ e=> !(e.1==n))with
       |true=>some ⟨.junk,k,[(id,some (mO q (l++[(n,v,c)]) (c+1)))],[id]⟩
       |false=>none
     |_,_,_=>none
   |none=>none
 | .call {callee:= .builtin .delete,args:=args,argTypes:=ty}=>match args.toList,ty.toList with
   | [m,x],[t,kt]=>match LU P t with
     | some (kt',q,_)=>match XX ev q x,QN ev get q m with
       | some n,some (id,l,c)=>match sD kt kt'&&(MA q n l&&ukB (l.map (·.1)))with
         |true=>some ⟨.lit (.tuple #[]),k,[(id,some (mO q (MY l n) c))],[id]⟩
         |false=>none
       |_,_=>none
     |none=>none
   |_,_=>none
 | .range t m=>match LU P t with
   | some (_,q,_)=>match QN ev get q m with
     |some (id,_,c)=>some ⟨.it k,k+1,[(k,some (jP id c [] c))],[id]⟩
     |none=>none
   |none=>none
 | .entry x=>match ev x with
   | some (.it it)=>match(get it).bind aZE with
     | some (mid,_,[s],c0)=>match(get mid).bind (aSS .i64)with
       | some ([e],c)=>match sD c c0&&sD e.2.2 s with
         |true=>some ⟨.tup [.lit (.int .i64 e.1),.lit e.2.1],k,[],[it,mid]⟩
         |false=>none
       |_=>none
     |_=>none
   |_=>none
 |_=>none
theorem GU{q:IntKind}{n:Int}{l:lL}(h:MA q n l=true):wfK q n=true/\∀e∈l,wfK q e.1=true:=by simpa [MA,aW]using h
section
variable{P:Program}{Γ:List (Nat×List AVal)}{o:Oper}{ev:Operand->Option AVal}{get:Nat->Option Blk}{k:Nat}
theorem aBX{out:Out}(h:aPU P o ev get k=some out):Good P Γ o ev get k out:=by
 unfold aPU at h;split at h
 .rename_i t ho;split at h;.rename_i kt q z ht;cases h;exact LV q ho
  cases h
 .rename_i t m x ho;split at h
  .rename_i kt q z ht;obtain⟨et,hT⟩:=EH ht;split at h
   .rename_i n id l c h1 h2;split at h
    .rename_i hc;cases h;simp only[aC]at hc;obtain⟨h3,h4⟩:=EI h2;obtain⟨h5,h6⟩:=GU hc.1;refine(QQ ho hT h3 (MB h1) h4 h6 h5 (aAL hc.2)).outV λ w G ρ A cv hV=>?_
     cases hV with
     |tup hl hv=>
      refine .tup hl λ j v hj=>?_
      match j,hj with
      | 0,hj=>
        cases hj
        have:=hv 0 _ rfl
        generalize Array.getD _ 0 undef=cv at this⊢
        cases this
        exact a1X _
      |1,hj=>cases hj;exact hv 1 _ rfl
      |j+2,hj=>simp at hj
    cases h
   cases h
  cases h
 .rename_i t m x y ho;split at h
  .rename_i kt q z ht;obtain⟨et,hT⟩:=EH ht;split at h
   .rename_i n id l c v h1 h2 h3;split at h;.rename_i hc;cases h;simp only[aC,aW,aT,beq_eq_false_iff_ne]at hc;obtain⟨h4,h5⟩:=EI h2;obtain⟨h6,h7⟩:=GU hc.1;obtain⟨av,h8,h9⟩:=bX.1 h3;exact WS ho hT h4 (MB h1) h8 h9 h5 h7 h6 hc.2
    cases h
   cases h
  cases h
 .rename_i args ty ho;split at h
  .rename_i m x t kt ha hty;split at h
   .rename_i kt' q z ht;obtain⟨et,hT⟩:=EH ht;split at h
    .rename_i n id l c h1 h2;split at h;.rename_i hc;cases h;simp only[aC]at hc;obtain⟨h3,h4⟩:=EI h2;obtain⟨h5,h6⟩:=GU hc.2.1;obtain rfl:=bZ hc.1;obtain rfl:args= #[m,x]:=bAQ ha;obtain rfl:ty= #[t,kt]:=bAQ hty;exact ZA ho hT h3 (MB h1) h4 h6 h5 (aAL hc.2.2)
     cases h
    cases h
   cases h
  cases h
 .rename_i t m ho;split at h
  .rename_i kt q z ht;obtain⟨et,hT⟩:=EH ht;split at h;.rename_i id l c h2;cases h;obtain⟨h3,h4⟩:=EI h2;exact KY ho hT h3 h4
   cases h
  cases h
 .rename_i x ho;split at h
  .rename_i it hx;split at h
   .rename_i mid since s c0 h1;obtain⟨B,h2,h3⟩:=bX.1 h1;obtain rfl:=aHC h3;split at h
    .rename_i e c h4;obtain⟨B',h5,h6⟩:=bX.1 h4;obtain rfl:=UN h6;split at h;.rename_i hc;cases h;simp only[aC]at hc;obtain rfl:=bZ hc.1;obtain rfl:=bZ hc.2;exact MV (seen:=[]) ho hx h2 h5 sS sS
     cases h
    cases h
   cases h
  cases h
 cases h
def aPV(o:Oper)(ev:Operand->Option AVal)(get:Nat->Option Blk)(k:Nat):Option Out:=
 match o.op with
 | .next x false=>match ev x with
   | some (.it it)=>match(get it).bind aZE with
     | some (mid,since,seen,c0)=>match(get mid).bind (aSS .i64)with
       | some (l,clock)=>match l.all (λ e=>Nat.blt e.2.2 since)&&Nat.ble since c0 with
         | true=>match lE l seen with
           |[]=>some ⟨.tup [.lit (.bool false)],k,[],[it,mid]⟩
           |[e]=>some ⟨.tup [.lit (.bool true),.lit (.int .i64 e.1),.lit e.2.1],k,[(it,some (jP mid since (seen++[e.2.2]) clock))],[it,mid]⟩
           |_=>none
         |false=>none
       |none=>none
     |none=>none
   |_=>none
 |_=>none
theorem aBY{out:Out}(h:aPV o ev get k=some out):∃rds,GoodN P Γ o ev get k rds (λ out'=>out'=out):=by
 unfold aPV at h;split at h
 .rename_i x ho;split at h
  .rename_i it hx;split at h
   .rename_i mid since seen c0 h1;obtain⟨B,h2,h3⟩:=bX.1 h1;obtain rfl:=aHC h3;split at h
    .rename_i l clock h4;obtain⟨B',h5,h6⟩:=bX.1 h4;obtain rfl:=UN h6;split at h
     .rename_i hc;simp only[aC,aW,Nat.blt_eq]at hc;have key:=QI (P:=P) (Γ:=Γ) (k:=k) ho hx h2 h5 hc.1 (qU hc.2);refine⟨_,⟨λ w G ρ H A a hr hA hrd hop next Q hN=>key.ok w G ρ H A a hr hA hrd hop next Q λ out' ho'=>hN out' ?_,key.rds,λ out' ho'=>?_⟩⟩
      .split at h
       .rename_i ht;cases h;rcases ho' with⟨_,rfl⟩|⟨e,he,rfl⟩;.rfl
        rw[ht]at he;simp at he
       .rename_i e0 ht;cases h;rcases ho' with⟨h7,rfl⟩|⟨e,he,rfl⟩;.rw[ht]at h7;cases h7
        rw[ht]at he;obtain rfl:e=e0:=by simpa using he
        rfl
       cases h
      subst ho';split at h;.cases h;rfl
      .cases h;rfl
      cases h
     cases h
    cases h
   cases h
  cases h
 cases h
end
end Go.AM
end
