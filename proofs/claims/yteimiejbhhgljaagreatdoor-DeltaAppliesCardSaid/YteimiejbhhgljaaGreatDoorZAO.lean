import Derived.Test.YteimiejbhhgljaaGreatDoorZAN
set_option linter.unusedVariables false
set_option linter.unusedSimpArgs false
set_option maxHeartbeats 0
set_option maxRecDepth 100000
open Array renaming getD_eq_getD_getElem?->aD,getElem?_eq_getElem->aP,getElem?_eq_some_iff->cZ
open Bool renaming and_eq_false_iff->iA,and_eq_true->aC,and_true->qO,eq_false_iff->dS,false_and->kD,false_eq_true->aO,false_or->FW,not_eq_false'->dH,true_and->kQ,true_or->yV
open Int renaming le_refl->fA
open Go.IntKind renaming i64->aN
open List renaming all_cons->hY,all_eq_true->aW,append_eq_nil_iff->vW,append_nil->aR,eq_nil_of_length_eq_zero->fL,ext_getElem?->kP,getD_eq_getElem?_getD->bD,getElem?_append_left->fU,getElem?_append_right->gQ,getElem?_cons_zero->iX,getElem?_eq_getElem->aE,getElem?_eq_none->cI,getElem?_eq_some_iff->aG,getElem?_map->aQ,getElem?_set->fY,getElem_mem->bKH,length_append->bQ,length_filter_le->bFZ,length_map->bP,length_replicate->bFY,map->jL,map_append->aH,map_congr_left->gB,map_cons->bG,map_map->jD,map_nil->aV,mem_append->cD,mem_cons_of_mem->fP,mem_filter->jY,mem_map->cL,mem_range->dO,range->aM,range_succ->CI,replicate->eI
open Nat renaming add_assoc->fS,add_sub_cancel->rN,add_sub_cancel_left->iW,eq_zero_or_pos->jJ,le_refl->aF,le_trans->DS,lt_of_lt_of_le->oE,lt_trichotomy->mH,mul_one->bAM,not_lt_zero->bJ,sub_self->PG,zero_add->dV,zero_le->aJ
open Option renaming isSome_iff_exists->fK,isSome_none->lA,some->mB
open Go.Proofs.Tryz renaming prog->aA
section
namespace Go.Proofs.T
open Go Go.AM Go.Proofs
structure Nrm (s:St):Prop where
 g:∀i,s.ng<=i->s.par i=0/\s.wt i=0
 k:∀i,s.nk<=i->s.clk i=0
 u:∀i,s.nu<=i->s.cur i=0
 t:∀i,s.nt<=i->s.tsk i=fB
 n:∀g,s.ns<=g->s.nsp g=0
 s:∀g c,s.nsp g<=c->s.sp g c=⟨0,0,0⟩
theorem lQ{α:Type}{l:List α}{i:Nat}{d:α}(h:l.length<=i):l.getD i d=d:=by rw[bD,cI h];rfl
theorem xH{α:Type}{n i:Nat}{f:Nat->α}{d:α}(h:n<=i->f i=d):((aM n).map f).getD i d=f i:=by
 by_cases hi:i<n;.exact iY hi
 rw[h oO,lQ (by simp;omega)]
theorem a5Q{a b:St}(h1:a.cpus=b.cpus)(h2:a.credit=b.credit)(h3:a.ng=b.ng)(h4:a.par=b.par)(h5:a.wt=b.wt)(h6:a.nk=b.nk)(h7:a.clk=b.clk)(h8:a.nu=b.nu)(h9:a.cur=b.cur)(h10:a.nt=b.nt)(h11:a.tsk=b.tsk)(h12:a.ns=b.ns)(h13:a.nsp=b.nsp)(h14:a.sp=b.sp):a=b:=by cases a;cases b;simp only at h1 h2 h3 h4 h5 h6 h7 h8 h9 h10 h11 h12 h13 h14;subst h1 h2 h3 h4 h5 h6 h7 h8 h9 h10 h11 h12 h13 h14;rfl
theorem a2L{s:St}(h:Nrm s):(pA s).st=s:=by
 have e6:∀g,(pA s).st.nsp g=s.nsp g:=λ g=>by
  show(((aM s.ns).map λ g=>(aM (s.nsp g)).map (s.sp g)).getD g []).length=_;by_cases hg:g<s.ns;.rw[iY hg];simp
  rw[lQ (by simp;omega),h.n g oO];rfl
 refine a5Q rfl rfl (by simp[pA,LSt.st]) (funext λ i=>?_) (funext λ i=>?_) (by simp[pA,LSt.st]) (funext λ i=>?_) (by simp[pA,LSt.st]) (funext λ i=>?_) (by simp[pA,LSt.st]) (funext λ i=>?_) (by simp[pA,LSt.st]) (funext e6) (funext λ g=>funext λ c=>?_);.show(((aM s.ng).map λ g=>(s.par g,s.wt g)).getD i (0,0)).1=_;rw[xH λ hi=>by rw[(h.g i hi).1,(h.g i hi).2]]
 .show(((aM s.ng).map λ g=>(s.par g,s.wt g)).getD i (0,0)).2=_;rw[xH λ hi=>by rw[(h.g i hi).1,(h.g i hi).2]]
 .exact xH (h.k i)
 .exact xH (h.u i)
 .exact xH (h.t i)
 show(((aM s.ns).map λ g=>(aM (s.nsp g)).map (s.sp g)).getD g []).getD c default=_;by_cases hg:g<s.ns;.rw[iY hg];exact xH (h.s g c)
 rw[lQ (l:=(aM s.ns).map _) (by simp;omega),h.s g c (by rw[h.n g oO];omega)];rfl
theorem aVR(s:St):Nrm (pA s).st where
 g i hi:=by
  have e:(pA s).st.ng=s.ng:=by simp[pA,LSt.st]
  show(((aM s.ng).map λ g=>(s.par g,s.wt g)).getD i (0,0)).1=0/\(((aM s.ng).map λ g=>(s.par g,s.wt g)).getD i (0,0)).2=0;rw[lQ (by simp;omega)];exact⟨rfl,rfl⟩
 k i hi:=lQ hi
 u i hi:=lQ hi
 t i hi:=lQ hi
 n g hg:=by show((pA s).sl.getD g []).length=0;rw[lQ hg];rfl
 s g c hc:=lQ hc
theorem LA{N i:Nat}(h:N<=i)(f:Nat->Int)(l:List (Int×Int)):pT N f l i=f i:=by unfold pT;refine CV λ y hy=>?_;obtain⟨x,hx,rfl⟩:=cL.1 hy;have:=of_decide_eq_true (jY.1 hx).2;simp only;omega
theorem WU{S K g c:Nat}(h:S<=g\/K<=c):∀(l:List (Int×Int×Sp)) (f:Nat->Nat->Sp),CU S K f l g c=f g c
 |[],_=>rfl
 |x::l,f=>by
  show CU S K (if 0<=x.1/\x.1<S/\0<=x.2.1/\x.2.1<K then wR f x.1.toNat x.2.1.toNat x.2.2 else f) l g c=f g c;rw[WU h l];split;.rw[wR,if_neg oO]
  rfl
theorem LC{P:Sp->Prop}{S K:Nat}:∀(l:List (Int×Int×Sp)) (f:Nat->Nat->Sp),(∀g c,P (f g c))->(∀x∈l,P x.2.2)->∀g c,P (CU S K f l g c)
 |[],_,hf,_=>hf
 |x::l,f,hf,hl=>by
  show ∀g c,P (CU S K (if 0<=x.1/\x.1<S/\0<=x.2.1/\x.2.1<K then wR f x.1.toNat x.2.1.toNat x.2.2 else f) l g c);refine LC l _ (λ g c=>?_) λ y hy=>hl y (fP _ hy);split
  .unfold wR;split;.exact hl x sS
   exact hf g c
  exact hf g c
def aPO(s:St)(d:DE):List Tk:=(mP s).filter λ t=> !sJ d t
def mkT(s:St)(d:DE):List Tk:=GE fB gU (aPO s d++pre d.tk d.n4)
def zG(s:St)(d:DE):St:=LS s (lI d) (mkT s d)
theorem a2N(s:St):(mP s).length=s.nt:=by simp[mP]
theorem aFY(s:St)(d:DE):(mkT s d).length<=s.nt+d.n4:=by
 have h1:(mkT s d).length=(aPO s d++pre d.tk d.n4).length:=stab_perm.length_eq;have h2:(aPO s d).length<=s.nt:=by rw[<-a2N s];exact bFZ _ _
 rw[h1,bQ,sR];omega
theorem aXC{s:St}{d:DE}{t:Tk}(h:t∈mkT s d):(∃i,i<s.nt/\t=s.tsk i)\/∃i,t=d.tk i:=by
 rcases cD.1 (stab_perm.mem_iff.1 h)with h|h;.exact .inl (mem_tkL.1 (jY.1 h).1)
 obtain⟨i,_,e⟩:=mem_pre.1 h;exact .inr ⟨i,e.symm⟩
def a5R(s:St):Prop:=s.nu=s.nk/\∀g,g<s.ns->s.nsp g=s.nk
theorem a0G{s:St}{d:DE}(h:Nrm s)(hr:a5R s):Nrm (zG s d) where
 g i hi:=⟨(h.g i hi).1,(LA (N:=s.ng) hi s.wt _).trans (h.g i hi).2⟩
 k i hi:=(LA (N:=s.nk) hi s.clk _).trans (h.k i hi)
 u i hi:=by have hi:s.nu<=i:=hi;show pT s.nk s.cur _ i=0;rw[LA (by have:=hr.1;omega)];exact h.u i hi
 t i hi:=lQ hi
 n:=h.n
 s g c hc:=by
  have hc:s.nsp g<=c:=hc;show CU s.ns s.nk s.sp _ g c=_
  rw[WU (by
   by_cases hg:g<s.ns;.right;rw[<-hr.2 g hg];exact hc
   left;omega)]
  exact h.s g c hc
theorem aGY{d:DE}(h:DRng d)(i:Nat):TkR (d.tk i):=by obtain⟨h1,h2,h3,h4,h5,h6,h7⟩:=h.tk i;obtain⟨a1,a2⟩:=h5;obtain⟨a3,a4⟩:=h6;obtain⟨a5,a6⟩:=h7;exact⟨a1,oO,a3,a4,a5⟩
theorem aGZ{d:DE}(h:DRng d)(i:Nat):SpR (d.sp i).2.2:=by obtain⟨h1,h2,h3,h4,h5⟩:=h.sp i;obtain⟨a1,a2⟩:=h3;obtain⟨a3,a4⟩:=h4;obtain⟨a5,a6⟩:=h5;exact⟨a1,a2,a3,a5,a6⟩
theorem a0Y:TkR fB:=⟨fA _,by decide,fA _,by decide,fA _⟩
theorem aHL{s:St}{d:DE}(h:PreW s)(hd:DRng d)(hn:s.nt+d.n4<=200):PreW (zG s d):=by
 have hl:=aFY s d;refine VQ ⟨h.sm.ng,h.sm.nk,h.sm.nu,by show(mkT s d).length<=_;omega,h.sm.ns,h.sm.nsp⟩ (by show(mkT s d).length<=_;omega) h.ns h.p1 h.c0 (λ i=>?_) (LC _ _ (λ g c=>h.spr g c) λ x hx=>?_)
 .show TkR ((mkT s d).getD i fB);by_cases hi:i<(mkT s d).length
  .rcases aXC (kK (z:=fB) hi)with⟨j,_,e⟩|⟨j,e⟩;.rw[e];exact h.tkr j
   rw[e];exact aGY hd j
  rw[lQ oO];exact a0Y
 obtain⟨j,_,rfl⟩:=mem_pre.1 (show x∈pre d.sp d.n5 from hx);exact aGZ hd j
theorem vQ{s:St}(h:bW s=[]):a5R s/\0<s.nk/\s.nk<=64/\0<s.ng/\s.ng<=256/\s.ns=s.ng:=by obtain⟨h1,h2⟩:=lV (s:=s) (by rw[h];rfl);obtain⟨⟨r1,r2,r3,r4,r5,r6,r7⟩,_⟩:=eY h1;obtain⟨k1,k2,k3,k4⟩:=shapes_nil h2;exact⟨⟨oO,λ g hg=>by have:=k4 g hg;omega⟩,oO,oO,oO,r5,k3⟩
def VE(s:St)(d:DE):Prop:=a0E s (lI d) (mkT s d)
def zD(s:St)(d:DE):Bool:=decide (vF s (zG s d)=0)&&eqD (dOf (OF s (zG s d))) d
theorem apOkB_iff{s:St}{d:DE}:zD s d=true↔VE s d:=by rw[zD,aC,decide_eq_true_iff,aYL];rfl
def nP(s:St)(d:DE):Int:=if(bW s).isEmpty then(if zD s d then 0 else 352)else 350
def jS(s:St)(d:DE):St:=if(bW s).isEmpty&&zD s d then zG s d else zSt
theorem emp_iff{l:List Flt}:l.isEmpty=true↔l=[]:=List.isEmpty_iff
theorem FF{s:St}{d:DE}(h:¬bW s=[]):nP s d=350/\jS s d=zSt:=by
 have e:(bW s).isEmpty=false:=by rw[dS];exact λ h'=>h (emp_iff.1 h')
 simp[nP,jS,e]
theorem BU{s:St}{d:DE}(h:bW s=[])(h':¬VE s d):nP s d=352/\jS s d=zSt:=by
 have e:(bW s).isEmpty=true:=emp_iff.2 h;have e2:zD s d=false:=by rw[dS];exact λ h2=>h' (apOkB_iff.1 h2)
 simp[nP,jS,e,e2]
theorem AT{s:St}{d:DE}(h:bW s=[])(h':VE s d):nP s d=0/\jS s d=zG s d:=by have e:(bW s).isEmpty=true:=emp_iff.2 h;have e2:zD s d=true:=apOkB_iff.2 h';simp[nP,jS,e,e2]
theorem aLV{s:St}{d:DE}(h:nP s d=0):bW s=[]/\VE s d:=by
 by_cases h1:bW s=[]
 .by_cases h2:VE s d;.exact⟨h1,h2⟩
  rw[(BU h1 h2).1]at h;cases h
 rw[(FF h1).1]at h;cases h
theorem aEH{s:St}{d:DE}(h:bW s=[])(h':VE s d):bW (zG s d)=[]:=by
 have h1:vF s (zG s d)=0:=h'.1;unfold vF at h1;split at h1;.cases h1
 rename_i hb;unfold pI at hb;refine fL ?_;omega
theorem aUB{s:St}{d:DE}{m:List Tk}(h:bW s=[])(hm:FitD s (lI d)->oQ (mP s) (lI d).gn (lI d).tk m):(VE s d↔appR s (lI d) m)/\(VE s d->zG s d=XG s (lI d) m):=by refine a0C h (vQ h).2.1 ?_ (λ hid=>aNN λ t ht=>hid t (stab_perm.mem_iff.2 ht)) hm;have e:aPO s d=yW (mP s) (lI d).gn (lI d).tk:=aJX s d;rw[mkT,e];exact stab_perm
end Go.Proofs.T
end
section
namespace Go.Proofs.T
open Go Go.AM Go.Proofs
variable{Γ:List (Nat×List AVal)}
attribute [local irreducible] gK del
theorem nU(n:Nat)(f g:Nat->Int):(gN n f g).length=n:=by simp[gN]
theorem wT{n i:Nat}{f g:Nat->Int}(h:i<n):(gN n f g)[i]? =some [.lit (.int .i64 (f i)),.lit (.int .i64 (g i))]:=by simp[gN,h]
theorem aJD{n i:Nat}{f g:Nat->Int}{v:Int}:(gN n f g).set i [.lit (.int .i64 (f i)),.lit (.int .i64 v)]=gN n f (wQ g i v):=kP λ j=>by
 rw[fY];by_cases hj:j<n
 .by_cases e:i=j;.subst e;rw[if_pos rfl,nU,if_pos hj,wT hj];simp[wQ]
  rw[if_neg e,wT hj,wT hj];simp[wQ,Ne.symm e]
 rw[cI (l:=gN n f (wQ g i v)) (by rw[nU];omega)];split;.rw[nU,if_neg oO]
 exact cI (by rw[nU];omega)
theorem nT(n:Nat)(f:Nat->Sp):(kI n f).length=n:=by simp[kI]
theorem tV{n i:Nat}{f:Nat->Sp}(h:i<n):(kI n f)[i]? =some [.lit (.int .u64 (f i).v),.lit (.int .u32 (f i).r),.lit (.int .u64 (f i).floor)]:=by simp[kI,h]
theorem PV{n c:Nat}{f:Nat->Nat->Sp}{g:Nat}{v:Sp}:(kI n (f g)).set c [.lit (.int .u64 v.v),.lit (.int .u32 v.r),.lit (.int .u64 v.floor)]=kI n (wR f g c v g):=kP λ j=>by
 rw[fY];by_cases hj:j<n
 .by_cases e:c=j;.subst e;rw[if_pos rfl,nT,if_pos hj,tV hj];simp[wR]
  rw[if_neg e,tV hj,tV hj];simp[wR,Ne.symm e]
 rw[cI (l:=kI n (wR f g c v g)) (by rw[nT];omega)];split;.rw[nT,if_neg oO]
 exact cI (by rw[nT];omega)
theorem YR{n c:Nat}{f:Nat->Nat->Sp}{g:Nat}{v:Sp}:(λ j=>if j=g then kI n (wR f g c v g)else kI n (f j))=λ j=>kI n (wR f g c v j):=funext λ j=>by
 by_cases e:j=g;.subst e;rw[if_pos rfl]
 rw[if_neg e];congr 1;funext c';simp[wR,e]
theorem aDP{b ns n g:Nat}(h:g<ns):(zJ b ns n ns)[g]? =some [.sl (b+g) 0 n]:=by rw[xM];simp[h]
theorem tJ{k a s n g:Nat}{R:Nat->List (List AVal)}(h:g<n):AM.look (mK (k+a) s n R) (k+(a+g))=some ⟨s,true,R g⟩:=by rw[<-fS];exact uB h
theorem tE{k a s n g:Nat}{R:Nat->List (List AVal)}{rows:List (List AVal)}(h:g<n):zQ (mK (k+a) s n R) (k+(a+g)) ⟨s,true,rows⟩=mK (k+a) s n (λ j=>if j=g then rows else R j):=by rw[<-fS];exact KT h
attribute [local go_sem] tJ tE
def mkW(s:St)(d:DE)(i:Nat):Nat->Int:=pT s.ng s.wt (pre d.wg i)
def mkS(s:St)(d:DE)(n i:Nat):Nat->Nat->Sp:=CU s.ns n s.sp (pre d.sp i)
theorem RX(s:St)(n:Nat)(d:DE)(hd:d.size<=1000)(hn:0<n)(hn2:n<=1000)(e1:s.nk=n)(e2:s.nu=n)(e3:∀g,g<s.ns->s.nsp g=n)(h1:0<s.ng)(h2:s.ng<=1000)(h5:0<s.ns)(h6:s.ns<=1000)(h8:s.nt<=1000)
 (hright:AM.Pure aA Γ 24 [.agg s.cells] true) (k:Nat) (POST:Nat->AVal->aS->Prop)
 (hrest:AM.W aA Γ 131 k (fR (dZ Tryz.f22) [1,1,1,1,1,1,1,1,1,1]) (yD aA Tryz.f22 POST) (k+3+(20+s.ns)+1) [(2,.rp s.cells),(3,.rp d.cells),(4,.ptr (k+2) 0 0),(5,(0:Int)),(6,.ptr (k+3) 0 0)] ((k+3,⟨7,false,[[s.cpus,.lit (.int .u64 s.credit),.sl (k+16) 0 s.ng,.sl (k+17) 0 n,.sl (k+18) 0 n,.sl (k+19) 0 (mkT s d).length,.sl (k+20) 0 s.ns]]⟩)::(k+2,⟨7,true,[[(0:Int),.lit (.int .u64 0),(),(),(),(),()]]⟩)::(k+16,⟨2,true,gN s.ng s.par (mkW s d d.n2)⟩)::(k+17,⟨1,true,fM n (pT n s.clk (pre d.ck d.n0))⟩)::(k+18,⟨1,true,fM n (pT n s.cur (pre d.cu d.n1))⟩)::(k+19,⟨8,true,(mkT s d).map tR⟩)::(k+20,⟨1,false,zJ (k+21) s.ns n s.ns⟩)::mK (k+21) 3 s.ns (λ g=>kI n ((mkS s d n d.n5) g)))):
 AM.Tr aA Γ 22 k [.agg s.cells,.agg d.cells] [] POST:=by
 have hd':=hd;unfold DE.size at hd;have hcp:=aSW (Γ:=Γ) s n hn hn2 e1 e2 e3 h1 h2 h5 h6 h8 (k+3);obtain⟨kx,hkx⟩:∃x,x=k+3+(20+s.ns):=⟨_,rfl⟩;rw[<-hkx]at hcp hrest;simp only[OC,OH,fS,Nat.reduceAdd]at hcp;obtain⟨C1,eC1⟩:∃f,f=pT n s.clk (pre d.ck d.n0):=⟨_,rfl⟩;obtain⟨U1,eU1⟩:∃f,f=pT n s.cur (pre d.cu d.n1):=⟨_,rfl⟩;have hp1:AM.Tr aA Γ 62 (kx+1) [.sl (k+17) 0 n,.rd 2 d.n0 d.f0] [(k+17,⟨1,true,fM n s.clk⟩)] (λ k1 r1 H1=>k1=kx+1/\r1= .tup []/\H1=[(k+17,⟨1,true,fM n C1⟩)]):=by rw[eC1];exact a1F n s.clk d.n0 d.ck oO oO (kx+1) (k+17) oO
 have hp2:AM.Tr aA Γ 62 (kx+1) [.sl (k+18) 0 n,.rd 2 d.n1 d.f1] [(k+18,⟨1,true,fM n s.cur⟩)] (λ k1 r1 H1=>k1=kx+1/\r1= .tup []/\H1=[(k+18,⟨1,true,fM n U1⟩)]):=by rw[eU1];exact a1F n s.cur d.n1 d.cu oO oO (kx+1) (k+18) oO
 rw[<-eC1,<-eU1]at hrest;have hcs:(zJ (k+21) s.ns n s.ns).map (λ row=>row.map (CO kx (k+3)))=zJ (k+21) s.ns n s.ns:=by rw[xM,jD];refine gB λ g hg=>?_;have:=dO.1 hg;simp only[Function.comp,bG,aV,CO,sw];rw[if_neg oO,if_neg oO]
 obtain⟨sc,esc⟩:∃c,c=s.cells:=⟨_,rfl⟩;refine iD Tryz.func22 rfl 131 rfl bB ?_;refine bY rfl ?_;(refine gL rfl [0,1,2,3,4,5,6,8,10,11,12,15,30,31,32,33,47,73,74,75,76,102,128] rfl rfl (λ K hK=>?_));simp-dsimp-implicitDefEqProofs (disch:=omega)only[go_sem,iN,eq_self,↓reduceIte];(refine hK _ _ _ _ (λ hx=>?_));clear hx hK;simp-dsimp-implicitDefEqProofs (disch:=omega)only[go_sem,iN,eq_self,↓reduceIte];clear K;refine dI (dJ (k) (by simp-dsimp-implicitDefEqProofs (disch:=omega)only[go_sem,iN,eq_self,↓reduceIte];rfl) rfl) ?_;simp-dsimp-implicitDefEqProofs only[kX,fE,go_sem,eq_self,↓reduceIte];refine dI (dJ (k+1) (by simp-dsimp-implicitDefEqProofs (disch:=omega)only[go_sem,iN,eq_self,↓reduceIte];rfl) rfl) ?_;simp-dsimp-implicitDefEqProofs only[kX,fE,go_sem,eq_self,↓reduceIte];have kp:=fI k [0,1,2,3,4,5,6,8,10,11,12,15,30,31,32,33,47,73,74,75,76,102,128];refine bS ?_;refine aU (zs ?_);refine lU [.ret true] ?_;refine dD (zs ?_) (zs ?_);all_goals(try exact hright)
 refine bS ?_;refine aU ⟨λ ht=>zN ?_⟩;refine lU [.far (.agg [s.cpus,.lit (.int .u64 s.credit),.sl (k+16) 0 s.ng,.sl (k+17) 0 n,.sl (k+18) 0 n,.sl (k+19) 0 s.nt,.sl (k+20) 0 s.ns]) kx [(k+2,⟨7,true,[[(0:Int),.lit (.int .u64 0),(),(),(),(),()]]⟩)] [] ((k+16,⟨2,true,gN s.ng s.par s.wt⟩)::(k+17,⟨1,true,fM n s.clk⟩)::(k+18,⟨1,true,fM n s.cur⟩)::(k+19,⟨8,true,(mP s).map tR⟩)::(k+20,⟨1,false,zJ (k+21) s.ns n s.ns⟩)::mK (k+21) 3 s.ns (λ g=>kI n (s.sp g)))] ?_;refine DT (zs ?_) (zs ?_) (zs ?_) (zs ?_);.exact λ q=>rfl
 .exact λ q hq=>by
   rcases hq with hq|hq;.simp[dX,AM.look]at hq
   have:k+16<=q:=by
    simp only[dX,AM.look]at hq;repeat'(split at hq;(· omega))
    obtain⟨B,hB⟩:=fK.1 hq;have:=QS hB;omega
   simp only[AM.look];repeat rw[if_neg oO]
 .exact hcp
 refine dI (iT kx (k+3) ⟨oO,oO⟩ ⟨oO,oO⟩) ?_;have uU:= @hcs;refine cQ ?_;apply zN;have uU:=Go.AM.uU;refine bS ?_;refine aU (zs ?_);refine lU [.gen (.tup []) (kx+1) [(k+17,⟨1,true,fM n s.clk⟩)] [(k+17,⟨1,true,fM n C1⟩)]] ?_;refine aU (zs ?_);all_goals(try exact hp1)
 refine bS ?_;refine aU (zs ?_);refine lU [.gen (.tup []) (kx+1) [(k+18,⟨1,true,fM n s.cur⟩)] [(k+18,⟨1,true,fM n U1⟩)]] ?_;refine aU (zs ?_);all_goals(try exact hp2)
 refine bS ?_;refine aU (zs ?_);refine bE (X:=Nat) rfl [0,1,2,3,4,5,6,8,10,11,12,15,30,31,32,33,47,73,74,75,76,102,128] (kx+1) (λ i=>[(32,i)]) (λ i=>(k+3,⟨7,false,[[s.cpus,.lit (.int .u64 s.credit),.sl (k+16) 0 s.ng,.sl (k+17) 0 n,.sl (k+18) 0 n,.sl (k+19) 0 s.nt,.sl (k+20) 0 s.ns]]⟩)::(k+2,⟨7,true,[[(0:Int),.lit (.int .u64 0),(),(),(),(),()]]⟩)::(k+16,⟨2,true,gN s.ng s.par (mkW s d i)⟩)::(k+17,⟨1,true,fM n C1⟩)::(k+18,⟨1,true,fM n U1⟩)::(k+19,⟨8,true,(mP s).map tR⟩)::(k+20,⟨1,false,zJ (k+21) s.ns n s.ns⟩)::mK (k+21) 3 s.ns (λ g=>kI n (s.sp g))) (λ i=>i<=d.n2) (λ i=>d.n2-i) 0 ?_ (aJ _) ?_;.rw[show mkW s d 0=s.wt from rfl];refine cQ ?_;apply zN;exact fH
 intro i hi;obtain⟨F,eF⟩:∃F,F=mkW s d i:=⟨_,rfl⟩;have hnx:mkW s d (i+1)=if 0<=(d.wg i).1/\(d.wg i).1<s.ng then wQ F (d.wg i).1.toNat (d.wg i).2 else F:=by rw[mkW,wX,GL,eF];rfl
 rw[<-eF];by_cases hlt:i<d.n2
 .obtain⟨x,ex⟩:∃x,x=(d.wg i).1:=⟨_,rfl⟩;obtain⟨y,ey⟩:∃y,y=(d.wg i).2:=⟨_,rfl⟩;rw[<-ex,<-ey]at hnx;have ex':=ex.symm;have ey':=ey.symm;have hl:=nU s.ng s.par F;by_cases h0:0<=x
  .by_cases hx1:x<s.ng;.rw[if_pos ⟨h0,hx1⟩]at hnx;have g1:=wT (n:=s.ng) (f:=s.par) (g:=F) (i:=x.toNat) oO;have gs:=aJD (n:=s.ng) (f:=s.par) (g:=F) (i:=x.toNat) (v:=y);obtain⟨R,eR⟩:∃R,R=gN s.ng s.par F:=⟨_,rfl⟩;rw[<-eR]at hl g1 gs;rw[<-eR];have b1:x.toNat<s.ng:=oO;have uU:=qW @hl @g1 @h0 @hx1 @b1 @ex' @ey' @hlt;refine cQ ?_;apply zN;refine bS ?_;refine aU ⟨λ ht ht=>zN ?_⟩;refine⟨i+1,oO,oO,?_⟩;rw[hnx,<-gs,(oO:((i+1:Nat):Int)=(i:Int)+1)];exact fH
   rw[if_neg (λ h=>hx1 h.2)]at hnx;have uU:=qQ @hl @h0 @hx1 @ex' @ey' @hlt;refine cQ ?_;apply zN;refine bS ?_;refine aU ⟨λ ht ht=>zN ?_⟩;refine⟨i+1,oO,oO,?_⟩;rw[hnx,(oO:((i+1:Nat):Int)=(i:Int)+1)];exact fH
  rw[if_neg (λ h=>h0 h.1)]at hnx;have uU:=xY @hl @h0 @ex' @ey' @hlt;refine cQ ?_;apply zN;refine bS ?_;refine aU ⟨λ ht ht=>zN ?_⟩;refine⟨i+1,oO,oO,?_⟩;rw[hnx,(oO:((i+1:Nat):Int)=(i:Int)+1)];exact fH
 clear hnx;have hin:i=d.n2:=oO;rw[hin]at eF;obtain⟨W1,eW1⟩:∃W,W=mkW s d d.n2:=⟨_,rfl⟩;rw[<-eW1]at eF hrest;rw[eF];obtain⟨K0,eK0⟩:∃K,K=aPO s d:=⟨_,rfl⟩;have hK0:K0.length<=1000:=by rw[eK0];exact DS (bFZ _ _) (by rw[JE];exact h8)
 have hdf:=aLC (Γ:=Γ) (mP s) (by rw[JE];omega) d oO (kx+1) (k+19) oO;rw[JE]at hdf;have hK0e:((mP s).filter λ t=> !sJ d t)=K0:=eK0.symm;rw[hK0e]at hdf;obtain⟨m,em⟩:∃m,m=K0.length:=⟨_,rfl⟩;rw[<-em]at hdf;have hnlt:¬(i:Int)<(d.n2:Int):=oO;have uU:= @hnlt;refine cQ ?_;apply zN;refine bS ?_;refine aU ⟨λ ht=>zN ?_⟩;refine lU [.gen (.sl (k+19) 0 m) (kx+1) [(k+19,⟨8,true,(mP s).map tR⟩)] [(k+19,⟨8,true,K0.map tR⟩)]] ?_;refine dD (zs ?_) (zs ?_);all_goals(try exact hdf)
 refine yU (X:=Unit) rfl [0,1,2,3,4,5,6,8,10,11,12,15,30,31,32,33,47,73,74,75,76,102,128] (kx+1) (λ _=>[]) (λ _=>(k+3,⟨7,false,[[s.cpus,.lit (.int .u64 s.credit),.sl (k+16) 0 s.ng,.sl (k+17) 0 n,.sl (k+18) 0 n,.sl (k+19) 0 (m+d.n4),.sl (k+20) 0 s.ns]]⟩)::(k+2,⟨7,true,[[(0:Int),.lit (.int .u64 0),(),(),(),(),()]]⟩)::(k+16,⟨2,true,gN s.ng s.par W1⟩)::(k+17,⟨1,true,fM n C1⟩)::(k+18,⟨1,true,fM n U1⟩)::(k+19,⟨8,true,(K0++pre d.tk d.n4).map tR⟩)::(k+20,⟨1,false,zJ (k+21) s.ns n s.ns⟩)::mK (k+21) 3 s.ns (λ g=>kI n (s.sp g))) (λ _=>True) ?_ ?_
 .rcases jJ d.n4 with h4|h4
  .have e:K0++pre d.tk d.n4=K0:=by rw[h4];exact aR _
   have uU:= @h4;refine cQ ?_;apply zN;refine bS ?_;refine aU (zs ?_);refine⟨(),?_⟩;rw[show K0++pre d.tk 0=K0 from aR _];exact fH
  have hne4:¬d.n4=0:=oO;have erow:(aM d.n4).map d.f4=(pre d.tk d.n4).map tR:=by unfold pre;rw[jD];rfl
  have hone4:(((pre d.tk d.n4).map tR).all λ row=>row.all AM.one)=true:=pM _ _ λ _=>rfl;have hKl:(K0.map tR).length=m:=by rw[bP,em]
  have hcs2:(zJ (k+21) s.ns n s.ns).map (λ row=>row.map (CO (kx+1) (k+19)))=zJ (k+21) s.ns n s.ns:=by rw[xM,jD];refine gB λ g hg=>?_;have:=dO.1 hg;simp only[Function.comp,bG,aV,CO,sw];rw[if_neg oO,if_neg oO]
  have uU:=xY @h4 @hne4 @erow @hone4 @hKl;refine cQ ?_;apply zN;refine bS ?_;refine aU (zs ?_);refine⟨(),?_⟩;refine Mv.trans (iT (kx+1) (k+19) ⟨oO,oO⟩ ⟨oO,oO⟩) ?_;rw[aH];have uU:= @hcs2;refine cQ ?_;apply zN;exact fH
 rintro _ _;obtain⟨L1,eL1⟩:∃L,L=K0++pre d.tk d.n4:=⟨_,rfl⟩;have hL1:L1.length=m+d.n4:=by rw[eL1,bQ,<-em];simp[pre]
 rw[<-eL1];have hso:=SP (Γ:=Γ) L1 oO (kx+1) (k+19) oO;rw[hL1]at hso;obtain⟨T1,eT1⟩:∃T,T=mkT s d:=⟨_,rfl⟩;have hst:GE fB gU L1=T1:=by rw[eT1,mkT,<-eK0,<-eL1]
 have hTl:T1.length=m+d.n4:=by rw[<-hst,stab_perm.length_eq,hL1]
 rw[hst]at hso;rw[<-eT1,hTl]at hrest;have uU:=Go.AM.uU;refine cQ ?_;apply zN;refine bS ?_;refine aU (zs ?_);refine lU [.gen (.tup []) (kx+1) [(k+19,⟨8,true,L1.map tR⟩)] [(k+19,⟨8,true,T1.map tR⟩)]] ?_;refine aU (zs ?_);all_goals(try exact hso)
 refine bS ?_;refine aU (zs ?_);refine bE (X:=Nat) rfl [0,1,2,3,4,5,6,8,10,11,12,15,30,31,32,33,47,73,74,75,76,102,128] (kx+1) (λ i=>[(75,i)]) (λ i=>(k+3,⟨7,false,[[s.cpus,.lit (.int .u64 s.credit),.sl (k+16) 0 s.ng,.sl (k+17) 0 n,.sl (k+18) 0 n,.sl (k+19) 0 (m+d.n4),.sl (k+20) 0 s.ns]]⟩)::(k+2,⟨7,true,[[(0:Int),.lit (.int .u64 0),(),(),(),(),()]]⟩)::(k+16,⟨2,true,gN s.ng s.par W1⟩)::(k+17,⟨1,true,fM n C1⟩)::(k+18,⟨1,true,fM n U1⟩)::(k+19,⟨8,true,T1.map tR⟩)::(k+20,⟨1,false,zJ (k+21) s.ns n s.ns⟩)::mK (k+21) 3 s.ns (λ g=>kI n ((mkS s d n i) g))) (λ i=>i<=d.n5) (λ i=>d.n5-i) 0 ?_ (aJ _) ?_;.rw[show mkS s d n 0=s.sp from rfl];refine cQ ?_;apply zN;exact fH
 intro i hi;obtain⟨F,eF⟩:∃F,F=mkS s d n i:=⟨_,rfl⟩;have hnx:mkS s d n (i+1)=if 0<=(d.sp i).1/\(d.sp i).1<s.ns/\0<=(d.sp i).2.1/\(d.sp i).2.1<n then wR F (d.sp i).1.toNat (d.sp i).2.1.toNat (d.sp i).2.2 else F:=by rw[mkS,wX,QA,eF];rfl
 rw[<-eF];by_cases hlt:i<d.n5
 .obtain⟨x,ex⟩:∃x,x=(d.sp i).1:=⟨_,rfl⟩;obtain⟨y,ey⟩:∃y,y=(d.sp i).2.1:=⟨_,rfl⟩;obtain⟨v,ev⟩:∃v,v=(d.sp i).2.2:=⟨_,rfl⟩;rw[<-ex,<-ey,<-ev]at hnx;have ex':=ex.symm;have ey':=ey.symm;have ev':=ev.symm;by_cases h0:0<=x
  .by_cases hx1:x<s.ns
   .by_cases h2y:0<=y
    .by_cases hy1:y<n;.rw[if_pos ⟨h0,hx1,h2y,hy1⟩]at hnx;obtain⟨gt,egt⟩:∃q,q=x.toNat:=⟨_,rfl⟩;obtain⟨ct,ect⟩:∃q,q=y.toNat:=⟨_,rfl⟩;rw[<-egt,<-ect]at hnx;have egt':=egt.symm;have ect':=ect.symm;have bg:gt<s.ns:=oO;have bc:ct<n:=oO;have hco:=aDP (b:=k+21) (n:=n) bg;rw[fS]at hco;have g1:=tV (f:=F gt) bc;have hls:=nT n (F gt);have gs:=PV (n:=n) (c:=ct) (f:=F) (g:=gt) (v:=v);have fs:=YR (n:=n) (c:=ct) (f:=F) (g:=gt) (v:=v);have uU:=eQ @hlt @ex' @ey' @ev' @h0 @hx1 @h2y @hy1 (eQ @egt' @ect' @bg @bc @hco @g1 @hls @gs @fs);refine cQ ?_;apply zN;have kp:Kp [0,1,2,3,4,5,6,8,10,11,12,15,30,31,32,33,47,73,74,75,76,102,128] (λ i=>if k+21<=i then 21 else i-k):=vD;refine bS ?_;refine aU ⟨λ ht ht=>zN ?_⟩;refine⟨i+1,oO,oO,?_⟩;rw[hnx,(oO:((i+1:Nat):Int)=(i:Int)+1)];exact fH
     rw[if_neg (λ h=>oO)]at hnx;have uU:=qW @hlt @ex' @ey' @ev' @h0 @hx1 @h2y @hy1;refine cQ ?_;apply zN;have kp:Kp [0,1,2,3,4,5,6,8,10,11,12,15,30,31,32,33,47,73,74,75,76,102,128] (λ i=>if k+21<=i then 21 else i-k):=vD;refine bS ?_;refine aU ⟨λ ht ht=>zN ?_⟩;refine⟨i+1,oO,oO,?_⟩;rw[hnx,(oO:((i+1:Nat):Int)=(i:Int)+1)];exact fH
    rw[if_neg (λ h=>oO)]at hnx;have uU:=yA @hlt @ex' @ey' @ev' @h0 @hx1 @h2y;refine cQ ?_;apply zN;have kp:Kp [0,1,2,3,4,5,6,8,10,11,12,15,30,31,32,33,47,73,74,75,76,102,128] (λ i=>if k+21<=i then 21 else i-k):=vD;refine bS ?_;refine aU ⟨λ ht ht=>zN ?_⟩;refine⟨i+1,oO,oO,?_⟩;rw[hnx,(oO:((i+1:Nat):Int)=(i:Int)+1)];exact fH
   rw[if_neg (λ h=>oO)]at hnx;have uU:=qQ @hlt @ex' @ey' @ev' @h0 @hx1;refine cQ ?_;apply zN;have kp:Kp [0,1,2,3,4,5,6,8,10,11,12,15,30,31,32,33,47,73,74,75,76,102,128] (λ i=>if k+21<=i then 21 else i-k):=vD;refine bS ?_;refine aU ⟨λ ht ht=>zN ?_⟩;refine⟨i+1,oO,oO,?_⟩;rw[hnx,(oO:((i+1:Nat):Int)=(i:Int)+1)];exact fH
  rw[if_neg (λ h=>oO)]at hnx;have uU:=xY @hlt @ex' @ey' @ev' @h0;refine cQ ?_;apply zN;have kp:Kp [0,1,2,3,4,5,6,8,10,11,12,15,30,31,32,33,47,73,74,75,76,102,128] (λ i=>if k+21<=i then 21 else i-k):=vD;refine bS ?_;refine aU ⟨λ ht ht=>zN ?_⟩;refine⟨i+1,oO,oO,?_⟩;rw[hnx,(oO:((i+1:Nat):Int)=(i:Int)+1)];exact fH
 have hin5:i=d.n5:=oO;rw[hin5]at eF;rw[<-eF]at hrest;refine cQ ?_;apply zN;refine bY rfl ?_;(refine gL rfl [0,1,2,3,4,5,6,8,10,11,12,15,30,31,32,33,47,73,74,75,76,102,128] rfl rfl (λ K hK=>?_));simp-dsimp-implicitDefEqProofs (disch:=omega)only[go_sem,iN,eq_self,↓reduceIte];(refine hK _ _ _ _ (λ hx=>?_));clear hx hK;simp-dsimp-implicitDefEqProofs (disch:=omega)only[go_sem,iN,eq_self,↓reduceIte];clear K;refine bY rfl ?_;refine gA rfl _ rfl (λ ht=>?_) (λ ht=>?_);.exact absurd (of_decide_eq_true ht) oO
 refine jU rfl ?_;refine cQ ?_;apply zN;refine dI ?_ hrest;exact fH
end Go.Proofs.T
end
section
namespace Go.AM
open Go
section
variable{P:Program}{Γ:List (Nat×List AVal)}{nt kb:Nat}{Q:AQ}{k:Nat}{fr:Fr}{H:aS}{c:Code}{p:List Nat}
theorem Step.lent {A:bU}{w w':World}{G G':Nat->Prop}{ρ ρ':cM}(hst:Step A w (λ b=>G b\/oI ρ b) bR w' G' ρ'):Step A w G ρ w' G' ρ':=
 ⟨hst.size,λ b hb _=>hst.keep b hb (λ⟨_,_,h⟩=>by cases h),hst.shape,λ b h=>hst.g b (.inl h),
  λ b h=>(hst.g' b h).elim (λ h=>h.elim .inl λ h=> .inr (.inl h)) (λ h=>h.elim (λ⟨_,_,h⟩=>by cases h) λ h=> .inr (.inr h)),
  λ b h=>(hst.own b h).elim (λ⟨_,_,h⟩=>by cases h) .inr,λ id h=>(hst.ids id h).elim .inl .inl,hst.os,hst.tape,hst.output⟩
def WB(P:Program)(Γ:List (Nat×List AVal))(nt kb:Nat)(c:Code)(B:Nat->Fr->aS->Prop)(Q:AQ):Nat->List Nat->Nat->Fr->aS->Prop
 |0,_=>B
 |n+1,p=>λ k fr H=>W P Γ nt kb (fR c (0::p)) (pL (WB P Γ nt kb c B Q n (1::p)) Q) k fr H
def aTF(c:Code):Nat->List Nat->Prop
 |0,_=>True
 |n+1,p=>fR c p= .seq (fR c (0::p)) (fR c (1::p))/\aTF c n (1::p)
def a3K:Nat->List Nat->List Nat
 |0,p=>p
 |n+1,p=>a3K n (1::p)
theorem AV{f:FuncId}{args:List AVal}{r:AVal}(h:∀k,Tr P Γ f k args [] (λ _ r1 H1=>Bor Γ H1 r1 r)):Pure P Γ f args r:=λ k A hA w G ρ cargs hr hvs=>by
 refine(h k A hA w G ρ cargs hr hvs).mono ?_;rintro e w' ⟨cv,G',ρ',k',r1,H1,rfl,hb,hk,hrel',hV,hst⟩;have hH:SG H1 (bK H1 (jA A k k')) (jA A k k'):=λ id B h=>⟨_,by simp[bK,h],λ _ h=>h⟩;refine⟨cv,λ b=>G' b\/oI ρ' b,bR,k,r,[],rfl,⟨rfl,rfl,rfl⟩,aF _,hrel'.fz,?_,?_⟩;.exact(hb w' G' ρ' _ _ cv hrel' hH hV).mono (λ b h=>h.imp id λ⟨id,B,s,_,h4⟩=>⟨id,s,h4⟩) (λ _ _=>rfl) (λ _ _=>rfl) (λ _ h=>h.elim) (λ _ h=>h.elim)
 exact⟨hst.size,hst.keep,hst.shape,λ b h=> .inl (hst.g b h),λ b h=>h.elim (hst.g' b) (λ h=> .inr (hst.own b h)),(λ b h=>by obtain⟨_,_,h⟩:=h;cases h),λ _ _=> .inl rfl,hst.os,hst.tape,hst.output⟩
end
section
variable{P:Program}{Γ:List (Nat×List AVal)}{nt kb:Nat}{Q:AQ}{k:Nat}{fr:Fr}{H:aS}{c:Code}{p:List Nat}
theorem HRel.less {w:World}{G:Nat->Prop}{ρ:cM}{H:lP}{B:Nat}{cells:List AVal}(h:HRel ((B,cells)::Γ) w G ρ H)(hB:look Γ B=none):HRel Γ w G ρ H:=
 ⟨h.dom,h.blk,h.inj,h.ro,λ g cs hg=>h.glob g cs (by
  simp only[look];split;.rename_i e;subst e;rw[hB]at hg;cases hg
  exact hg)⟩
theorem aUR(n:Nat)(hc:aTF c n p){Z:Type}(inv:Z->Prop)(tb id:Nat)(cells:List AVal)(frL:(Nat->Value)->Fr)(fr2:Z->Fr)(fr2L:Z->(Nat->Value)->Fr)
 (hb:look fr tb=some (.ptr id 0 0)) (hid:(look H id).isSome=true) (hbor:Bor Γ H (.ptr id 0 0) (.rp cells))
 (hL:∀φ t v',look (frL φ) t=some v'->(∃v,look fr t=some v/\Bor Γ H v v')\/v'= .lit (φ t))
 (h2L:∀z φ t v,look (fr2 z) t=some v->∃v',look (fr2L z φ) t=some v'/\((v'=v/\a3R v=true)\/(v'= .lit (φ t)/\look fr t=some v)))
 (h1:∀(φ:Nat->Value) (B x:Nat),φ tb= .pointer (some ⟨B,0,none⟩)->WB P ((B,cells++eI x .junk)::Γ) nt kb c (λ k' fr' H'=>∃z,inv z/\∃kx,Mv kb k' fr' H' kx (fr2L z φ) []) Q n p k (frL φ) [])
 (h2:∀z,inv z->W P Γ nt kb (fR c (a3K n p)) Q k (fr2 z) H):W P Γ nt kb (fR c p) Q k fr H:=by
 intro A0 hA0 hk w G ρ a hi;have hrel:=hi.rel;have hH:SG H (bK H (jA A0 kb k)) (jA A0 kb k):=λ id B h=>⟨_,by simp[bK,h],λ _ h=>h⟩;obtain⟨φ,hφ⟩:∃φ:Nat->Value,∀t,φ t=a.tmps.getD t undef:=⟨_,λ _=>rfl⟩;have beh:∀b,G b\/NO H ρ b->G b\/oI ρ b:=λ b h=>h.imp (λ h=>h) λ⟨i,B,s,_,h4⟩=>⟨i,s,h4⟩;have hfz:HRel Γ w (λ b=>G b\/oI ρ b) bR (bK [] (jA A0 kb k)):=hrel.fz;obtain⟨BI,hBI⟩:=fK.1 hid;obtain⟨_,b,hρb,hGb,_⟩:=hrel.blk id BI (jA A0 kb k) (by simp[bK,hBI]);have hown:oI ρ b:=⟨id,_,hρb⟩;have hptr:=hi.frm tb _ hb;have hrp:=hbor w G ρ _ _ _ hrel hH hptr;rw[<-hφ]at hptr hrp
 obtain⟨hφb,C,ty,xx,hC⟩:φ tb= .pointer (some ⟨b,0,none⟩)/\∃C ty xx,w.heap[b]? =some (.cells C ty xx):=by
  generalize φ tb=cv at hptr
  cases hptr with
  |dang _ hn=>rw[hρb]at hn;cases hn
  |ptr ha hρ hsh=>
   rw[hρb]at hρ;cases hρ;refine⟨sS,?_⟩;unfold World.shape? at hsh;split at hsh;.rename_i C e x hC;exact⟨C,e,x,hC⟩
   all_goals cases hsh
 rw[hφb]at hrp
 have hlen:∃x,cells.length+x=C.size/\V w (λ b=>G b\/oI ρ b) bR cF (.rp (cells++eI x .junk)) (.pointer (some ⟨b,0,none⟩)):=by
  cases hrp with
  |rp g hg hcell hv=>
   have hle:cells.length<=C.size:=by
    rcases jJ cells.length with h0|h0;.omega
    have:=hcell (cells.length-1) _ (aE oO);unfold World.cell? at this;rw[hC]at this;simp only[lA,aO,if_false]at this;have:=(cZ.1 this).1;omega
   refine⟨C.size-cells.length,oO,.rp (λ j=>if j<cells.length then g j else C.getD j undef) (beh _ hg) (λ j v hj=>?_) (λ j v hj=>?_)⟩
   .by_cases hlt:j<cells.length;.rw[fU hlt]at hj;rw[if_pos hlt];exact hcell j v hj
    have hj2:j<C.size:=by have:=(aG.1 hj).1;simp only[bQ,bFY]at this;omega
    rw[if_neg hlt];unfold World.cell?;rw[hC];simp only[lA,aO,if_false,dV];rw[aP hj2,aD,aP hj2];rfl
   by_cases hlt:j<cells.length;.rw[fU hlt]at hj;rw[if_pos hlt];exact(hv j v hj).mono beh (λ _ _=>rfl) (λ _ _=>rfl) (λ _ h=>h) (λ _ h=>h.elim)
   rw[gQ oO]at hj;have e:v= .junk:=by obtain⟨hlt2,e⟩:=aG.1 hj;simpa using e.symm
   subst e;exact .junk
 obtain⟨x,hx,hVx⟩:=hlen
 have hnk:look Γ b=none:=by
  cases h:look Γ b with
  |none=>rfl
  |some cs=>exact absurd (hrel.glob b cs h).2.1 hGb
 have hfz2:HRel ((b,cells++eI x .junk)::Γ) w (λ b=>G b\/oI ρ b) bR (bK [] (jA A0 kb k)):=
  ⟨hfz.dom,hfz.blk,hfz.inj,hfz.ro,λ g cs hg=>by
   simp only[look]at hg;split at hg;.rename_i e;subst e;cases hg;exact⟨hVx,.inr hown,C,ty,xx,hC,by rw[bQ,bFY];omega⟩
   exact hfz.glob g cs hg⟩
 have hiB:Inv ((b,cells++eI x .junk)::Γ) nt w (λ b=>G b\/oI ρ b) bR (jA A0 kb k) a (frL φ) []:=⟨hfz2,hi.size,hi.defers,λ t v' hl=>by
  rcases hL φ t v' hl with⟨v,h1,h2⟩|rfl;.exact(h2 w G ρ _ _ _ hrel hH (hi.frm t v h1)).mono beh (λ _ _=>rfl) (λ _ _=>rfl) (λ _ h=>h.elim) (λ _ h=>h.elim)
  rw[hφ];exact .lit⟩
 obtain⟨Γ',hΓ'⟩:∃Γ',Γ'=(b,cells++eI x .junk)::Γ:=⟨_,rfl⟩;have h1:=h1 φ b x hφb;rw[<-hΓ']at h1 hiB;have less:∀ {w G ρ H},HRel Γ' w G ρ H->HRel Γ w G ρ H:=λ h=>by rw[hΓ']at h;exact h.less hnk
 have key:∀n p,aTF c n p->(∀z,inv z->W P Γ nt kb (fR c (a3K n p)) Q k (fr2 z) H)->∀k1 fr1 H1 w1 G1 ρ1 a1,kb<=k1->WB P Γ' nt kb c (λ k' fr' H'=>∃z,inv z/\∃kx,Mv kb k' fr' H' kx (fr2L z φ) []) Q n p k1 fr1 H1→
  Inv Γ' nt w1 G1 ρ1 (jA A0 kb k1) a1 fr1 H1->Step (kN kb) w (λ b=>G b\/oI ρ b) bR w1 G1 ρ1->(fR c p).wp P (Post Γ nt A0 kb w G ρ Q) a1 w1:=by
  intro n
  induction n with
  | zero=>
    intro p _ h2 k1 fr1 H1 w' G' ρ' a' hk' hQ hi' hst
    obtain⟨z,hz,kx,hmv⟩:=hQ
    obtain⟨hkx,hmv⟩:=hmv hk'
    obtain⟨G2,ρ2,hi2,hs2⟩:=hmv Γ' nt A0 w' G' ρ' a' hA0 hi'
    have hst2:=hst.trans hs2 (λ _ h=>h)
    have hkeep:∀b,b<w.heap.size->w'.heap[b]? =w.heap[b]? :=λ b hb=>hst2.keep b hb (λ⟨_,_,h⟩=>by cases h)
    have hstA:∀A:bU,Step A w G ρ w' (λ b=>G b\/(w.heap.size<=b/\G2 b)) ρ:=λ A=>
     ⟨hst2.size,λ b hb _=>hkeep b hb,hst2.shape,λ _ h=> .inl h,λ b h=>h.elim .inl (λ h=> .inr (.inr h.1)),λ _ h=> .inl h,λ _ _=> .inr rfl,hst2.os,hst2.tape,hst2.output⟩
    refine wp_mono (h2 z hz A0 hA0 hk w' _ ρ a' ⟨?_,hi2.size,hi2.defers,λ t v hv=>?_⟩) λ _ _ _ hp=>Post.trans (hstA _) hp
    · refine hrel.after (hstA (λ _=>True)) _ hrel.dom (λ id B A1 hid=>?_) hrel.inj (λ b hb=>hb.elim (λ h=>oE (hrel.ro b h) hst2.size) (λ h=>hi2.rel.ro b h.2))
      obtain⟨h1,b,h2,h3,_⟩:=hrel.blk id B A1 hid
      have hbl:=hrel.owned_lt ⟨id,_,h2⟩
      exact⟨h1,.inl ⟨A1,b,hid,λ _ h=>h,λ _ _=>trivial,rfl,h2,hkeep b hbl,λ h=>h.elim h3 (λ h=>oO)⟩⟩
    · obtain⟨v',hv',h|h⟩:=h2L z φ t v hv
      · obtain⟨rfl,hl⟩:=h
        exact aQA (hi2.frm t _ hv') hl
      · obtain⟨rfl,hf⟩:=h
        have e:=gV (hi2.frm t _ hv')
        rw[e,hφ]
        exact(hi.frm t v hf).mono (λ _ h=> .inl h) (λ b hb=>hkeep b (hrel.ro b hb)) hst2.shape (λ _ h=>h) (λ _ _=> .inr rfl)
  | succ n ih=>
    intro p hch h2 k1 fr1 H1 w1 G1 ρ1 a1 hk1 hQ hi1 hst1
    rw[hch.1]
    refine wp_seq (wp_mono (hQ A0 hA0 hk1 w1 G1 ρ1 a1 hi1) λ e a' w' hp=>?_)
    obtain⟨G',ρ',k',fr',H',hQ',hk',hi',hst⟩:=hp
    have hst':=hst1.trans hst (λ _ h=>h)
    have hil:Inv Γ nt w' G' ρ' (jA A0 kb k') a' fr' H':=⟨less hi'.rel,hi'.size,hi'.defers,hi'.frm⟩
    cases e with
    |normal=>exact ih (1::p) hch.2 h2 k' fr' H' w' G' ρ' a' hk' hQ' hi' hst'
    |exit id=>exact⟨G',ρ',k',fr',H',hQ',hk',hil,hst'.lent⟩
    |goto l=>exact⟨G',ρ',k',fr',H',hQ',hk',hil,hst'.lent⟩
    |ret=>exact⟨G',ρ',k',fr',H',hQ',hk',hil,hst'.lent⟩
    |panic ch=>exact⟨G',ρ',k',fr',H',hQ',hk',hil,hst'.lent⟩
    |outgrown=>exact⟨G',ρ',k',fr',H',hQ',hk',hil,hst'.lent⟩
 exact key n p hc h2 k (frL φ) [] w _ bR a hk h1 hiB (jT _ _ _ _)
end
section
variable{P:Program}{Γ:List (Nat×List AVal)}{o:Oper}{ev:Operand->Option AVal}{get:Nat->Option Blk}{k:Nat}
theorem MK{x:Operand}{t B:Nat}{cells:List AVal}{out:Out}(ho:o.op= .load t x)(hx:ev x=some (.lit (.pointer (some ⟨B,0,none⟩))))(hB:look Γ B=some cells)(h:FJ P get k t (some (.rp cells))=some out):Good P Γ o ev get k out:=by
 have hg:Good P Γ o (λ _=>some (.rp cells)) get k out:=uY (by simp only[BV,ho];exact h);refine⟨λ w G ρ H A a hr hA hf hrd hop next Q hn=>hg.ok w G ρ H A a hr hA hf hrd (λ y hy v hv=>?_) next Q hn,hg.rds,hg.le⟩;cases hv;have e:y=x:=by simpa [ho,Op.operands]using hy
 subst e;have e:=gV (hop y hy _ hx);rw[e];exact(hr.glob B cells hB).1.mono (λ _ h=>h) (λ _ _=>rfl) (λ _ _=>rfl) (λ _ h=>h.elim) (λ _ h=>h.elim)
end
section
variable{P:Program}{Γ:List (Nat×List AVal)}{nt kb:Nat}{Q:AQ}{k:Nat}{fr:Fr}{H:aS}{c:Code}{p:List Nat}
theorem Bor.agg {Hc:aS}{cs cs':List AVal}(hl:cs.length=cs'.length)(h:∀(j:Nat) v v',cs[j]? =some v->cs'[j]? =some v'->Bor Γ Hc v v'):Bor Γ Hc (.agg cs) (.agg cs'):=λ w G ρ H A cv hr hh hv=>by
 cases hv with
 |agg h1 h2=>
  refine .agg oO λ j u hj=>?_;have hlt:j<cs.length:=by have:=(aG.1 hj).1;omega
  exact h j _ u (aE hlt) hj w G ρ H A _ hr hh (h2 j _ (aE hlt))
theorem Bor.tup {Hc:aS}{cs cs':List AVal}(hl:cs.length=cs'.length)(h:∀(j:Nat) v v',cs[j]? =some v->cs'[j]? =some v'->Bor Γ Hc v v'):Bor Γ Hc (.tup cs) (.tup cs'):=λ w G ρ H A cv hr hh hv=>by
 cases hv with
 |tup h1 h2=>
  refine .tup oO λ j u hj=>?_;have hlt:j<cs.length:=by have:=(aG.1 hj).1;omega
  exact h j _ u (aE hlt) hj w G ρ H A _ hr hh (h2 j _ (aE hlt))
theorem a5M{B:Nat->Fr->aS->Prop}{n:Nat}(h:W P Γ nt kb (fR c (0::p)) (pL (WB P Γ nt kb c B Q n (1::p)) Q) k fr H):WB P Γ nt kb c B Q (n+1) p k fr H:=h
theorem a5N{B:Nat->Fr->aS->Prop}(h:B k fr H):WB P Γ nt kb c B Q 0 p k fr H:=h
end
end Go.AM
end
section
namespace Go.Proofs.T
open Go Go.AM Go.Proofs
variable{Γ:List (Nat×List AVal)}
structure OwnSt (Hc:aS) (b n:Nat) (t:St):Prop where
 nk:t.nk=n
 nu:t.nu=n
 sp:∀g,g<t.ns->t.nsp g=n
 l1:AM.look Hc (b+16)=some ⟨2,true,gN t.ng t.par t.wt⟩
 l2:AM.look Hc (b+17)=some ⟨1,true,fM n t.clk⟩
 l3:AM.look Hc (b+18)=some ⟨1,true,fM n t.cur⟩
 l4:AM.look Hc (b+19)=some ⟨8,true,(mP t).map tR⟩
 l5:AM.look Hc (b+20)=some ⟨1,false,zJ (b+21) t.ns n t.ns⟩
 l6:∀g,g<t.ns->AM.look Hc (b+21+g)=some ⟨3,true,kI n (t.sp g)⟩
def sH(b n:Nat)(t:St):List AVal:=[.lit (.int .i64 t.cpus),.lit (.int .u64 t.credit),.sl (b+16) 0 t.ng,.sl (b+17) 0 n,.sl (b+18) 0 n,.sl (b+19) 0 t.nt,.sl (b+20) 0 t.ns]
theorem aNB{t:St}{i:Nat}(h:i<t.nt):((mP t).map tR)[i]? =some (tf t i):=by rw[WA];simp[h]
theorem aFN{Hc:aS}{b n:Nat}{t:St}(h:OwnSt Hc b n t):∀(j:Nat) v v',(sH b n t)[j]? =some v->t.cells[j]? =some v'->Bor Γ Hc v v':=by
 have b2:Bor Γ Hc (.sl (b+16) 0 t.ng) (.rd 2 t.ng (gf t)):=wG h.l1 (by rw[nU];exact aF _) (λ i _=>rfl) λ i hi=>⟨_,wT hi,qF rfl⟩;have b3:Bor Γ Hc (.sl (b+17) 0 n) (.rd 1 n (kf t)):=wG h.l2 (by rw[lF];exact aF _) (λ i _=>rfl) λ i hi=>⟨_,tW hi,qF rfl⟩;have b4:Bor Γ Hc (.sl (b+18) 0 n) (.rd 1 n (uf t)):=wG h.l3 (by rw[lF];exact aF _) (λ i _=>rfl) λ i hi=>⟨_,tW hi,qF rfl⟩;have b5:Bor Γ Hc (.sl (b+19) 0 t.nt) (.rd 8 t.nt (tf t)):=wG h.l4 (by rw[bP,JE];exact aF _) (λ i _=>rfl) λ i hi=>⟨_,aNB hi,qF rfl⟩
 have b6:Bor Γ Hc (.sl (b+20) 0 t.ns) (.rd 1 t.ns (VU t)):=wG h.l5 (by rw[xM];simp) (λ i _=>rfl) λ i hi=>⟨_,aDP hi,λ j v v' h1 h2=>by
  match j with
  | 0=>
    simp only[iX,mB.injEq,VU]at h1 h2
    subst h1;subst h2
    rw[h.sp i hi]
    exact wG (h.l6 i hi) (by rw[nT];exact aF _) (λ c _=>rfl) λ c hc=>⟨_,tV hc,qF rfl⟩
  |j+1=>simp[VU]at h1⟩
 have e1:=h.nk;have e2:=h.nu;intro j v v' h1 h2
 match j with
 |0=>cases h1;cases h2;exact Bor.lit
 |1=>cases h1;cases h2;exact Bor.lit
 |2=>cases h1;cases h2;exact b2
 |3=>cases h1;cases h2;rw[e1];exact b3
 |4=>cases h1;cases h2;rw[e2];exact b4
 |5=>cases h1;cases h2;exact b5
 |6=>cases h1;cases h2;exact b6
 |j+7=>simp[sH]at h1
theorem aFP{Hc:aS}{b n:Nat}{t:St}(h:OwnSt Hc b n t):Bor Γ Hc (.agg (sH b n t)) (.agg t.cells):=Bor.agg rfl (aFN h)
theorem aWQ{Hc:aS}{b n id:Nat}{t:St}(h:OwnSt Hc b n t)(hid:AM.look Hc id=some ⟨7,false,[sH b n t]⟩):Bor Γ Hc (.ptr id 0 0) (.rp t.cells):=Bor.ptr hid rfl rfl (aFN h)
def oL(b n:Nat)(t:St):aS:=(b+16,⟨2,true,gN t.ng t.par t.wt⟩)::(b+17,⟨1,true,fM n t.clk⟩)::(b+18,⟨1,true,fM n t.cur⟩)::(b+19,⟨8,true,(mP t).map tR⟩)::(b+20,⟨1,false,zJ (b+21) t.ns n t.ns⟩)::mK (b+21) 3 t.ns (λ g=>kI n (t.sp g))
theorem LG{b n:Nat}{t:St}(e1:t.nk=n)(e2:t.nu=n)(e3:∀g,g<t.ns->t.nsp g=n):OwnSt (oL b n t) b n t where
 nk:=e1
 nu:=e2
 sp:=e3
 l1:=by simp only[oL,AM.look];repeat(first|rw[if_neg oO]|rw[if_pos trivial])
 l2:=by simp only[oL,AM.look];repeat(first|rw[if_neg oO]|rw[if_pos trivial])
 l3:=by simp only[oL,AM.look];repeat(first|rw[if_neg oO]|rw[if_pos trivial])
 l4:=by simp only[oL,AM.look];repeat(first|rw[if_neg oO]|rw[if_pos trivial])
 l5:=by simp only[oL,AM.look];repeat(first|rw[if_neg oO]|rw[if_pos trivial])
 l6 g hg:=by
  simp only[oL,AM.look];repeat rw[if_neg oO]
  exact uB hg
theorem OwnSt.two {Hc:aS}{b n i j:Nat}{A B:Blk}{t:St}(h:OwnSt Hc b n t)(hi:i<b+16)(hj:j<b+16):OwnSt ((i,A)::(j,B)::Hc) b n t where
 nk:=h.nk
 nu:=h.nu
 sp:=h.sp
 l1:=by simp only[AM.look];rw[if_neg oO,if_neg oO];exact h.l1
 l2:=by simp only[AM.look];rw[if_neg oO,if_neg oO];exact h.l2
 l3:=by simp only[AM.look];rw[if_neg oO,if_neg oO];exact h.l3
 l4:=by simp only[AM.look];rw[if_neg oO,if_neg oO];exact h.l4
 l5:=by simp only[AM.look];rw[if_neg oO,if_neg oO];exact h.l5
 l6 g hg:=by simp only[AM.look];rw[if_neg oO,if_neg oO];exact h.l6 g hg
attribute [local irreducible] gK del
theorem a7Q(n m:Nat)(hn:n<=100000)(hm:m<=100000)(f g:Nat->Int):AM.Pure aA Γ 114 [.rd 1 n (λ i=>[(f i)]),.rd 1 m (λ i=>[(g i)])] (wK n m (λ i=>f i==g i)):=by
 refine aZ Tryz.func114 rfl 26 rfl bB rfl λ k=>?_;obtain⟨E,eE⟩:∃E,E=wK n m (λ i=>f i==g i):=⟨_,rfl⟩;rw[<-eE];have kp:=fI k [0,1,4,5,10,12,13,14,24];refine wl ?_;refine dD ⟨λ ht=>zN ?_⟩ ⟨λ ht=>zN ?_⟩;.refine aX rfl ⟨_,rfl,aI ?_⟩;rw[eE,yN oO]
 refine bE (X:=Nat) rfl [0,1,4,5,10,12,13,14,24] k (λ i=>[(13,i)]) (λ i=>[]) (λ i=>i<=n/\∀j,j<i->(f j==g j)=true) (λ i=>n-i) 0 ?_ ⟨aJ _,λ j hj=>absurd hj (bJ _)⟩ ?_;.refine rR ?_;apply zN;exact fW
 rintro i ⟨hi,hall⟩;refine rR ?_;apply zN;refine wl ?_;refine wM ⟨λ ht ht=>zN ?_⟩ ⟨λ ht ht=>zN ?_⟩ ⟨λ ht=>zN ?_⟩;.refine aX rfl ⟨_,rfl,aI ?_⟩;rw[eE,yO (i:=i) oO (by first|(rw[dS];simp at ht⊢;omega)|(simpa using ht))]
 .refine⟨i+1,⟨oO,λ j hj=>?_⟩,oO,?_⟩
  .by_cases he:j=i;.subst he;first|(simp;omega)|(simpa using ht)
   exact hall j oO
  exact fW
 refine aX rfl ⟨_,rfl,aI ?_⟩;rw[eE,lR oO (λ j hj=>hall j oO)]
section
attribute [local go_sem] jM tR pR
theorem aRY(n m:Nat)(hn:n<=100000)(hm:m<=100000)(f g:Nat->Int×Int):AM.Pure aA Γ 128 [.rd 2 n (λ i=>jM (f i)),.rd 2 m (λ i=>jM (g i))] (wK n m (λ i=>cV (f i) (g i))):=by
 refine aZ Tryz.func128 rfl 26 rfl bB rfl λ k=>?_;obtain⟨E,eE⟩:∃E,E=wK n m (λ i=>cV (f i) (g i)):=⟨_,rfl⟩;rw[<-eE];have kp:=fI k [0,1,4,5,10,12,13,14,24];refine wl ?_;refine dD ⟨λ ht=>zN ?_⟩ ⟨λ ht=>zN ?_⟩;.refine aX rfl ⟨_,rfl,aI ?_⟩;rw[eE,yN oO]
 refine bE (X:=Nat) rfl [0,1,4,5,10,12,13,14,24] k (λ i=>[(13,i)]) (λ i=>[]) (λ i=>i<=n/\∀j,j<i->(cV (f j) (g j))=true) (λ i=>n-i) 0 ?_ ⟨aJ _,λ j hj=>absurd hj (bJ _)⟩ ?_;.refine rR ?_;apply zN;exact fW
 rintro i ⟨hi,hall⟩;refine rR ?_;apply zN;refine wl ?_;refine wM ⟨λ ht ht=>zN ?_⟩ ⟨λ ht ht=>zN ?_⟩ ⟨λ ht=>zN ?_⟩;.refine aX rfl ⟨_,rfl,aI ?_⟩;rw[eE,yO (i:=i) oO (by first|(rw[dS];simp[cV]at ht⊢;omega)|(simpa [cV]using ht))]
 .refine⟨i+1,⟨oO,λ j hj=>?_⟩,oO,?_⟩
  .by_cases he:j=i;.subst he;first|(simp[cV];omega)|(simpa [cV]using ht)
   exact hall j oO
  exact fW
 refine aX rfl ⟨_,rfl,aI ?_⟩;rw[eE,lR oO (λ j hj=>hall j oO)]
theorem a7O(n m:Nat)(hn:n<=100000)(hm:m<=100000)(f g:Nat->Tk):AM.Pure aA Γ 129 [.rd 8 n (λ i=>tR (f i)),.rd 8 m (λ i=>tR (g i))] (wK n m (λ i=>cT (f i) (g i))):=by
 refine aZ Tryz.func129 rfl 26 rfl bB rfl λ k=>?_;obtain⟨E,eE⟩:∃E,E=wK n m (λ i=>cT (f i) (g i)):=⟨_,rfl⟩;rw[<-eE];have kp:=fI k [0,1,4,5,10,12,13,14,24];refine wl ?_;refine dD ⟨λ ht=>zN ?_⟩ ⟨λ ht=>zN ?_⟩;.refine aX rfl ⟨_,rfl,aI ?_⟩;rw[eE,yN oO]
 refine bE (X:=Nat) rfl [0,1,4,5,10,12,13,14,24] k (λ i=>[(13,i)]) (λ i=>[]) (λ i=>i<=n/\∀j,j<i->(cT (f j) (g j))=true) (λ i=>n-i) 0 ?_ ⟨aJ _,λ j hj=>absurd hj (bJ _)⟩ ?_;.refine rR ?_;apply zN;exact fW
 rintro i ⟨hi,hall⟩;refine rR ?_;apply zN;refine wl ?_;refine wM ⟨λ ht ht=>zN ?_⟩ ⟨λ ht ht=>zN ?_⟩ ⟨λ ht=>zN ?_⟩;.refine aX rfl ⟨_,rfl,aI ?_⟩;rw[eE,yO (i:=i) oO (by first|(rw[dS];simp[cT]at ht⊢;omega)|(simpa [cT]using ht))]
 .refine⟨i+1,⟨oO,λ j hj=>?_⟩,oO,?_⟩
  .by_cases he:j=i;.subst he;first|(simp[cT];omega)|(simpa [cT]using ht)
   exact hall j oO
  exact fW
 refine aX rfl ⟨_,rfl,aI ?_⟩;rw[eE,lR oO (λ j hj=>hall j oO)]
theorem a7P(n m:Nat)(hn:n<=100000)(hm:m<=100000)(f g:Nat->Int×Int×Sp):AM.Pure aA Γ 130 [.rd 5 n (λ i=>pR (f i)),.rd 5 m (λ i=>pR (g i))] (wK n m (λ i=>cP (f i) (g i))):=by
 refine aZ Tryz.func130 rfl 26 rfl bB rfl λ k=>?_;obtain⟨E,eE⟩:∃E,E=wK n m (λ i=>cP (f i) (g i)):=⟨_,rfl⟩;rw[<-eE];have kp:=fI k [0,1,4,5,10,12,13,14,24];refine wl ?_;refine dD ⟨λ ht=>zN ?_⟩ ⟨λ ht=>zN ?_⟩;.refine aX rfl ⟨_,rfl,aI ?_⟩;rw[eE,yN oO]
 refine bE (X:=Nat) rfl [0,1,4,5,10,12,13,14,24] k (λ i=>[(13,i)]) (λ i=>[]) (λ i=>i<=n/\∀j,j<i->(cP (f j) (g j))=true) (λ i=>n-i) 0 ?_ ⟨aJ _,λ j hj=>absurd hj (bJ _)⟩ ?_;.refine rR ?_;apply zN;exact fW
 rintro i ⟨hi,hall⟩;refine rR ?_;apply zN;obtain⟨z,ez⟩:∃z,z=cP (f i) (g i):=⟨_,rfl⟩;refine bY rfl ?_;(refine gL rfl [0,1,4,5,10,12,13,14,24] rfl rfl (λ K hK=>?_));refine sT ?_;(refine hK _ _ _ _ (λ hx=>?_));clear hx hK;refine sT ?_;clear K;refine bY rfl ?_;refine gA rfl _ rfl (λ ht=>?_) (λ ht=>?_)
 .simp only[nf]at ht;refine fD rfl ?_;refine rR ?_;apply zN;refine bY rfl ?_;refine eZ rfl ?_;refine bY rfl ?_;(refine gL rfl [0,1,4,5,10,12,13,14,24] rfl rfl (λ K hK=>?_));refine sT ?_;(refine hK _ _ _ _ (λ hx=>?_));clear hx hK;refine sT ?_;clear K;refine bY rfl ?_;refine dl [.raw (some 24) ⟨.lit (.bool (!z)),k,[],[]⟩] ?_;refine dD (zs ?_) (zs ?_);.rw[ez];exact WZ rfl rfl rfl
  refine wl ?_;refine dD ⟨λ ht=>zN ?_⟩ ⟨λ ht=>zN ?_⟩;.refine aX rfl ⟨_,rfl,aI ?_⟩;rw[eE,yO (i:=i) oO (by rw[<-ez];simp_all)]
  refine⟨i+1,⟨oO,λ j hj=>?_⟩,oO,?_⟩
  .by_cases he:j=i;.subst he;rw[<-ez];simp_all
   exact hall j oO
  exact fW
 simp only[nf]at ht;refine jU rfl ?_;refine rR ?_;apply zN;refine wl ?_;refine aU (zs ?_);refine aX rfl ⟨_,rfl,aI ?_⟩;rw[eE,lR oO (λ j hj=>hall j oO)]
end
theorem a2X(d e:DE)(hd:d.size<=100000)(he:e.size<=100000):AM.Pure aA Γ 70 [.agg d.cells,.agg e.cells] (eqD d e):=by
 unfold DE.size at hd he;refine aZ Tryz.func70 rfl 45 rfl bB rfl λ k=>?_;obtain⟨E,eE⟩:∃E,E=eqD d e:=⟨_,rfl⟩;rw[<-eE];obtain⟨z0,h0⟩:∃z,z=wK d.n0 e.n0 (λ i=>cV (d.ck i) (e.ck i)):=⟨_,rfl⟩;obtain⟨z1,h1⟩:∃z,z=wK d.n1 e.n1 (λ i=>cV (d.cu i) (e.cu i)):=⟨_,rfl⟩;obtain⟨z2,h2⟩:∃z,z=wK d.n2 e.n2 (λ i=>cV (d.wg i) (e.wg i)):=⟨_,rfl⟩;obtain⟨z3,h3⟩:∃z,z=wK d.n3 e.n3 (λ i=>d.gn i==e.gn i):=⟨_,rfl⟩;obtain⟨z4,h4⟩:∃z,z=wK d.n4 e.n4 (λ i=>cT (d.tk i) (e.tk i)):=⟨_,rfl⟩;obtain⟨z5,h5⟩:∃z,z=wK d.n5 e.n5 (λ i=>cP (d.sp i) (e.sp i)):=⟨_,rfl⟩;rw[eqD,<-h0,<-h1,<-h2,<-h3,<-h4,<-h5]at eE;have kp:=fI k [0,1,2,3,4];refine wl ?_;refine aU (zs ?_);refine cl [.ret z0,.ret z1,.ret z2,.ret z3,.ret z4,.ret z5] ?_;refine a6E (zs ?_) ⟨⟨λ hg=>⟨?_⟩⟩⟩ ⟨⟨λ hg hg=>⟨?_⟩⟩⟩ ⟨⟨λ hg hg hg=>⟨?_⟩⟩⟩ ⟨⟨λ hg hg hg hg=>⟨?_⟩⟩⟩ ⟨⟨λ hg hg hg hg hg=>⟨?_⟩⟩⟩ ⟨⟨λ hg hg hg hg hg=>⟨?_⟩⟩⟩ ⟨⟨λ hg hg hg hg hg=>⟨?_⟩⟩⟩ ⟨⟨λ hg hg hg hg=>⟨?_⟩⟩⟩ ⟨⟨λ hg hg hg=>⟨?_⟩⟩⟩ ⟨⟨λ hg hg=>⟨?_⟩⟩⟩ ⟨⟨λ hg=>⟨?_⟩⟩⟩;all_goals(first|(rw[h0];exact aRY d.n0 e.n0 oO oO d.ck e.ck)|(rw[h1];exact aRY d.n1 e.n1 oO oO d.cu e.cu)|(rw[h2];exact aRY d.n2 e.n2 oO oO d.wg e.wg)|(rw[h3];exact a7Q d.n3 e.n3 oO oO d.gn e.gn)|(rw[h4];exact a7O d.n4 e.n4 oO oO d.tk e.tk)|(rw[h5];exact a7P d.n5 e.n5 oO oO d.sp e.sp)|skip)
 all_goals(refine aX rfl ⟨_,rfl,aI ?_⟩;rw[eE];simp_all)
theorem aQX(s b:St)(d e:DE)(e1:Int)(hA:AM.Pure aA Γ 22 [.agg s.cells,.agg d.cells] (.tup [.agg b.cells,e1]))(h1:¬e1=0):
 AM.Pure aA Γ 34 [.agg s.cells,.agg d.cells,.agg e.cells] (.tup [.agg [(),(),(),(),(),()],e1]):=by
 refine aZ Tryz.func34 rfl 36 rfl bB rfl λ k=>?_;have kp:=fI k [0,1,2,3,4,5,6,7,8,9,10,18,28];have uU:= @h1;refine wl ?_;refine aU (zs ?_);refine cl [.ret (.tup [.agg b.cells,e1])] ?_;refine dD (zs ?_) (zs ?_);all_goals(try exact hA)
 refine wl ?_;refine aU ⟨λ ht=>zN ?_⟩;have uU:= @h1;refine cR (zN ?_);exact aK _
theorem aQW(s b c:St)(d e:DE)(e2:Int)(hA:AM.Pure aA Γ 22 [.agg s.cells,.agg d.cells] (.tup [.agg b.cells,(0:Int)]))(hB:AM.Pure aA Γ 22 [.agg b.cells,.agg e.cells] (.tup [.agg c.cells,e2]))(h2:¬e2=0):
 AM.Pure aA Γ 34 [.agg s.cells,.agg d.cells,.agg e.cells] (.tup [.agg [(),(),(),(),(),()],e2]):=by
 refine aZ Tryz.func34 rfl 36 rfl bB rfl λ k=>?_;have kp:=fI k [0,1,2,3,4,5,6,7,8,9,10,18,28];have uU:= @h2;refine wl ?_;refine aU (zs ?_);refine cl [.ret (.tup [.agg b.cells,(0:Int)])] ?_;refine dD (zs ?_) (zs ?_);all_goals(try exact hA)
 refine wl ?_;refine aU ⟨λ ht=>zN ?_⟩;refine cl [.ret (.tup [.agg c.cells,e2])] ?_;refine dD (zs ?_) (zs ?_);all_goals(try exact hB)
 refine wl ?_;refine aU ⟨λ ht=>zN ?_⟩;have uU:= @h2;refine cR (zN ?_);exact aK _
theorem aQV(s b c:St)(d e f:DE)(e3:Int)(hA:AM.Pure aA Γ 22 [.agg s.cells,.agg d.cells] (.tup [.agg b.cells,(0:Int)]))(hB:AM.Pure aA Γ 22 [.agg b.cells,.agg e.cells] (.tup [.agg c.cells,(0:Int)]))
 (hC:AM.Pure aA Γ 21 [.agg s.cells,.agg c.cells] (.tup [.agg f.cells,e3])):
 AM.Pure aA Γ 34 [.agg s.cells,.agg d.cells,.agg e.cells] (.tup [.agg f.cells,e3]):=by
 refine aZ Tryz.func34 rfl 36 rfl bB rfl λ k=>?_;have kp:=fI k [0,1,2,3,4,5,6,7,8,9,10,18,28];refine wl ?_;refine aU (zs ?_);refine cl [.ret (.tup [.agg b.cells,(0:Int)])] ?_;refine dD (zs ?_) (zs ?_);all_goals(try exact hA)
 refine wl ?_;refine aU ⟨λ ht=>zN ?_⟩;refine cl [.ret (.tup [.agg c.cells,(0:Int)])] ?_;refine dD (zs ?_) (zs ?_);all_goals(try exact hB)
 refine wl ?_;refine aU ⟨λ ht=>zN ?_⟩;refine cl [.ret (.tup [.agg f.cells,e3])] ?_;refine dD (zs ?_) (zs ?_);all_goals(try exact hC)
 refine wl ?_;refine aU (zs ?_);refine cR (zN ?_);exact aK _
theorem aQU(s b:St)(d e:DE)(e1:Int)(hA:AM.Pure aA Γ 45 [.agg s.cells,.agg d.cells] (.tup [.agg b.cells,e1]))(h1:¬e1=0):
 AM.Pure aA Γ 46 [.agg s.cells,.agg d.cells,.agg e.cells] (.tup [.agg [(),(),(),(),(),()],e1]):=by
 refine aZ Tryz.func46 rfl 36 rfl bB rfl λ k=>?_;have kp:=fI k [0,1,2,3,4,5,6,7,8,9,10,18,28];have uU:= @h1;refine wl ?_;refine aU (zs ?_);refine cl [.ret (.tup [.agg b.cells,e1])] ?_;refine dD (zs ?_) (zs ?_);all_goals(try exact hA)
 refine wl ?_;refine aU ⟨λ ht=>zN ?_⟩;have uU:= @h1;refine cR (zN ?_);exact aK _
theorem aQT(s b c:St)(d e:DE)(e2:Int)(hA:AM.Pure aA Γ 45 [.agg s.cells,.agg d.cells] (.tup [.agg b.cells,(0:Int)]))(hB:AM.Pure aA Γ 45 [.agg b.cells,.agg e.cells] (.tup [.agg c.cells,e2]))(h2:¬e2=0):
 AM.Pure aA Γ 46 [.agg s.cells,.agg d.cells,.agg e.cells] (.tup [.agg [(),(),(),(),(),()],e2]):=by
 refine aZ Tryz.func46 rfl 36 rfl bB rfl λ k=>?_;have kp:=fI k [0,1,2,3,4,5,6,7,8,9,10,18,28];have uU:= @h2;refine wl ?_;refine aU (zs ?_);refine cl [.ret (.tup [.agg b.cells,(0:Int)])] ?_;refine dD (zs ?_) (zs ?_);all_goals(try exact hA)
 refine wl ?_;refine aU ⟨λ ht=>zN ?_⟩;refine cl [.ret (.tup [.agg c.cells,e2])] ?_;refine dD (zs ?_) (zs ?_);all_goals(try exact hB)
 refine wl ?_;refine aU ⟨λ ht=>zN ?_⟩;have uU:= @h2;refine cR (zN ?_);exact aK _
theorem aQS(s b c:St)(d e f:DE)(e3:Int)(hA:AM.Pure aA Γ 45 [.agg s.cells,.agg d.cells] (.tup [.agg b.cells,(0:Int)]))(hB:AM.Pure aA Γ 45 [.agg b.cells,.agg e.cells] (.tup [.agg c.cells,(0:Int)]))
 (hC:AM.Pure aA Γ 17 [.agg s.cells,.agg c.cells] (.tup [.agg f.cells,e3])):
 AM.Pure aA Γ 46 [.agg s.cells,.agg d.cells,.agg e.cells] (.tup [.agg f.cells,e3]):=by
 refine aZ Tryz.func46 rfl 36 rfl bB rfl λ k=>?_;have kp:=fI k [0,1,2,3,4,5,6,7,8,9,10,18,28];refine wl ?_;refine aU (zs ?_);refine cl [.ret (.tup [.agg b.cells,(0:Int)])] ?_;refine dD (zs ?_) (zs ?_);all_goals(try exact hA)
 refine wl ?_;refine aU ⟨λ ht=>zN ?_⟩;refine cl [.ret (.tup [.agg c.cells,(0:Int)])] ?_;refine dD (zs ?_) (zs ?_);all_goals(try exact hB)
 refine wl ?_;refine aU ⟨λ ht=>zN ?_⟩;refine cl [.ret (.tup [.agg f.cells,e3])] ?_;refine dD (zs ?_) (zs ?_);all_goals(try exact hC)
 refine wl ?_;refine aU (zs ?_);refine cR (zN ?_);exact aK _
def jnE(s:St)(d e:DE):Int:=if nP s d=0 then(if nP (jS s d) e=0 then vF s (jS (jS s d) e)else nP (jS s d) e)else nP s d
def jnD(s:St)(d e:DE):DE:=if nP s d=0/\nP (jS s d) e=0 then dOf (OF s (jS (jS s d) e))else dOf noDl
def zDc:List AVal:=[.lit (.slice none 0 0),.lit (.slice none 0 0),.lit (.slice none 0 0),.lit (.slice none 0 0),.lit (.slice none 0 0),.lit (.slice none 0 0)]
def zSc:List AVal:=[.lit (.int .i64 0),.lit (.int .u64 0),.lit (.slice none 0 0),.lit (.slice none 0 0),.lit (.slice none 0 0),.lit (.slice none 0 0),.lit (.slice none 0 0)]
theorem UP{x:Int}:VLe (.tup [.agg zDc,x]) (.tup [.agg (dOf noDl).cells,x]):=
 nZ (.cons (oA (.cons kO (.cons kO (.cons kO (.cons kO (.cons kO (.cons kO .nil))))))) (.cons (aK _) .nil))
theorem KC{x:Int}:VLe (.tup [.agg zSc,x]) (.tup [.agg zSt.cells,x]):=
 nZ (.cons (oA (.cons (aK _) (.cons (aK _) (.cons kO (.cons kO (.cons kO (.cons kO (.cons kO .nil)))))))) (.cons (aK _) .nil))
theorem a3Y(s:St)(d e:DE)(hA:AM.Pure aA Γ 22 [.agg s.cells,.agg d.cells] (.tup [.agg (jS s d).cells,(nP s d)]))
 (hB:nP s d=0->AM.Pure aA Γ 22 [.agg (jS s d).cells,.agg e.cells] (.tup [.agg (jS (jS s d) e).cells,(nP (jS s d) e)]))
 (hC:nP s d=0->nP (jS s d) e=0->AM.Pure aA Γ 21 [.agg s.cells,.agg (jS (jS s d) e).cells] (.tup [.agg (dOf (OF s (jS (jS s d) e))).cells,(vF s (jS (jS s d) e))])):
 AM.Pure aA Γ 34 [.agg s.cells,.agg d.cells,.agg e.cells] (.tup [.agg (jnD s d e).cells,(jnE s d e)]):=by
 by_cases h1:nP s d=0
 .have hB:=hB h1;by_cases h2:nP (jS s d) e=0;.have hC:=hC h1 h2;rw[jnD,if_pos ⟨h1,h2⟩,jnE,if_pos h1,if_pos h2];rw[h1]at hA;rw[h2]at hB;exact aQV s _ _ d e _ _ hA hB hC
  rw[jnD,if_neg (λ h=>h2 h.2),jnE,if_pos h1,if_neg h2];rw[h1]at hA;exact nS (aQW s _ _ d e _ hA hB h2) UP
 rw[jnD,if_neg (λ h=>h1 h.1),jnE,if_neg h1];exact nS (aQX s _ d e _ hA h1) UP
theorem a3X(s:St)(d e:DE)(hA:AM.Pure aA Γ 45 [.agg s.cells,.agg d.cells] (.tup [.agg (jS s d).cells,(nP s d)]))
 (hB:nP s d=0->AM.Pure aA Γ 45 [.agg (jS s d).cells,.agg e.cells] (.tup [.agg (jS (jS s d) e).cells,(nP (jS s d) e)]))
 (hC:nP s d=0->nP (jS s d) e=0->AM.Pure aA Γ 17 [.agg s.cells,.agg (jS (jS s d) e).cells] (.tup [.agg (dOf (OF s (jS (jS s d) e))).cells,(vF s (jS (jS s d) e))])):
 AM.Pure aA Γ 46 [.agg s.cells,.agg d.cells,.agg e.cells] (.tup [.agg (jnD s d e).cells,(jnE s d e)]):=by
 by_cases h1:nP s d=0
 .have hB:=hB h1;by_cases h2:nP (jS s d) e=0;.have hC:=hC h1 h2;rw[jnD,if_pos ⟨h1,h2⟩,jnE,if_pos h1,if_pos h2];rw[h1]at hA;rw[h2]at hB;exact aQS s _ _ d e _ _ hA hB hC
  rw[jnD,if_neg (λ h=>h2 h.2),jnE,if_pos h1,if_neg h2];rw[h1]at hA;exact nS (aQT s _ _ d e _ hA hB h2) UP
 rw[jnD,if_neg (λ h=>h1 h.1),jnE,if_neg h1];exact nS (aQU s _ d e _ hA h1) UP
theorem aFD(s:St)(d:DE):mP (zG s d)=mkT s d:=EG
theorem RY(s:St)(d:DE)(hrt:bW s=[])(hp:PreW s)(hr:DRng d)(hd:d.size<=60)(h2:s.nt+d.n4<=200)(z:Bool)(ez:z= !(zD s d))(k:Nat)(Q:AQ)
 (hrest:AM.W aA Γ 131 k (fR (dZ Tryz.f22) [1,1,0,1,1,1,1,1,1,1,1,1,1]) Q (k+3+(20+s.ns)+1) [(128,z),(4,.ptr (k+2) 0 0),(5,(0:Int)),(6,.ptr (k+3) 0 0)] ((k+3,⟨7,false,[sH k s.nk (zG s d)]⟩)::(k+2,⟨7,true,[[(0:Int),.lit (.int .u64 0),(),(),(),(),()]]⟩)::oL k s.nk (zG s d))):
 AM.W aA Γ 131 k (fR (dZ Tryz.f22) [0,1,1,1,1,1,1,1,1,1,1]) Q (k+3+(20+s.ns)+1) [(2,.rp s.cells),(3,.rp d.cells),(4,.ptr (k+2) 0 0),(5,(0:Int)),(6,.ptr (k+3) 0 0)] ((k+3,⟨7,false,[sH k s.nk (zG s d)]⟩)::(k+2,⟨7,true,[[(0:Int),.lit (.int .u64 0),(),(),(),(),()]]⟩)::oL k s.nk (zG s d)):=by
 obtain⟨hrc,_⟩:=vQ hrt;have hpB:=aHL hp hr h2;have hown:=(LG (b:=k) (n:=s.nk) (t:=zG s d) rfl hrc.1 (λ g hg=>hrc.2 g hg)).two (i:=k+3) (j:=k+2) (A:=⟨7,false,[sH k s.nk (zG s d)]⟩) (B:=⟨7,true,[[(0:Int),.lit (.int .u64 0),(),(),(),(),()]]⟩) oO oO;obtain⟨t,et⟩:∃t,t=zG s d:=⟨_,rfl⟩;obtain⟨X,eX⟩:∃X,X=dOf (OF s t):=⟨_,rfl⟩;obtain⟨E,eE⟩:∃E,E=vF s t:=⟨_,rfl⟩;have hX:X.size<=20000:=by rw[eX,et];exact ZK hp.pre hpB.pre hp.sm.nk
 have hz:z= !(decide (E=0)&&eqD X d):=by rw[ez,zD,eX,eE,et]
 rw[<-et]at hown hpB hrest⊢
 obtain⟨kx,ekx⟩:∃x,x=k+3+(20+s.ns)+1:=⟨_,rfl⟩;rw[<-ekx]at hrest⊢
 refine aUR 2 ⟨rfl,rfl,trivial⟩ (Z:=Unit) (λ _=>True) 6 (k+3) t.cells (λ φ=>[(2,.rp s.cells),(3,.rp d.cells),(4,.lit (φ 4)),(5,(0:Int)),(6,.lit (φ 6))]) (λ _=>[(128,z),(4,.ptr (k+2) 0 0),(5,(0:Int)),(6,.ptr (k+3) 0 0)]) (λ _ φ=>[(128,z),(4,.lit (φ 4)),(5,(0:Int)),(6,.lit (φ 6))]) rfl ?_ ?_ ?_ ?_ ?_ ?_;.simp only[AM.look];rfl
 .exact aWQ hown (by simp only[AM.look];rfl)
 .intro φ t' v' h;simp only[AM.look]at h;repeat' split at h
  .rename_i e;subst e;cases h;exact .inl ⟨_,rfl,oY rfl⟩
  .rename_i e;subst e;cases h;exact .inl ⟨_,rfl,oY rfl⟩
  .rename_i e;subst e;cases h;exact .inr rfl
  .rename_i e;subst e;cases h;exact .inl ⟨_,rfl,oY rfl⟩
  .rename_i e;subst e;cases h;exact .inr rfl
  cases h
 .intro z' φ t' v' h;simp only[AM.look]at h;repeat' split at h
  .rename_i e;subst e;cases h;exact⟨_,rfl,.inl ⟨rfl,rfl⟩⟩
  .rename_i e;subst e;cases h;exact⟨_,rfl,.inr ⟨rfl,rfl⟩⟩
  .rename_i e;subst e;cases h;exact⟨_,rfl,.inl ⟨rfl,rfl⟩⟩
  .rename_i e;subst e;cases h;exact⟨_,rfl,.inr ⟨rfl,rfl⟩⟩
  cases h
 .intro φ B x hφ;have hbt:=RS (Γ:=(B,t.cells++eI x .junk)::Γ) s t hp.pre hpB.pre hp.k hpB.k;have hsm:=a2X (Γ:=(B,t.cells++eI x .junk)::Γ) X d oO oO;rw[<-eX,<-eE]at hbt;obtain⟨y,ey⟩:∃y,y=eqD X d:=⟨_,rfl⟩;rw[<-ey]at hsm hz;simp only[hφ];refine a5M ?_;have kp:=fI k [0,1,2,3,4,5,6,8,10,11,12,15,30,31,32,33,47,73,74,75,76,102,128];refine lU [.raw (some 117) ⟨.agg t.cells,kx,[],[]⟩,.ret (.tup [.agg X.cells,E])] ?_;refine wM (zs ?_) (zs ?_) (zs ?_);.exact MK rfl rfl (by simp only[AM.look];rfl) rfl
  all_goals(try exact hbt)
  refine a5M ?_;by_cases h0:E=0
  .have hz':z= !y:=by rw[hz,decide_eq_true h0,kQ]
   subst h0;refine lU [.ret y] ?_;refine wM ⟨⟨λ hg=>⟨?_⟩⟩⟩ ⟨⟨λ hg=>⟨?_⟩⟩⟩ ⟨⟨λ hg=>⟨?_⟩⟩⟩;all_goals(try exact hsm)
   all_goals(try exact absurd trivial ‹¬True›)
   refine a5N ⟨(),kx+1,?_⟩;rw[hz'];exact fH
  have hz':z=true:=by rw[hz,decide_eq_false h0,kD];rfl
  have uU:= @h0;refine lU [] ?_;refine aU ⟨⟨λ hg=>⟨?_⟩⟩⟩;refine a5N ⟨(),kx+1,?_⟩;rw[hz'];exact fH
 intro _ _;exact hrest
theorem Bor.le {Hc:aS}{v u v':AVal}(h:Bor Γ Hc v u)(hl:VLe u v'):Bor Γ Hc v v':=λ w G ρ H A cv hr hh hv=>hl _ _ _ _ _ (h w G ρ H A cv hr hh hv)
theorem aTP{Hc:aS}{x:Value}:Bor Γ Hc (.tup [.agg zSc,.lit x]) (.tup [.agg zSc,.lit x]):=Bor.tup rfl λ j v v' h1 h2=>by
 rw[h1]at h2;cases h2
 match j with
 |0=>cases h1;exact Bor.agg rfl (qF rfl)
 |1=>cases h1;exact Bor.lit
 |j+2=>simp at h1
theorem RW(s:St)(d:DE)(hrt:bW s=[])(hp:PreW s)(hr:DRng d)(hd:d.size<=60)(h2:s.nt+d.n4<=200)(hright:AM.Pure aA Γ 24 [.agg s.cells] true)(hok:zD s d=true)(k:Nat):
 AM.Tr aA Γ 22 k [.agg s.cells,.agg d.cells] [] (λ k1 r1 H1=>k1=k+(24+s.ns)/\r1= .tup [.agg (sH k s.nk (zG s d)),(0:Int)]/\H1=oL k s.nk (zG s d)):=by
 obtain⟨hrc,q1,q2,q3,q4,q5⟩:=vQ hrt;have hnt:=hp.nt;obtain⟨RH,eRH⟩:∃x:aS,x=oL k s.nk (zG s d):=⟨_,rfl⟩;obtain⟨RV,eRV⟩:∃x:AVal,x= .tup [.agg (sH k s.nk (zG s d)),.lit (.int .i64 0)]:=⟨_,rfl⟩;refine Tr.mono (AU (kk:=k+(24+s.ns)) (V:=RV) (RH:=RH) oO ?_ ?_ ?_) (λ _ _ _ h=>⟨h.1,h.2.1.trans eRV,h.2.2.trans eRH⟩);.rw[eRV];unfold sH;simp-dsimp-implicitDefEqProofs (disch:=omega)only[go_sem,iN,nq5,ltB_iff,aH,eq_self,↓reduceIte];try(simp only[aC,dTt];omega)
 .have hf:=FD (s:=3) (R:=λ g=>kI s.nk ((zG s d).sp g)) (show k+21+(zG s d).ns<=k+(24+s.ns)by show k+21+s.ns<=_;omega);have ho:((zJ (k+21) (zG s d).ns s.nk (zG s d).ns).all λ row=>row.all (iC (kW (k+(24+s.ns)))))=true:=EZ (by show k+21+s.ns<=_;omega);rw[eRH];unfold oL;simp only[rG]at hf;simp only[rG,hY,hf,ho,kW,yV,FW,qO,aC,dTt];repeat'(first|(refine And.intro ?_ ?_)|omega|trivial)
 obtain⟨POST,ePOST⟩:∃P:Nat->AVal->aS->Prop,P=λ _ r1 H1=>r1=RV/\OO H1 RH:=⟨_,rfl⟩;rw[<-ePOST];refine RX s s.nk d oO q1 oO rfl hrc.1 (λ g hg=>hrc.2 g hg) q3 oO oO oO oO hright k _ ?_;suffices h:AM.W aA Γ 131 k (fR (dZ Tryz.f22) [1,1,1,1,1,1,1,1,1,1]) (yD aA Tryz.f22 POST) (k+3+(20+s.ns)+1) [(2,.rp s.cells),(3,.rp d.cells),(4,.ptr (k+2) 0 0),(5,(0:Int)),(6,.ptr (k+3) 0 0)] ((k+3,⟨7,false,[sH k s.nk (zG s d)]⟩)::(k+2,⟨7,true,[[(0:Int),.lit (.int .u64 0),(),(),(),(),()]]⟩)::oL k s.nk (zG s d))by have e:=aFD s d;unfold oL at h;rw[e]at h;exact h
 refine bY rfl ?_;refine RY s d hrt hp hr hd h2 false (by rw[hok];rfl) k _ ?_;obtain⟨OC,eOC⟩:∃c,c=sH k s.nk (zG s d):=⟨_,rfl⟩;obtain⟨OH',eOH⟩:∃h,h=oL k s.nk (zG s d):=⟨_,rfl⟩;rw[<-eOC,<-eOH];have hOl:OC.length=7:=by rw[eOC];rfl
 have hO1:OC.all AM.one=true:=by rw[eOC];rfl
 have hOc:OC.all clean=false:=by rw[eOC];rfl
 have hOt:OC.take 7=OC:=by rw[eOC];rfl
 have kp:=fI k [0,1,2,3,4,5,6,8,10,11,12,15,30,31,32,33,47,73,74,75,76,102,128];have uU:=DP @hOl @hO1 @hOc @hOt;refine bS ?_;refine aU ⟨λ ht=>zN ?_⟩;refine aX rfl ?_;refine cQ ?_;apply zN;refine⟨_,rfl,?_⟩;rw[ePOST];refine⟨?_,?_⟩;.rw[eRV,eOC]
 rw[eRH,eOH];unfold oL;exact cQ iH
theorem aTZ(s:St)(d:DE)(hrt:bW s=[])(hp:PreW s)(hr:DRng d)(hd:d.size<=60)(h2:s.nt+d.n4<=200)(hright:AM.Pure aA Γ 24 [.agg s.cells] true)(hno:zD s d=false)(k:Nat):
 AM.Tr aA Γ 22 k [.agg s.cells,.agg d.cells] [] (λ _ r1 H1=>Bor Γ H1 r1 (.tup [.agg zSt.cells,(352:Int)])):=by
 obtain⟨hrc,q1,q2,q3,q4,q5⟩:=vQ hrt;have hnt:=hp.nt;obtain⟨POST,ePOST⟩:∃P:Nat->AVal->aS->Prop,P=λ _ r1 H1=>Bor Γ H1 r1 (.tup [.agg zSt.cells,.lit (.int .i64 352)]):=⟨_,rfl⟩;rw[<-ePOST];refine RX s s.nk d oO q1 oO rfl hrc.1 (λ g hg=>hrc.2 g hg) q3 oO oO oO oO hright k _ ?_;suffices h:AM.W aA Γ 131 k (fR (dZ Tryz.f22) [1,1,1,1,1,1,1,1,1,1]) (yD aA Tryz.f22 POST) (k+3+(20+s.ns)+1) [(2,.rp s.cells),(3,.rp d.cells),(4,.ptr (k+2) 0 0),(5,(0:Int)),(6,.ptr (k+3) 0 0)] ((k+3,⟨7,false,[sH k s.nk (zG s d)]⟩)::(k+2,⟨7,true,[[(0:Int),.lit (.int .u64 0),(),(),(),(),()]]⟩)::oL k s.nk (zG s d))by have e:=aFD s d;unfold oL at h;rw[e]at h;exact h
 refine bY rfl ?_;refine RY s d hrt hp hr hd h2 true (by rw[hno];rfl) k _ ?_;obtain⟨OC,eOC⟩:∃c,c=sH k s.nk (zG s d):=⟨_,rfl⟩;obtain⟨OH',eOH⟩:∃h,h=oL k s.nk (zG s d):=⟨_,rfl⟩;rw[<-eOC,<-eOH];have hOl:OC.length=7:=by rw[eOC];rfl
 have hO1:OC.all AM.one=true:=by rw[eOC];rfl
 have hOc:OC.all clean=false:=by rw[eOC];rfl
 have hOt:OC.take 7=OC:=by rw[eOC];rfl
 have kp:=fI k [0,1,2,3,4,5,6,8,10,11,12,15,30,31,32,33,47,73,74,75,76,102,128];have uU:=DP @hOl @hO1 @hOc @hOt;refine bS ?_;refine aU ⟨λ ht=>zN ?_⟩;refine aX rfl ?_;refine cQ ?_;apply zN;refine⟨_,rfl,?_⟩;rw[ePOST];exact Bor.le aTP KC
theorem aLP(s:St)(d:DE)(hright:AM.Pure aA Γ 24 [.agg s.cells] false):
 AM.Pure aA Γ 22 [.agg s.cells,.agg d.cells] (.tup [.agg zSt.cells,(350:Int)]):=by
 refine nS ?_ KC;refine aZ Tryz.func22 rfl 131 rfl bB rfl λ k=>?_;have kp:=fI k [0,1,2,3,4,5,6,8,10,11,12,15,30,31,32,33,47,73,74,75,76,102,128];refine bS ?_;refine aU (zs ?_);refine lU [.ret false] ?_;refine dD (zs ?_) (zs ?_);all_goals(try exact hright)
 refine bS ?_;refine aU ⟨λ ht=>zN ?_⟩;refine IZ (zN ?_);exact aK _
theorem a0B(s:St)(hn:Nrm s)(hp:PreW s)(hright:AM.Pure aA Γ 24 [.agg s.cells] (.lit (.bool (bW s).isEmpty)))(d:DE)(hr:DRng d)(hd:d.size<=60)(h2:s.nt+d.n4<=200):
 AM.Pure aA Γ 22 [.agg s.cells,.agg d.cells] (.tup [.agg (jS s d).cells,(nP s d)]):=by
 by_cases hrt:bW s=[]
 .rw[emp_iff.2 hrt]at hright
  cases hok:zD s d with
  |true=>
   obtain⟨e1,e2⟩:=AT hrt (apOkB_iff.1 hok);obtain⟨hrc,_⟩:=vQ hrt;rw[e1,e2];refine AV λ k=>(RW s d hrt hp hr hd h2 hright hok k).mono ?_;rintro k1 r1 H1 ⟨_,rfl,rfl⟩;refine Bor.tup rfl λ j v v' h1 h2=>?_
   match j with
   |0=>cases h1;cases h2;exact aFP (LG rfl hrc.1 (λ g hg=>hrc.2 g hg))
   |1=>cases h1;cases h2;exact Bor.lit
   |j+2=>simp at h1
  |false=>obtain⟨e1,e2⟩:=BU hrt (λ h=>by have:=apOkB_iff.2 h;rw[hok]at this;cases this);rw[e1,e2];exact AV λ k=>aTZ s d hrt hp hr hd h2 hright hok k
 obtain⟨e1,e2⟩:=FF (d:=d) hrt;rw[e1,e2];have e3:(bW s).isEmpty=false:=by rw[dS];exact λ h=>hrt (emp_iff.1 h)
 rw[e3]at hright;exact aLP s d hright
theorem aRU(s:St)(hnt:s.nt<=1000)(x:Int):AM.Pure aA Γ 182 [.agg s.cells,x] (xF (λ i=>decide ((s.tsk i).id=x)) s.nt):=by
 obtain⟨z,ez⟩:∃z,z=xF (λ i=>decide ((s.tsk i).id=x)) s.nt:=⟨_,rfl⟩;rw[<-ez];refine aZ Tryz.func182 rfl 22 rfl bB rfl λ k=>?_;have kp:=fI k [0,1,2,4,5,10,20];refine bS ?_;refine aU (zs ?_);refine bE (X:=Nat) rfl [0,1,2,4,5,10,20] (k+1) (λ i=>[(5,i)]) (λ i=>[(k,⟨7,true,[s.cells]⟩)]) (λ i=>i<=s.nt/\∀j,j<i->¬(s.tsk j).id=x) (λ i=>s.nt-i) 0 ?_ ⟨aJ _,λ j hj=>absurd hj (bJ _)⟩ ?_;.refine cQ ?_;apply zN;exact fH
 rintro i ⟨hi,hall⟩;have hall':∀j,j<i->decide ((s.tsk j).id=x)=false:=λ j hj=>decide_eq_false (hall j hj);by_cases hlt:i<s.nt
 .obtain⟨y,ey⟩:∃y,y=(s.tsk i).id:=⟨_,rfl⟩;have ey':=ey.symm;by_cases he:y=x
  .subst he;have hz:z=(i:Int):=by rw[ez,xF,vU hall' (decide_eq_true ey.symm) hlt]
   have uU:=zA @hlt @ey';refine cQ ?_;apply zN;refine bS ?_;refine aU ⟨λ ht ht=>zN ?_⟩;refine aX rfl ⟨_,rfl,aI ?_⟩;rw[hz]
  have he':¬y=x:=he;have uU:=AW @hlt @ey' @he';refine cQ ?_;apply zN;refine bS ?_;refine aU ⟨λ ht ht=>zN ?_⟩;refine⟨i+1,⟨oO,λ j hj=>?_⟩,oO,?_⟩
  .by_cases hj2:j=i;.rw[hj2,<-ey];exact he
   exact hall j oO
  rw[(oO:((i+1:Nat):Int)=(i:Int)+1)];exact fH
 have hin:i=s.nt:=oO;have hz:z= -1:=by rw[ez,xF,sU (by rw[<-hin];exact hall')]
 have hnlt:¬(i:Int)<(s.nt:Int):=oO;have uU:= @hnlt;refine cQ ?_;apply zN;refine bS ?_;refine aU ⟨λ ht=>zN ?_⟩;refine aX rfl ⟨_,rfl,aI ?_⟩;rw[hz]
def VA(x y:Mem):Bool:=if x.v=y.v then(if x.a=y.a then decide (x.b<y.b)else decide (x.a<y.a))else decide (x.v<y.v)
theorem aTV(x y:Mem):AM.Pure aA Γ 238 [.agg x.row,.agg y.row] (VA x y):=by
 unfold VA Mem.row;by_cases h1:x.v=y.v
 .by_cases h2:x.a=y.a;.rw[if_pos h1,if_pos h2];refine aZ Tryz.func238 rfl 30 rfl bB rfl λ k=>?_;have kp:=fI k [0,1,2,3,4,9,19];have uU:=zA @h1 @h2;refine bS ?_;refine aU ⟨λ ht ht=>zN ?_⟩;refine aX rfl ⟨_,rfl,aI ?_⟩;rfl
  rw[if_pos h1,if_neg h2];refine aZ Tryz.func238 rfl 30 rfl bB rfl λ k=>?_;have kp:=fI k [0,1,2,3,4,9,19];have uU:=zA @h1 @h2;refine bS ?_;refine aU ⟨λ ht ht=>zN ?_⟩;refine aX rfl ⟨_,rfl,aI ?_⟩;rfl
 rw[if_neg h1];refine aZ Tryz.func238 rfl 30 rfl bB rfl λ k=>?_;have kp:=fI k [0,1,2,3,4,9,19];have uU:= @h1;refine bS ?_;refine aU ⟨λ ht=>zN ?_⟩;refine aX rfl ⟨_,rfl,aI ?_⟩;rfl
theorem a5E{x y:Mem}(h:VA x y=true):x.v<=y.v:=by
 unfold VA at h;split at h;.omega
 simp only[dTt]at h;omega
theorem aZV{x y:Mem}(h:VA x y=false):y.v<=x.v:=by
 unfold VA at h;split at h;.omega
 simp only[dFn]at h;omega
def OG:Mem:=⟨0,0,0⟩
def lsI(l:List Mem):Nat->Mem
 |0=>l.getD 0 OG
 |i+1=>if VA (l.getD (i+1) OG) (lsI l i)=true then l.getD (i+1) OG else lsI l i
theorem aPW(l:List Mem):∀i j,j<=i->(lsI l i).v<=(l.getD j OG).v
 |0,j,h=>by obtain rfl:j=0:=oO
            exact fA _
 |i+1,j,h=>by
  rw[lsI];have ih:=aPW l i;by_cases hj:j=i+1
  .subst hj;split;.exact fA _
   rename_i hb;exact aZV (by simpa using hb)
  have:=ih j oO;split;.rename_i hb;have:=a5E hb;omega
  exact this
theorem aGD(l:List Mem):∀i,i<l.length->∃j,j<=i/\lsI l i=l.getD j OG
 |0,_=>⟨0,aF _,rfl⟩
 |i+1,h=>by
  rw[lsI];split;.exact⟨i+1,aF _,rfl⟩
  obtain⟨j,h1,h2⟩:=aGD l i oO;exact⟨j,oO,h2⟩
theorem aXK(l:List Mem)(h0:0<l.length)(hl:l.length<=100000):AM.Pure aA Γ 184 [rows 3 (l.map Mem.row)] (.agg (lsI l (l.length-1)).row):=by
 obtain⟨n,en⟩:∃n,n=l.length:=⟨_,rfl⟩;have hrows:∀i,i<n->(l.map Mem.row).getD i []=(l.getD i OG).row:=λ i hi=>by rw[bD,aQ,aE oO,bD,aE oO];rfl
 rw[rows,bP,<-en];obtain⟨f,ef⟩:∃f:Nat->List AVal,f=λ i=>(l.map Mem.row).getD i []:=⟨_,rfl⟩;rw[<-ef];have hf0:f 0=(lsI l 0).row:=by rw[ef];exact hrows 0 oO
 obtain⟨m0,em0⟩:∃m,m=lsI l 0:=⟨_,rfl⟩;rw[<-em0]at hf0;have h0':0<n:=oO;simp only[Mem.row]at hf0;refine aZ Tryz.func184 rfl 25 rfl bB rfl λ k=>?_;have kp:=fI k [0,2,3,4,11,19];have uU:=zA @hf0 @h0';refine bS ?_;refine aU (zs ?_);refine bE (X:=Nat) rfl [0,2,3,4,11,19] (k+2) (λ i=>[(4,(i+1:Nat))]) (λ i=>[(k+1,⟨3,true,[(lsI l i).row]⟩),(k,⟨3,true,[[.lit (.int .u64 0),(0:Int),(0:Int)]]⟩)]) (λ i=>i+1<=n) (λ i=>n-i) 0 ?_ oO ?_;.rw[<-em0,show((0+1:Nat):Int)=1 from rfl];refine cQ ?_;apply zN;exact fH
 intro i hi;obtain⟨m,em⟩:∃m,m=lsI l i:=⟨_,rfl⟩;have hnx:lsI l (i+1)=if VA (l.getD (i+1) OG) m=true then l.getD (i+1) OG else m:=by rw[lsI,em]
 rw[<-em];obtain⟨j,ej⟩:∃j,j=i+1:=⟨_,rfl⟩;rw[<-ej]at hnx hi⊢
 have wj:aN.wrap ((j:Int)+1)=(j:Int)+1:=wrap_i64 oO oO;by_cases hlt:j<n
 .obtain⟨x,ex⟩:∃x,x=l.getD j OG:=⟨_,rfl⟩;have hfj:f j=x.row:=by rw[ef,ex];exact hrows j hlt
  rw[<-ex]at hnx;have hbc:=aTV (Γ:=Γ) x m;obtain⟨y,ey⟩:∃y,y=VA x m:=⟨_,rfl⟩;rw[<-ey]at hbc hnx;simp only[Mem.row]at hfj hbc;have uU:=AW @hlt @hfj @wj;refine cQ ?_;apply zN;refine bS ?_;refine aU ⟨λ ht=>zN ?_⟩;refine mN [.ret y] ?_;refine aU (zs ?_)
  cases y with
  |true=>rw[if_pos rfl]at hnx;refine bS ?_;refine aU ⟨λ ht=>zN ?_⟩;refine⟨i+1,oO,oO,?_⟩;rw[<-ej,hnx];exact fH
  |false=>rw[if_neg sS]at hnx;refine bS ?_;refine aU ⟨λ ht=>zN ?_⟩;refine⟨i+1,oO,oO,?_⟩;rw[<-ej,hnx];exact fH
 have hin:i=n-1:=oO;have hnlt:¬(j:Int)<(n:Int):=oO;rw[<-hin,<-em];have uU:= @hnlt;refine cQ ?_;apply zN;refine bS ?_;refine aU ⟨λ ht=>zN ?_⟩;have uU:= @hnlt;refine IZ (zN ?_);exact aK _
end Go.Proofs.T
end
section
namespace Go.Proofs.T
open Go Go.AM Go.Proofs
theorem flN{f:Nat->List Flt}:∀ {n:Nat},bF f n=[]↔∀i,i<n->f i=[]
 |0=>⟨λ _ i h=>absurd h (bJ _),λ _=>rfl⟩
 |n+1=>by
  rw[bF,vW,flN];constructor
  .rintro⟨h1,h2⟩ i hi;by_cases e:i=n;.subst e;exact h2
   exact h1 i oO
  intro h;exact⟨λ i hi=>h i oO,h n oO⟩
theorem MJ{b:Bool}{f:Flt}:gJ b f=[]↔b=false:=by cases b<;>simp[gJ]
theorem ifL{l m:List Flt}:(if 0<l.length then l else m)=[]↔l=[]/\m=[]:=by cases l<;>simp
theorem aZN{s:St}:bW s=[]↔gE s=true/\fZ s=[]/\jG s=[]/\nX s=[]:=by
 unfold bW;cases h:gE s;.simp
 rw[if_neg sS,ifL,ifL];simp
theorem shp_nil{s:St}:fZ s=[]↔(s.nk:Int)=s.cpus/\(s.nu:Int)=s.cpus/\s.ns=s.ng/\∀g,g<s.ns->(s.nsp g:Int)=s.cpus:=by
 constructor;.intro h;exact shapes_nil (by rw[h];rfl)
 rintro⟨h1,h2,h3,h4⟩;unfold fZ;rw[if_neg (by simp[h1]),if_neg (by simp[h2]),if_neg (by simp[h3]),flN.2 (λ g hg=>by unfold gY;rw[if_pos (h4 g hg)])];rfl
def FZ(s:St)(i:Nat):Prop:=(0<i->(s.tsk (i-1)).id<(s.tsk i).id)/\1<=(s.tsk i).id/\(s.tsk i).id<=65535/\0<=(s.tsk i).group/\(s.tsk i).group<s.ng/\0<=(s.tsk i).cpu/\(s.tsk i).cpu<s.cpus/\r8 s i=false/\tA (s.tsk i).mask (s.tsk i).cpu.toNat=true/\yP (s.tsk i).v (s.tsk i).r (s.tsk i).weight=true
theorem tkOk_iff{s:St}{i:Nat}:FZ s i↔∀r:Nat,r<7->VZ s i ((r:Int)+4)=false:=by
 constructor
 .rintro⟨h1,h2,h3,h4,h5,h6,h7,h8,h9,h10⟩ r hr;have hon:onB s i=true:=by simp only[onB,dTt];exact⟨h6,h7⟩
  have e:r=0\/r=1\/r=2\/r=3\/r=4\/r=5\/r=6:=oO;rcases e with rfl|rfl|rfl|rfl|rfl|rfl|rfl
  .show t4 s i=false;simp only[t4,iA,dFn];by_cases hi:0<i;.right;have:=h1 hi;omega
   left;omega
  .show t5 s i=false;simp only[t5,dFn];omega
  .show t6 s i=false;simp only[t6,dFn];omega
  .show t7 s i=false;simp[t7,hon]
  .exact h8
  .show r9 s i=false;simp[r9,hon,h9]
  show t10 s i=false;simp[t10,h10]
 intro h;have b4:t4 s i=false:=h 0 oO;have b5:t5 s i=false:=h 1 oO;have b6:t6 s i=false:=h 2 oO;have b7:t7 s i=false:=h 3 oO;have b8:r8 s i=false:=h 4 oO;have b9:r9 s i=false:=h 5 oO;have b10:t10 s i=false:=h 6 oO;simp only[t4,iA,dFn]at b4;simp only[t5,dFn]at b5;simp only[t6,dFn]at b6;simp only[t7,dH]at b7;simp only[r9,b7,kQ,dH]at b9;simp only[onB,dTt]at b7;simp only[t10,dH]at b10;exact⟨λ h0=>by rcases b4 with b4|b4<;>omega,oO,oO,oO,oO,b7.1,b7.2,b8,b9,b10⟩
structure ShR (s:St):Prop where
 cfg:gE s=true
 nk:(s.nk:Int)=s.cpus
 nu:(s.nu:Int)=s.cpus
 ns:s.ns=s.ng
 ck:∀c,c<s.nk->0<=s.clk c/\s.clk c<=281474976710656
 sp:∀g,g<s.ns->(s.nsp g:Int)=s.cpus/\∀c,c<s.nsp g->yP (s.sp g c).v (s.sp g c).r (s.wt g)=true/\(g=0->(s.sp g c).v<=0/\(s.sp g c).r<=0)
def NA(s:St)(c:Nat):Prop:=s.cur c=0\/jI (fO s (s.cur c) c) s.nt=true
theorem aLK{s:St}:bW s=[]↔ShR s/\(∀i,i<s.nt->FZ s i)/\∀c,c<s.cpus.toNat->NA s c/\∀g,g<s.ns->kV s g c=[]:=by
 rw[aZN,shp_nil];unfold jG nX;simp only[vW];rw[flN,flN,flN,flN,flN,flN];constructor
 .rintro⟨hc,⟨s1,s2,s3,s4⟩,⟨p1,p2,p3,p4,p5⟩,hf⟩;obtain⟨⟨r1,r2,r3,r4,r5,r6,r7⟩,_⟩:=eY hc;refine⟨⟨hc,s1,s2,s3,λ c hcc=>?_,λ g hg=>⟨s4 g hg,λ c hcc=>?_⟩⟩,λ i hi=>tkOk_iff.2 λ r hr=>?_,λ c hcc=>⟨?_,λ g hg=>?_⟩⟩;.have:=p1 c hcc;unfold gO at this;rw[MJ,dFn]at this;omega
  .have hr:g=0->(s.sp g c).v<=0/\(s.sp g c).r<=0:=λ e=>by subst e;have h4:=s4 0 hg;have:=p4 c oO;unfold kG at this;rw[MJ,dFn]at this;omega
   refine⟨?_,hr⟩;by_cases e:g=0;.obtain⟨e1,e2⟩:=hr e;subst e;unfold yP;rw[decide_eq_true_iff,r7];omega
   have:=p3 g hg;unfold vB at this;rw[if_neg e,flN]at this;have:=this c hcc;unfold qX at this;rw[MJ,dH]at this;exact this
  .have:=p2 r hr;unfold AR at this;rw[flN]at this;have:=this i hi;unfold oJ at this;rw[MJ]at this;exact this
  .have:=p5 c hcc;unfold lO at this;rw[MJ,iA,dFn,dH]at this;rcases this with h|h;.exact .inl (Classical.byContradiction h)
   exact .inr h
  have:=hf g hg;unfold EP at this;rw[flN]at this;exact this c hcc
 rintro⟨⟨hc,s1,s2,s3,s5,s6⟩,ht,hq⟩;refine⟨hc,⟨s1,s2,s3,λ g hg=>(s6 g hg).1⟩,⟨λ c hcc=>?_,λ r hr=>?_,λ g hg=>?_,λ c hcc=>?_,λ c hcc=>?_⟩,λ g hg=>?_⟩;.unfold gO;rw[MJ,dFn];have:=s5 c hcc;omega
 .unfold AR;rw[flN];intro i hi;unfold oJ;rw[MJ];exact tkOk_iff.1 (ht i hi) r hr
 .unfold vB;split;.rfl
  rw[flN];intro c hcc;unfold qX;rw[MJ,dH];exact((s6 g hg).2 c hcc).1
 .obtain⟨⟨r1,r2,r3,r4,r5,r6,r7⟩,_⟩:=eY hc;have h0:=s6 0 oO;have:=(h0.2 c oO).2 rfl;unfold kG;rw[MJ,dFn];omega
 .unfold lO;rw[MJ,iA,dFn,dH];rcases(hq c hcc).1 with h|h;.exact .inl (λ h'=>h' h)
  exact .inr h
 unfold EP;rw[flN];exact λ c hcc=>(hq c hcc).2 g hg
theorem aKT{s:St}{g c:Nat}{l:List Mem}(hl:l=vC s c s.ns g):kV s g c=[]↔¬(0<l.length/\(s.sp g c).floor<(lsI l (l.length-1)).v):=by
 unfold kV;rw[<-hl,MJ,dFn,NE];refine not_congr (and_congr_right λ h0=>?_);have hb:∀i,pH s g c l i=true↔(s.sp g c).floor<(l.getD i OG).v:=λ i=>by unfold pH aJZ;rw[decide_eq_true_iff];rfl
 constructor;.intro h;obtain⟨j,h1,h2⟩:=aGD l (l.length-1) oO;rw[h2];exact(hb j).1 (h j oO)
 intro h i hi;rw[hb];have:=aPW l (l.length-1) i oO;omega
theorem aMZ{s:St}(h:∀i,i<s.nt->FZ s i):∀i j,i<j->j<s.nt->(s.tsk i).id<(s.tsk j).id:=
 aHM (f:=λ i=>(s.tsk i).id) λ j h0 hj=>(h j hj).1 h0
theorem a5B{s:St}(h:∀i,i<s.nt->FZ s i){x:Int}{c:Nat}{i:Nat}(hi:i<s.nt)(hx:(s.tsk i).id=x):jI (fO s x c) s.nt=true↔(s.tsk i).ready=true/\(s.tsk i).cpu=c:=by
 rw[anyB_iff];constructor
 .rintro⟨j,h1,h2⟩;simp only[fO,aC,dTt]at h2;obtain⟨h3,h4,h5⟩:=h2
  have:j=i:=by
   rcases mH i j with e|e|e;.have:=aMZ h i j e h1;omega
   .exact e.symm
   have:=aMZ h j i e hi;omega
  subst this;exact⟨h4,h5⟩
 rintro⟨h1,h2⟩;refine⟨i,hi,?_⟩;simp only[fO,aC,dTt];exact⟨hx,h1,h2⟩
theorem aZG{s:St}{x:Int}{c:Nat}(h:∀i,i<s.nt->¬(s.tsk i).id=x):jI (fO s x c) s.nt=false:=by rw[dS];intro h';obtain⟨j,h1,h2⟩:=anyB_iff.1 h';simp only[fO,aC,dTt]at h2;exact h j h1 h2.1
def XE(s:St)(d:DE)(j:Nat):Prop:=qR (mP s) (d.gn j)/\(0<j->d.gn (j-1)<d.gn j)/\¬qR (pre d.tk d.n4) (d.gn j)
def IV(s:St)(d:DE)(j:Nat):Prop:=d.tk j∉mP s/\(0<j->(d.tk (j-1)).id<(d.tk j).id)
def LI(s:St)(d:DE)(j:Nat):Prop:=(0<=(d.sp j).1/\(d.sp j).1<s.ns/\0<=(d.sp j).2.1/\(d.sp j).2.1<s.nk/\s.sp (d.sp j).1.toNat (d.sp j).2.1.toNat≠(d.sp j).2.2)∧
 (0<j->(d.sp (j-1)).1<(d.sp j).1\/(d.sp (j-1)).1=(d.sp j).1/\(d.sp (j-1)).2.1<(d.sp j).2.1)
theorem fitD_iff{s:St}{d:DE}:FitD s (lI d)↔(∀j,j<d.n0->CA s.nk s.clk d.ck j)/\(∀j,j<d.n1->CA s.nk s.cur d.cu j)/\(∀j,j<d.n2->CA s.ng s.wt d.wg j)/\(∀j,j<d.n3->XE s d j)/\(∀j,j<d.n4->IV s d j)/\∀j,j<d.n5->LI s d j:=by
 have h1:TkFit (mP s) (lI d).gn (lI d).tk↔(∀j,j<d.n3->XE s d j)/\∀j,j<d.n4->IV s d j:=by
  rw[aIE];unfold lI XE IV;simp only[sR];refine and_congr (forall_congr' λ j=>forall_congr' λ hj=>?_) (forall_congr' λ j=>forall_congr' λ hj=>?_);.rw[tY hj,tY (oO:j-1<d.n3),and_assoc]
  rw[tY hj,tY (oO:j-1<d.n4)]
 have h2:SpotOk s.ns s.nk s.sp (lI d).sp↔∀j,j<d.n5->LI s d j:=by rw[aAW];unfold lI LI okS;simp only[sR];refine forall_congr' λ j=>forall_congr' λ hj=>?_;rw[tY hj,tY (oO:j-1<d.n5)]
 constructor;.intro h;exact⟨valOk_e.1 h.ck,valOk_e.1 h.cu,valOk_e.1 h.wg,(h1.1 h.tk).1,(h1.1 h.tk).2,h2.1 h.sp⟩
 rintro⟨a,b,c,e,f,g⟩;exact⟨valOk_e.2 a,valOk_e.2 b,valOk_e.2 c,h1.2 ⟨e,f⟩,h2.2 g⟩
theorem JR{t:Nat->Tk}{n:Nat}{x:Int}:(IG t n x).isSome=true↔qR (pre t n) x:=by
 rw[aGT,anyB_iff];constructor;.rintro⟨i,h1,h2⟩;exact⟨t i,mem_pre.2 ⟨i,h1,rfl⟩,by simpa using h2⟩
 rintro⟨y,h1,h2⟩;obtain⟨i,h3,h4⟩:=mem_pre.1 h1;exact⟨i,h3,by rw[h4];simpa using h2⟩
theorem aXD{s:St}(h:zI s)(t:Tk):t∈mP s↔(IG s.tsk s.nt t.id).isSome=true/\GY s.tsk s.nt t.id=t:=by
 unfold GY
 cases hf:IG s.tsk s.nt t.id with
 |none=>have hn:=xL hf;simp only[lA,aO,false_and,iff_false];intro hm;obtain⟨j,hj,he⟩:=mem_tkL.1 hm;have:=hn j hj;rw[<-he]at this;simp at this
 |some j=>
  obtain⟨hj,he⟩:=BP hf;simp only[beq_iff_eq]at he;simp only[Option.isSome_some,true_and];constructor;.intro hm;exact(sP h).uniq (mem_tkL.2 ⟨j,hj,rfl⟩) hm he
  intro e;rw[<-e];exact mem_tkL.2 ⟨j,hj,rfl⟩
end Go.Proofs.T
end
section
namespace Go.Proofs.T
open Go Go.AM Go.Proofs
variable{Γ:List (Nat×List AVal)}
attribute [local irreducible] gK del
theorem aAK(n:Nat)(f:Nat->Int)(nv:Nat)(v:Nat->Int×Int)(hn0:0<n)(hn:n<=100000)(hv:nv<=100000)(hin:∀i,i<nv->0<=(v i).1/\(v i).1<n):
 AM.Pure aA Γ 107 [.rd 1 n (λ i=>[(f i)]),.rd 2 nv (λ i=>[.lit (.int .i64 (v i).1),.lit (.int .i64 (v i).2)])] (.rd 1 n (λ i=>[(pT n f (pre v nv) i)])):=by
 obtain⟨R0,eR0⟩:∃R,R=fM n f:=⟨_,rfl⟩;have hR0:R0.length=n:=by rw[eR0,lF]
 have hone:(R0.all λ row=>row.all AM.one)=true:=by rw[eR0,aW];intro row hr;obtain⟨i,_,rfl⟩:=cL.1 hr;rfl
 have eR0':((aM n).map λ i=>[AVal.lit (.int .i64 (f i))])=R0:=eR0.symm;have hne:¬n=0:=oO;refine aZ Tryz.func107 rfl 29 rfl bB rfl λ k=>?_;have kp:=fI k [0,1,4,5,6,13];have uU:=DP @hone @hne @hn0 @eR0';refine bS ?_;refine aU (zs ?_);refine bE (X:=Nat) rfl [0,1,4,5,6,13] (k+2) (λ i=>[(6,i),(5,.sl (k+1) 0 n)]) (λ i=>[(k+1,⟨1,true,fM n (pT n f (pre v i))⟩)]) (λ i=>i<=nv) (λ i=>nv-i) 0 ?_ (aJ _) ?_;.rw[show pT n f (pre v 0)=f from rfl,<-eR0];refine cQ ?_;apply zN;exact fH
 clear hone eR0' eR0 hR0;intro i hi;obtain⟨F,eF⟩:∃F,F=pT n f (pre v i):=⟨_,rfl⟩;have hnx:pT n f (pre v (i+1))=if 0<=(v i).1/\(v i).1<n then wQ F (v i).1.toNat (v i).2 else F:=by rw[wX,GL,<-eF]
 rw[<-eF];by_cases hlt:i<nv;.obtain⟨h0,h1⟩:=hin i hlt;rw[if_pos ⟨h0,h1⟩]at hnx;obtain⟨x,ex⟩:∃x,x=(v i).1:=⟨_,rfl⟩;obtain⟨y,ey⟩:∃y,y=(v i).2:=⟨_,rfl⟩;rw[<-ex,<-ey]at hnx;rw[<-ex]at h0 h1;have hl:=lF n F;have g1:=tW (n:=n) (f:=F) (i:=x.toNat) oO;have gs:=PW (n:=n) (f:=F) (i:=x.toNat) (v:=y);obtain⟨R,eR⟩:∃R,R=fM n F:=⟨_,rfl⟩;rw[<-eR]at hl g1 gs;rw[<-eR];have b1:x.toNat<n:=oO;have ex':=ex.symm;have ey':=ey.symm;have uU:=qW @hl @g1 @h0 @h1 @b1 @ex' @ey' @hlt;refine cQ ?_;apply zN;refine bS ?_;refine aU ⟨λ ht=>zN ?_⟩;refine⟨i+1,oO,oO,?_⟩;rw[hnx,<-gs,(oO:((i+1:Nat):Int)=(i:Int)+1)];exact fH
 have hin:i=nv:=oO;subst hin;have uU:=Go.AM.uU;refine cQ ?_;apply zN;refine bY rfl ?_;refine bY rfl ?_;(refine gL rfl [0,1,4,5,6,13] rfl rfl (λ K hK=>?_));simp-dsimp-implicitDefEqProofs (disch:=omega)only[go_sem,iN,eq_self,↓reduceIte];(refine hK _ _ _ _ (λ hx=>?_));clear hx hK;simp-dsimp-implicitDefEqProofs (disch:=omega)only[go_sem,iN,eq_self,↓reduceIte];clear K;refine gA rfl _ rfl (λ ht=>?_) (λ ht=>?_);.exact absurd (of_decide_eq_true ht) oO
 refine jU rfl ?_;refine cQ ?_;apply zN;refine dI (OD (id:=k+1) (s:=1) (m:=n) (f:=λ i=>[.lit (.int .i64 (F i))]) 5 rfl (by rw[AM.look,if_pos rfl];rfl)) ?_;refine bS ?_;refine aU (zs ?_);rw[<-eF];exact aX rfl ⟨_,rfl,aK _⟩
theorem aBD(n:Nat)(f:Nat->Int):fM (n+1) f=fM n f++[[.lit (.int .i64 (f n))]]:=by simp[fM,CI]
theorem PP(s:St)(hng:s.ng<=1000):AM.Pure aA Γ 108 [.agg s.cells] (.rd 1 s.ng (λ i=>[(s.wt i)])):=by
 refine aZ Tryz.func108 rfl 24 rfl bB rfl λ k=>?_;have kp:=fI k [0,1,2,3,4,10];refine bS ?_;refine aU (zs ?_);refine bE (X:=Nat) rfl [0,1,2,3,4,10] (k+2) (λ i=>[(4,i),(3,bV (k+1) (fM i s.wt))]) (λ i=>cA (k+1) 1 (fM i s.wt) [(k,⟨7,true,[s.cells]⟩)]) (λ i=>i<=s.ng) (λ i=>s.ng-i) 0 ?_ (aJ _) ?_;.rw[show fM 0 s.wt=[]from rfl];refine cQ ?_;apply zN;exact fH
 intro i hi;obtain⟨l,el,hl⟩:∃x,x=fM i s.wt/\x.length<=1000:=⟨_,rfl,by rw[lF];omega⟩;have hnx:fM (i+1) s.wt=l++[[.lit (.int .i64 (s.wt i))]]:=by rw[aBD,el]
 rw[<-el];by_cases hlt:i<s.ng
 .rcases l with _|⟨x0,l⟩;.have uU:= @hlt;refine cQ ?_;apply zN;refine bS ?_;refine aU ⟨λ ht=>zN ?_⟩;refine⟨i+1,oO,oO,?_⟩;rw[hnx,(oO:((i+1:Nat):Int)=(i:Int)+1)];exact lM (k+3) (k+1) (wW @hlt)
  have hLl:l.length<=1000:=by simp at hl;omega
  have uU:=zA @hlt @hLl;refine cQ ?_;apply zN;refine bS ?_;refine aU ⟨λ ht=>zN ?_⟩;refine⟨i+1,oO,oO,?_⟩;rw[hnx,(oO:((i+1:Nat):Int)=(i:Int)+1)];exact lM (k+3) (k+1) (wW (And.intro (@hlt) (@hLl)))
 have hin:i=s.ng:=oO;subst hin;refine cQ ?_;apply zN;refine bY rfl ?_;refine bY rfl ?_;(refine gL rfl [0,1,2,3,4,10] rfl rfl (λ K hK=>?_));simp-dsimp-implicitDefEqProofs (disch:=omega)only[go_sem,iN,eq_self,↓reduceIte];(refine hK _ _ _ _ (λ hx=>?_));clear hx hK;simp-dsimp-implicitDefEqProofs (disch:=omega)only[go_sem,iN,eq_self,↓reduceIte];clear K;refine gA rfl _ rfl (λ ht=>?_) (λ ht=>?_);.exact absurd (of_decide_eq_true ht) oO
 refine jU rfl ?_;refine cQ ?_;apply zN;refine dI (xX (id:=k+1) (s:=1) (l:=l) 3 (.rd 1 s.ng (λ i=>[(s.wt i)])) [] (by simp-dsimp-implicitDefEqProofs (disch:=omega)only[go_sem,iN,aH,Flt.row,eq_self,↓reduceIte]) (by simp-dsimp-implicitDefEqProofs (disch:=omega)only[go_sem,iN,aH,Flt.row,eq_self,↓reduceIte]) (by rw[el,rows,lF];exact nQ _ _ _) (by simp-dsimp-implicitDefEqProofs (disch:=omega)only[go_sem,iN,aH,Flt.row,eq_self,↓reduceIte]) (by simp-dsimp-implicitDefEqProofs (disch:=omega)only[go_sem,iN,aH,Flt.row,eq_self,↓reduceIte])) ?_;refine cQ ?_;apply zN;refine bS ?_;refine aU (zs ?_);exact aX rfl ⟨_,rfl,aK _⟩
theorem KE(n:Nat)(now:Nat->Int)(nv:Nat)(v:Nat->Int×Int)(hn:n<=100000)(hv:nv<=100000)(b:Bool)(hb:b=true↔∀j,j<nv->CA n now v j):
 AM.Pure aA Γ 185 [.rd 2 nv (λ i=>[.lit (.int .i64 (v i).1),.lit (.int .i64 (v i).2)]),.rd 1 n (λ i=>[(now i)])] b:=by
 have hno:∀i,i<nv->¬CA n now v i->b=false:=λ i hi h=>by
  cases hb':b with
  |false=>rfl
  |true=>exact absurd (hb.1 hb' i hi) h
 refine aZ Tryz.func185 rfl 62 rfl bB rfl λ k=>?_;have kp:=fI k [0,1,4,5,9,61];refine bS ?_;refine aU (zs ?_);refine bE (X:=Nat) rfl [0,1,4,5,9,61] k (λ i=>[(5,i)]) (λ i=>[]) (λ i=>i<=nv/\∀j,j<i->CA n now v j) (λ i=>nv-i) 0 ?_ ⟨aJ _,λ j hj=>absurd hj (bJ _)⟩ ?_;.refine cQ ?_;apply zN;exact fH
 rintro i ⟨hi,hall⟩;by_cases hlt:i<nv
 .obtain⟨x,ex⟩:∃x,x=(v i).1:=⟨_,rfl⟩;obtain⟨y,ey⟩:∃y,y=(v i).2:=⟨_,rfl⟩;have ex':=ex.symm;have ey':=ey.symm;by_cases h0:x<0;.have hbf:=hno i hlt (λ h=>by have:=h.1;omega);have uU:=DP @hlt @ex' @ey' @h0;refine cQ ?_;apply zN;refine bS ?_;refine aU ⟨λ ht ht=>zN ?_⟩;refine aX rfl ⟨_,rfl,aI ?_⟩;rw[hbf]
  by_cases h1:x<n
  .have h1':¬(n:Int)<=x:=oO;by_cases hi0:i=0
   .have hi0':¬(0:Int)<(i:Int):=oO;obtain⟨z,ez⟩:∃z,z=now x.toNat:=⟨_,rfl⟩;have ez':=ez.symm;have b1:x.toNat<n:=oO;by_cases hzy:z=y;.subst hzy;have hbf:=hno i hlt (λ h=>h.2.2.2 (by rw[<-ex,<-ey];exact ez.symm));have uU:=eQ @hlt @ex' @ey' @h0 @h1 @h1' @hi0' @b1 @ez';refine cQ ?_;apply zN;refine bS ?_;refine aU ⟨λ ht ht=>zN ?_⟩;refine aX rfl ⟨_,rfl,aI ?_⟩;rw[hbf]
    have hzy':¬z=y:=hzy;have hok:CA n now v i:=⟨oO,oO,λ h=>absurd h oO,by rw[<-ex,<-ey,<-ez];exact hzy⟩;have uU:=eQ @hlt @ex' @ey' @h0 @h1 @h1' @hi0' @b1 (zA @ez' @hzy');refine cQ ?_;apply zN;refine bS ?_;refine aU ⟨λ ht ht=>zN ?_⟩;refine⟨i+1,⟨oO,λ j hj=>?_⟩,oO,?_⟩
    .by_cases hj2:j=i;.rw[hj2];exact hok
     exact hall j oO
    rw[(oO:((i+1:Nat):Int)=(i:Int)+1)];exact fH
   have hi0':(0:Int)<(i:Int):=oO;have wp:aN.wrap ((i:Int)-1)=((i-1:Nat):Int):=by rw[dA oO oO];omega
   have bp:i-1<nv:=oO;obtain⟨px,ep⟩:∃p,p=(v (i-1)).1:=⟨_,rfl⟩;have ep':=ep.symm;by_cases hle:x<=px;.have hbf:=hno i hlt (λ h=>by have:=h.2.2.1 oO;omega);have uU:=eQ @hlt @ex' @ey' @h0 @h1 @h1' @hi0' @wp (AW @bp @ep' @hle);refine cQ ?_;apply zN;refine bS ?_;refine aU ⟨λ ht ht=>zN ?_⟩;refine aX rfl ⟨_,rfl,aI ?_⟩;rw[hbf]
   have hle':¬x<=px:=hle;obtain⟨z,ez⟩:∃z,z=now x.toNat:=⟨_,rfl⟩;have ez':=ez.symm;have b1:x.toNat<n:=oO;by_cases hzy:z=y;.subst hzy;have hbf:=hno i hlt (λ h=>h.2.2.2 (by rw[<-ex,<-ey];exact ez.symm));have uU:=eQ @hlt @ex' @ey' @h0 @h1 @h1' @hi0' @wp (xY @bp @ep' @hle' @b1 @ez');refine cQ ?_;apply zN;refine bS ?_;refine aU ⟨λ ht ht=>zN ?_⟩;refine aX rfl ⟨_,rfl,aI ?_⟩;rw[hbf]
   have hzy':¬z=y:=hzy;have hok:CA n now v i:=⟨oO,oO,λ h=>oO,by rw[<-ex,<-ey,<-ez];exact hzy⟩;have uU:=eQ @hlt @ex' @ey' @h0 @h1 @h1' @hi0' @wp (qQ @bp @ep' @hle' @b1 @ez' @hzy');refine cQ ?_;apply zN;refine bS ?_;refine aU ⟨λ ht ht=>zN ?_⟩;refine⟨i+1,⟨oO,λ j hj=>?_⟩,oO,?_⟩
   .by_cases hj2:j=i;.rw[hj2];exact hok
    exact hall j oO
   rw[(oO:((i+1:Nat):Int)=(i:Int)+1)];exact fH
  have h1':(n:Int)<=x:=oO;have hbf:=hno i hlt (λ h=>by have:=h.2.1;omega);have uU:=xY @hlt @ex' @ey' @h0 @h1';refine cQ ?_;apply zN;refine bS ?_;refine aU ⟨λ ht ht=>zN ?_⟩;refine aX rfl ⟨_,rfl,aI ?_⟩;rw[hbf]
 have hin:i=nv:=oO;subst hin;have hbt:=hb.2 hall;refine cQ ?_;apply zN;refine bS ?_;refine aU ⟨λ ht=>zN ?_⟩;refine aX rfl ⟨_,rfl,aI ?_⟩;rw[hbt]
end Go.Proofs.T
end
