import Derived.Test.YteimiejbhhgljaaGreatDoorZAO
set_option linter.unusedVariables false
set_option linter.unusedSimpArgs false
set_option maxHeartbeats 0
set_option maxRecDepth 100000
open Bool renaming and_eq_true->aH,and_true->iC,eq_iff_iff->bH,false->aE,false_or->AE,true->aB,true_or->AD
open Int renaming emod_lt_of_pos->rU,fdiv_eq_ediv_of_nonneg->dU,tmod_eq_emod_of_nonneg->dS,toNat_natCast->bP
open Go.IntKind renaming i64->aL,u64->aY
open List renaming all_cons->fU,all_eq_true->aW,append_nil->cZ,eq_nil_iff_forall_not_mem->FO,ext_getElem?->dZ,filter_append->MV,filter_cons->bNY,filter_eq_self->wF,find?_eq_none->a5C,getD->oH,getD_eq_getElem?_getD->aR,getElem?_eq_none->aX,getElem?_eq_some_iff->aK,getElem?_map->aP,getElem?_range->mG,getElem?_set->dD,getElem_mem->JR,length_append->bM,length_eq_zero_iff->a5B,length_map->cX,length_set->oE,length_take->sU,map->rS,map_append->aM,map_congr_left->fD,map_cons->bI,map_map->jM,map_nil->bQ,map_set->iX,mem_iff_getElem->tJ,mem_map->dB,mem_range->dK,range->aN,replicate->bE
open Nat renaming add_assoc->gD,add_sub_cancel->a4V,add_sub_cancel_left->lE,add_zero->jL,eq_zero_or_pos->a4U,le_refl->aF,lt_succ_self->cW,mul_le_mul_right->cC,mul_one->HW,not_lt_zero->bO,sub_self->RX,sub_zero->iV,zero_le->aZ
open Option renaming map_some->bU,none->aC,some->aA
open Go.Proofs.Tryz renaming func122->bKP,prog->aD
section
namespace Go.Proofs.T
open Go Go.AM Go.Proofs
structure Two (a b:St):Prop where
 na:Nrm a
 nb:Nrm b
 ra:dQ a=[]
 rb:dQ b=[]
 al:QU a b a.ng=aB
theorem al_iff{a b:St}:QU a b a.ng=aB↔a.cpus=b.cpus/\a.credit=b.credit/\a.ng=b.ng/\∀g,g<a.ng->a.par g=b.par g:=by simp only[QU,dTt]
theorem Two.swap {a b:St}(h:Two a b):Two b a:=by obtain⟨h1,h2,h3,h4⟩:=al_iff.1 h.al;exact⟨h.nb,h.na,h.rb,h.ra,al_iff.2 ⟨h1.symm,h2.symm,h3.symm,λ g hg=>(h4 g oO).symm⟩⟩
theorem Two.self {a b:St}(h:Two a b):Two a a:=⟨h.na,h.na,h.ra,h.ra,al_iff.2 ⟨rfl,rfl,rfl,λ _ _=>rfl⟩⟩
theorem Two.trans {a b c:St}(h:Two a b)(g:Two b c):Two a c:=by obtain⟨h1,h2,h3,h4⟩:=al_iff.1 h.al;obtain⟨g1,g2,g3,g4⟩:=al_iff.1 g.al;exact⟨h.na,g.nb,h.ra,g.rb,al_iff.2 ⟨h1.trans g1,h2.trans g2,h3.trans g3,λ x hx=>(h4 x hx).trans (g4 x oO)⟩⟩
structure Alk (a b:St):Prop where
 cpus:a.cpus=b.cpus
 credit:a.credit=b.credit
 ng:a.ng=b.ng
 par:∀g,a.par g=b.par g
 nk:a.nk=b.nk
 nu:a.nu=a.nk
 nu':b.nu=a.nk
 ns:a.ns=b.ns
 nsp:∀g,a.nsp g=b.nsp g
 K:0<a.nk
 sp:∀g c,¬(g<a.ns/\c<a.nk)->a.sp g c=b.sp g c
theorem Two.alk {a b:St}(h:Two a b):Alk a b:=by
 obtain⟨h1,h2,h3,h4⟩:=al_iff.1 h.al;obtain⟨⟨a1,a2⟩,a3,_,_,_,a4⟩:=CZ h.ra;obtain⟨⟨b1,b2⟩,b3,_,_,_,b4⟩:=CZ h.rb;obtain⟨_,s1⟩:=nG (s:=a) (by rw[h.ra];rfl);obtain⟨_,s2⟩:=nG (s:=b) (by rw[h.rb];rfl);obtain⟨k1,_,_,_⟩:=shapes_nil s1;obtain⟨k2,_,_,_⟩:=shapes_nil s2;have hnk:a.nk=b.nk:=oO
 have z:∀g c,¬(g<a.ns/\c<a.nk)->a.sp g c=⟨0,0,0⟩/\b.sp g c=⟨0,0,0⟩:=λ g c hgc=>by
  by_cases hg:g<a.ns;.exact⟨h.na.s g c (by rw[a2 g hg];omega),h.nb.s g c (by rw[b2 g oO];omega)⟩
  exact⟨h.na.s g c (by rw[h.na.n g oO];omega),h.nb.s g c (by rw[h.nb.n g oO];omega)⟩
 refine⟨h1,h2,h3,λ g=>?_,hnk,a1,oO,oO,λ g=>?_,a3,λ g c hgc=>by rw[(z g c hgc).1,(z g c hgc).2]⟩
 .by_cases hg:g<a.ng;.exact h4 g hg
  rw[(h.na.g g oO).1,(h.nb.g g oO).1]
 by_cases hg:g<a.ns;.rw[a2 g hg,b2 g oO,hnk]
 rw[h.na.n g oO,h.nb.n g oO]
theorem VE{now to:Nat->Int}{N i:Nat}(h:N<=i):upd now (YW (gH (kD now to) N)) i=now i:=
 YT λ x hx e=>by have:=(MK now to N).ok.lt x hx;omega
theorem a6S(a b:St){S K g c:Nat}(hg:g<S)(hc:c<K):upS K a.sp (gH (λ g=>gH (mA a b g) K) S) g c=b.sp g c:=by
 have hK:0<K:=oO;have hlt:g*K+c<S*K:=by have:=cC K hg;rw[Nat.succ_mul]at this;omega
 obtain⟨h5,h6⟩:=HB (g:=g) hc;rw[aIK (XG a b S K hK).rng hc,MJ,aLG _ hK,aIJ (ne:=neS) (λ x y h=>(aZZ h).symm) _ _ hlt,IN,h5,h6]
theorem aZI(a b:St){S K g c:Nat}(hK:0<K)(h:¬(g<S/\c<K)):upS K a.sp (gH (λ g=>gH (mA a b g) K) S) g c=a.sp g c:=by unfold upS;rw[a5C.2 λ x hx=>?_];obtain⟨h1,h2,h3,h4⟩:=(XG a b S K hK).rng x hx;simp only[aH,beq_iff_eq];rintro⟨e1,e2⟩;exact h ⟨oO,oO⟩
theorem Two.ids {a b:St}(h:Two a b):CL a/\CL b:=⟨(yS (by rw[h.ra];rfl)).st,(yS (by rw[h.rb];rfl)).st⟩
theorem PN{a b:St}(h:∀g,a.par g=b.par g)(n:Nat):gH (vE a b) n=gH (kD a.wt b.wt) n:=mJ λ i hi=>by rw[vE,kD];congr 1;rw[bH];simp only[decide_eq_true_iff,bne_iff_ne,ne_eq,h i,true_and];exact not_congr eq_comm
theorem a1J{a b:St}(h:Two a b):YN a (AS a b) (mU b)=b:=by
 obtain⟨h1,h2,h3,h4,h5,h6,h7,h8,h9,h10,h11⟩:=h.alk;refine aHY h1 h2 h3 (funext h4) (funext λ i=>?_) h5 (funext λ i=>?_) (by show a.nu=b.nu;omega) (funext λ i=>?_) (bBX b) (funext λ i=>?_) h8 (funext h9) (funext λ g=>funext λ c=>?_)
 .show upd a.wt (YW (gH (vE a b) a.ng)) i=b.wt i;rw[PN h4];by_cases hi:i<a.ng;.exact MX _ _ hi
  rw[VE oO,(h.na.g i oO).2,(h.nb.g i oO).2]
 .show upd a.clk (YW (gH (kD a.clk b.clk) a.nk)) i=b.clk i;by_cases hi:i<a.nk;.exact MX _ _ hi
  rw[VE oO,h.na.k i oO,h.nb.k i oO]
 .show upd a.cur (YW (gH (kD a.cur b.cur) a.nk)) i=b.cur i;by_cases hi:i<a.nk;.exact MX _ _ hi
  rw[VE oO,h.na.u i oO,h.nb.u i oO]
 .exact vC (h.nb.t i)
 show upS a.nk a.sp (gH (λ g=>gH (mA a b g) a.nk) a.ns) g c=b.sp g c;by_cases hgc:g<a.ns/\c<a.nk;.exact a6S a b hgc.1 hgc.2
 rw[aZI a b h10 hgc];exact h11 g c hgc
theorem Two.btw {a b:St}(h:Two a b):btw a b=AS a b/\DX a b=0:=by
 have hn:¬tV a b:=by unfold tV;rw[h.ra,h.rb];simp
 unfold T.btw DX;rw[iN hn,iN hn,h.al,iN sS,iN sS];exact⟨rfl,rfl⟩
theorem a9N(x:Dl):CD (tI x)=x:=((aKY x (tI x)).1 (PI _)).symm
theorem Two.leads {a b:St}(h:Two a b):aPL a (tI (T.btw a b))/\IF a (tI (T.btw a b))=b:=by
 have hd:CD (tI (T.btw a b))=AS a b:=by rw[a9N,h.btw.1]
 obtain⟨f1,f2⟩:=aCM h.ids.1 h.ids.2 (λ g _=>h.alk.par g) h.alk.K;obtain⟨l1,l2⟩:=bAF (s:=a) (d:=tI (T.btw a b)) (m:=mU b) h.ra (λ _=>by rw[hd];exact f2);have hm:=a1J h;have hk:aPL a (tI (T.btw a b)):=l1.2 (by rw[hd];exact⟨f1,by rw[hm];exact h.rb⟩);exact⟨hk,by rw[l2 hk,hd,hm]⟩
theorem Two.app {a b:St}(h:Two a b):bAH a (tI (T.btw a b))=0/\bAG a (tI (T.btw a b))=b:=by obtain⟨h1,h2⟩:=h.leads;obtain⟨h3,h4⟩:=aXT h.ra h1;exact⟨h3,by rw[h4,h2]⟩
theorem DJ{α:Type}{f:Nat->List α}:∀ {n:Nat},(∀i,i<n->f i=[])->gH f n=[]
 |0,_=>rfl
 |n+1,h=>by rw[gH,DJ (n:=n) λ i hi=>h i oO,h n oO];rfl
theorem JJ(f:Nat->Int)(i:Nat):kD f f i=[]:=by simp[kD,DV]
theorem aCL{a:St}(h:Two a a):T.btw a a=noDl:=by rw[h.btw.1,AS,yV,ER h.ids.1,PN λ _=>rfl,DJ λ i _=>JJ _ i,DJ λ i _=>JJ _ i,DJ λ i _=>JJ _ i,DJ λ g _=>DJ λ i _=>by simp[mA,DV,SM]];have e1:gnL (mU a) (mU a)=[]:=FO.2 λ x hx=>(mem_gnL.1 hx).2 (mem_gnL.1 hx).1;have e2:nwL (mU a) (mU a)=[]:=FO.2 λ x hx=>(mem_nwL.1 hx).2 (mem_nwL.1 hx).1;rw[e1,e2];rfl
theorem aWH{x:Dl}:(tI x).size=0↔x=noDl:=by obtain⟨a,b,c,d,e,f⟩:=x;show a.length+b.length+c.length+d.length+e.length+f.length=0↔_;simp only[noDl,Dl.mk.injEq,<-a5B];omega
theorem Two.zero {a b:St}(h:Two a b):(tI (T.btw a b)).size=0↔a=b:=by
 rw[aWH];constructor;.intro e;have h1:=h.app.2;have h2:=h.self.app.2;rw[aCL h.self]at h2;rw[e]at h1;exact h2.symm.trans h1
 rintro rfl;exact aCL h
theorem GO{α β:Type}{f:Nat->List α}{g:Nat->List β}:∀ {n:Nat},(∀i,i<n->(f i).length=(g i).length)->(gH f n).length=(gH g n).length
 |0,_=>rfl
 |n+1,h=>by rw[gH,gH,bM,bM,GO (n:=n) λ i hi=>h i oO,h n oO]
theorem aBD{α β:Type}{b c:Bool}{x:α}{y:β}(h:b=c):(DV b x).length=(DV c y).length:=by subst h;cases b<;>rfl
theorem Two.lens {a b:St}(h:Two a b):(tI (T.btw a b)).n0=(tI (T.btw b a)).n0/\(tI (T.btw a b)).n5=(tI (T.btw b a)).n5:=by
 have k:=h.alk;rw[h.btw.1,h.swap.btw.1];constructor;.show(gH (kD a.clk b.clk) a.nk).length=(gH (kD b.clk a.clk) b.nk).length;rw[<-k.nk];exact GO λ i _=>aBD bne_comm
 show(gH (λ g=>gH (mA a b g) a.nk) a.ns).length=(gH (λ g=>gH (mA b a g) b.nk) b.ns).length;rw[<-k.nk,<-k.ns];exact GO λ g _=>GO λ i _=>aBD (by unfold yK;rw[bH];simp only[decide_eq_true_iff,eq_comm])
end Go.Proofs.T
end
section
namespace Go.Proofs.T
open Go Go.AM Go.Proofs
variable{Γ:dL}
attribute [local irreducible] jE del
theorem aTQ(f:Nat->Sm)(nl q i n ng:Nat)(hq:q<=40)(hi:i<=q)(h4:n<=4)(k kx T:Nat)(ekx:kx=k+(26+ng))(eT:T=k+(25+ng))(L0:LSt)(Ls:Nat->LSt)(zs:Nat->LSt×(Int×Int)×(Nat×Nat))(hR:Runs Γ n ng (k+17) T (kx+2) (λ i=>TC (f i)) L0 Ls zs)
 (F:Nat->aO) (hF:∀i,F i=MH (k+17) T (Ls i)) (NB:Blk) (CN:List AVal) (hCN:CN.all AM.one=aB) (eNB:NB=⟨13,aB,[CN]⟩) (SA:List AVal) (hAl:SA.length=7) (hA7:SA.take 7=SA) (hA1:SA.all AM.one=aB) (hAc:SA.all clean=aB) (RV:AVal) (eRV:RV= .tup [.agg SA,.agg (Ls q).st.cells,aB]):
 W aD Γ 82 k (hY (gN Tryz.f20) [1,1,1,1,1,1,1]) (EQ aD Tryz.f20 λ _ r1 _=>r1=RV) (kx+1) [(15,.ptr kx 0 0),(12,i),(11,(0:Int)),(10,.ptr (k+17) 0 0),(9,.rd 8 q (λ i=>gJ (TC (f i)))),(7,.ptr (k+2) 0 0),(6,.ptr (k+1) 0 0)] ((kx,⟨7,aB,[SA]⟩)::(k+2,⟨7,aB,[zst7]⟩)::(k+1,⟨7,aB,[zst7]⟩)::(k,NB)::F i):=by
 have hz7:zst7.length=7:=rfl;have hz8:List.drop 7 zst7=[]:=rfl;have hci:(0<=(i:Int)/\(i:Int)<=(q:Int))=True:=eq_true oO;have hiq:(0<=(i:Int)/\(i:Int)<=(q:Int)/\(q:Int)<=(q:Int))=True:=eq_true oO;obtain⟨hr1,hr2,hr3⟩:=hR.rt i oO;have kp:=gZ k [0,1,2,3,6,7,8,9,10,11,12,14,15,17,18,19,33,44,45,46,47,61,62,63,64];have uU:=xC hz7 hci hiq hAl hA7 hA1 hAc;refine dJ ?_;refine cA ?_;refine bY (X:=Nat) rfl [0,1,2,3,6,7,8,9,10,11,12,14,15,17,18,19,33,44,45,46,47,61,62,63,64] (kx+1) (λ j=>[(63,j),(15,.ptr kx 0 0)]) (λ j=>(kx,⟨7,aB,[SA]⟩)::(k+2,⟨7,aB,[zst7]⟩)::(k+1,⟨7,aB,[zst7]⟩)::(k,NB)::F (i+j)) (λ j=>j<=q-i) (λ j=>q-i-j) 0 ?_ (aZ _) ?_;.simp only[jL];rw[eNB,hF];simp only[MH,LH];have uU:=DR hr3 hA1 hAc hAl;refine fR ?_;apply zN;exact gM
 intro j hj;have uU:=Go.AM.uU;refine fR ?_;apply zN;by_cases hj2:j<q-i
 .obtain⟨hd1,hd2,hd3,hd4,hd5,hd6,hd7,hd8,hd9⟩:=hR.did (i+j) oO;rw[<-hR.s (i+j),gD i j 1]at hd9;obtain⟨hr1,hr2,hr3⟩:=hR.rt (i+j) oO;obtain⟨hr4,hr5,hr6⟩:=hR.rt (i+(j+1)) oO;obtain⟨tk',etk⟩:∃t,t=(zs (i+j)).2.2.1:=⟨_,rfl⟩;obtain⟨kk',ekk⟩:∃t,t=(zs (i+j)).2.2.2:=⟨_,rfl⟩;obtain⟨ra,era⟩:∃t,t=(zs (i+j)).2.1.1:=⟨_,rfl⟩;obtain⟨re,ere⟩:∃t,t=(zs (i+j)).2.1.2:=⟨_,rfl⟩;rw[<-etk]at hd5 hd6 hd7 hd9;rw[<-ekk]at hd6 hd8 hd9;rw[<-era,<-ere]at hd9;simp only[gJ,jQ]at hd9;have hdel2:del (F (i+j)) (kx+1)=F (i+j):=by rw[hF];simp only[MH,LH];have uU:=hr3;exact fR gG
  have uU:=hdel2;refine dJ ?_;refine dI λ ht=>?_;refine jR [.far (jQ ra re) kk' [(kx+1,⟨8,aB,[gJ (TC (f (i+j)))]⟩),(kx,⟨7,aB,[SA]⟩),(k+2,⟨7,aB,[zst7]⟩),(k+1,⟨7,aB,[zst7]⟩),(k,NB)] (MH (k+17) T (Ls (i+j))) (MH (k+17) tk' (Ls (i+(j+1))))] ?_;refine CM (AM.zs ?_) (AM.zs ?_) (AM.zs ?_) (AM.zs ?_);.exact λ q=>by rw[hF]
  .exact λ q hq=>by
    rcases hq with hq|hq;.have:=nY hq;simp only[AM.look];repeat rw[iN oO]
    have:=nY hq;simp only[AM.look];repeat rw[iN oO]
  .exact hd9
  refine dJ ?_;refine cA ?_;refine⟨j+1,oO,oO,?_⟩;rw[hF];subst eNB;rcases hd7 with h|h;.rw[h];simp only[MH,LH];have uU:=DR hr6 hA1 hAc hAl;refine fR ?_;apply zN;exact gM
  refine Mv.trans (Mv.swap tk' T ⟨oO,oO⟩ ⟨oO,oO⟩) ?_;simp only[MH,LH];have uU:=DR hr6 hA1 hAc hAl;refine fR ?_;apply zN;exact gM
 have hjq:q=i+j:=oO;subst hjq;obtain⟨hr1,hr2,hr3⟩:=hR.rt (i+j) oO;have hst':=aTD (Ls (i+j)) n hr1.r0 (k+17) T (kx+1) oO oO (Γ:=Γ);obtain⟨SB,eSB⟩:∃c,c=(Ls (i+j)).st.cells:=⟨_,rfl⟩;have hBl:SB.length=7:=by rw[eSB];rfl
 rw[<-eSB]at hst' eRV;have hB7:SB.take 7=SB:=by rw[eSB];rfl
 have hB1:SB.all AM.one=aB:=by rw[eSB];rfl
 have hBc:SB.all clean=aB:=by rw[eSB];rfl
 have hd0':∀b,kx<=b->del (F (i+j)) b=F (i+j):=λ b hb=>by rw[hF];simp only[MH,LH];have uU:=hr3;exact fR gG
 have hdel2:=hd0' kx (aF _);have hdel3:=hd0' (kx+1) oO;have hll':decide ((j:Int)<((i+j-i:Nat):Int))=aE:=by simp
 have uU:=fP hll' hAl hA7 hA1 hAc hBl hB7 hB1 (rA hBc hz7 hz8 hdel2 hdel3 @apN);refine dJ ?_;refine dI λ ht=>?_;refine jR [.far (.tup [.agg SB,(0:Int)]) (kx+1) [(kx,⟨7,aB,[SA]⟩),(k+2,⟨7,aB,[zst7]⟩),(k+1,⟨7,aB,[zst7]⟩),(k,NB)] (MH (k+17) T (Ls (i+j))) (MH (k+17) T (Ls (i+j)))] ?_;refine jV (AM.zs ?_) (AM.zs ?_) (AM.zs ?_);.exact λ q=>by rw[hF]
 .exact λ q hq=>by
   rcases hq with hq|hq;.have:=nY hq;simp only[AM.look];repeat rw[iN oO]
   have:=nY hq;simp only[AM.look];repeat rw[iN oO]
 refine dJ ?_;refine cA ?_;rw[eNB];refine gL (nV (k1:=kx+2) (fr1:=[(19,.lit (.int .i64 0)),(18,.ptr (kx+1) 0 0),(15,.ptr kx 0 0),(11,.lit (.int .i64 0)),(7,.ptr (k+2) 0 0),(6,.ptr (k+1) 0 0)]) (H1:=[(kx+1,⟨7,aB,[SB]⟩),(kx,⟨7,aB,[SA]⟩),(k+2,⟨7,aB,[zst7]⟩),(k+1,⟨7,aB,[zst7]⟩)]) (pH oO (sW (ID (@hr3) (@hA1) (@hAc) (@hB1) (@hBc))) (by simp only[MH,LH];simp-dsimp-implicitDefEqProofs (disch:=omega)only[go_sem,gY,hr3,hA1,hAc,hB1,hBc,aM,eq_self,↓reduceIte]) (sW (ID (@hr3) (@hA1) (@hAc) (@hB1) (@hBc))) (sW (ID (@hr3) (@hA1) (@hAc) (@hB1) (@hBc))))) ?_;have kp:=kpb k kx [0,1,2,3,6,7,8,9,10,11,12,14,15,17,18,19,33,44,45,46,47,61,62,63,64];have uU:=fP hA7 hA1 hAc hAl hB7 hB1 hBc hBl (tZ hz7 hz8 @apN);refine dJ ?_;refine cA ?_;have uU:=fP hA7 hA1 hAc hAl hB7 hB1 hBc hBl (tZ hz7 hz8 @apN);refine kJ (zN ?_);rw[eRV];first|done|rfl
theorem aNT(x:Nums)(hx:NumsOk x)(f:Nat->Sm)(hf:∀i,SmOk (f i))(nl q c qg n ng:Nat)(z:Int)(hq:q=min nl 40)(hnl:nl<=9223372036854775807)(hz0:0<=z)(hz1:z<=255)(hc:z%((q:Int)+1)=(c:Int))(hqg:x.g%6=(qg:Int))(hn:1+x.c%4=(n:Int))(hng:ng=qg+1)
 (k:Nat) (Ls:Nat->LSt) (zs:Nat->LSt×(Int×Int)×(Nat×Nat)) (hR:Runs Γ n ng (k+17) (k+(25+ng)) (k+(28+ng)) (λ i=>TC (f i)) (lL (HJ (1+x.c%4) x.cr (kB x qg).1) n) Ls zs):
 Tr aD Γ 20 k [.agg x.cells,.rd 8 nl (λ i=>smc (f i)),.lit (.int .u8 z)] [] (λ _ r1 _=>r1= .tup [.agg (Ls c).st.cells,.agg (Ls q).st.cells,aB]):=by
 have hmade:=bCP x hx (Γ:=Γ);rw[hqg,bP]at hmade;have hscr:=a1Q f hf nl 40 q hq oO oO hnl (Γ:=Γ);obtain⟨s,es⟩:∃s,s=HJ (1+x.c%4) x.cr (kB x qg).1:=⟨_,rfl⟩;have hl:=(uT x qg).1;have hc0:=hx.c0;have hg0:=hx.g0;have hsng:s.ng=ng:=by rw[es,hng];exact hl
 have hnew:=bHV s n (by rw[es];exact hn) (by rw[CG,es];exact aWX hx oO) oO oO oO oO (k+3) (Γ:=Γ);rw[hsng]at hnew;rw[<-es]at hmade hR;obtain⟨kx,ekx⟩:∃kx,kx=k+(26+ng):=⟨_,rfl⟩;obtain⟨T,eT⟩:∃T,T=k+(25+ng):=⟨_,rfl⟩;rw[(oO:k+3+(23+ng)=kx),(oO:k+3+(22+ng)=T),show k+3+14=k+17 from rfl]at hnew;rw[<-eT,(oO:k+(28+ng)=kx+2)]at hR;obtain⟨RV,eRV⟩:∃r,r=AVal.tup [.agg (Ls c).st.cells,.agg (Ls q).st.cells,.lit (.bool aB)]:=⟨_,rfl⟩;rw[<-eRV];have hcq:c<=q:=by have:=rU z (oO:(0:Int)<(q:Int)+1);omega
 refine cN Tryz.func20 rfl 82 rfl bB ?_;simp only[Nums.cells]at hmade;have kp:=gZ k [0,1,2,3,6,7,8,9,10,11,12,14,15,17,18,19,33,44,45,46,47,61,62,63,64];have uU:= @Nums.cells.eq_1;refine dJ ?_;refine cA ?_;refine jR [.ret (.rd 8 q (λ i=>gJ (TC (f i))))] ?_;refine iE ?_ ?_;.exact hscr
 refine dJ ?_;refine cA ?_;refine jR [.ret (.agg [s.cpus,.lit (.int .u64 s.credit),.rd 2 s.ng (gf s)]),.far (.tup [.ptr (k+17) 0 0,(0:Int)]) kx [(k+2,⟨7,aB,[zst7]⟩),(k+1,⟨7,aB,[zst7]⟩),(k,⟨13,aB,[x.cells]⟩)] [] (MH (k+17) T (lL s n))] ?_;refine zq5 (AM.zs ?_) (AM.zs ?_) (AM.zs ?_) (AM.zs ?_) (AM.zs ?_);.exact hmade
 .exact λ q=>rfl
 .exact λ q hq=>by
   rcases hq with hq|hq;.simp[eQ,AM.look]at hq
   have:=nY hq;simp only[AM.look];repeat rw[iN oO]
 .exact hnew
 have hzi:z.tmod ((q:Int)+1)=(c:Int):=by rw[dS hz0,hc]
 have hz64:aL.wrap z=z:=wrap_i64 oO oO;have hc64:aL.wrap (c:Int)=(c:Int):=wrap_i64 oO oO;have hq1:aL.wrap ((q:Int)+1)=(q:Int)+1:=wrap_i64 oO oO;have hqn:((q:Int)+1=0)=False:=eq_false oO;have hci:(0<=(c:Int)/\(c:Int)<=(q:Int))=True:=eq_true oO;have hz7:zst7.length=7:=rfl;have uU:=fP @Nums.cells.eq_1 hzi hz64 hc64 hq1 hqn hci hz7 @iV;refine dJ ?_;refine SG ⟨λ ht=>⟨λ hg=>⟨?_⟩⟩⟩ ⟨λ ht=>⟨λ hg=>⟨?_⟩⟩⟩;rotate_left 1
 all_goals(try exact absurd trivial ‹¬True›)
 obtain⟨F,hF⟩:∃F:Nat->aO,∀i,F i=MH (k+17) T (Ls i):=⟨_,λ _=>rfl⟩;rw[<-hR.z,<-hF 0];obtain⟨NB,eNB⟩:∃B:Blk,B=⟨13,aB,[[.lit (.int .u8 x.c),.lit (.int .u8 x.g),.lit (.int .u32 x.cr),.lit (.int .u8 (x.p 0)),.lit (.int .u8 (x.p 1)),.lit (.int .u8 (x.p 2)),.lit (.int .u8 (x.p 3)),.lit (.int .u8 (x.p 4)),.lit (.int .u16 (x.w 0)),.lit (.int .u16 (x.w 1)),.lit (.int .u16 (x.w 2)),.lit (.int .u16 (x.w 3)),.lit (.int .u16 (x.w 4))]]⟩:=⟨_,rfl⟩;refine bY (X:=Nat) rfl [0,1,2,3,6,7,8,9,10,11,12,14,15,17,18,19,33,44,45,46,47,61,62,63,64] (kx+1) (λ i=>[(46,i)]) (λ i=>(k+2,⟨7,aB,[zst7]⟩)::(k+1,⟨7,aB,[zst7]⟩)::(k,NB)::F i) (λ i=>i<=c) (λ i=>c-i) 0 ?_ (aZ _) ?_;.have hl0:=(hR.rt 0 oO).2.2;rw[eNB,hF 0];simp only[MH,LH];have uU:=hl0;refine fR ?_;apply zN;exact gM
 intro i hi;have uU:= @Nums.cells.eq_1;refine fR ?_;apply zN;by_cases hi2:i<c
 .obtain⟨hd1,hd2,hd3,hd4,hd5,hd6,hd7,hd8,hd9⟩:=hR.did i oO;rw[<-hR.s i]at hd9;obtain⟨hr1,hr2,hr3⟩:=hR.rt i oO;obtain⟨hr4,hr5,hr6⟩:=hR.rt (i+1) oO;obtain⟨tk',etk⟩:∃t,t=(zs i).2.2.1:=⟨_,rfl⟩;obtain⟨kk',ekk⟩:∃t,t=(zs i).2.2.2:=⟨_,rfl⟩;obtain⟨ra,era⟩:∃t,t=(zs i).2.1.1:=⟨_,rfl⟩;obtain⟨re,ere⟩:∃t,t=(zs i).2.1.2:=⟨_,rfl⟩;rw[<-etk]at hd5 hd6 hd7 hd9;rw[<-ekk]at hd6 hd8 hd9;rw[<-era,<-ere]at hd9;simp only[gJ,jQ]at hd9;have hdel:del (F i) (kx+1)=F i:=by rw[hF];simp only[MH,LH];have uU:=hr3;exact fR gG
  have uU:=zA @Nums.cells.eq_1 hdel;refine dJ ?_;refine dI λ ht=>?_;refine jR [.far (jQ ra re) kk' [(kx+1,⟨8,aB,[gJ (TC (f i))]⟩),(k+2,⟨7,aB,[zst7]⟩),(k+1,⟨7,aB,[zst7]⟩),(k,NB)] (MH (k+17) T (Ls i)) (MH (k+17) tk' (Ls (i+1)))] ?_;refine CM (AM.zs ?_) (AM.zs ?_) (AM.zs ?_) (AM.zs ?_);.exact λ q=>by rw[hF]
  .exact λ q hq=>by
    rcases hq with hq|hq;.have:=nY hq;simp only[AM.look];repeat rw[iN oO]
    have:=nY hq;simp only[AM.look];repeat rw[iN oO]
  .exact hd9
  refine dJ ?_;refine cA ?_;refine⟨i+1,oO,oO,?_⟩;rw[hF];subst eNB;rcases hd7 with h|h;.rw[h];simp only[MH,LH];have uU:=hr6;refine fR ?_;apply zN;exact gM
  refine Mv.trans (Mv.swap tk' T ⟨oO,oO⟩ ⟨oO,oO⟩) ?_;simp only[MH,LH];have uU:=hr6;refine fR ?_;apply zN;exact gM
 have hil:i=c:=oO;subst hil;obtain⟨hr1,hr2,hr3⟩:=hR.rt i oO;have hst:=aTD (Ls i) n hr1.r0 (k+17) T (kx+1) oO oO (Γ:=Γ);obtain⟨SA,eSA⟩:∃c,c=(Ls i).st.cells:=⟨_,rfl⟩;have hAl:SA.length=7:=by rw[eSA];rfl
 rw[<-eSA]at hst eRV;have hA7:SA.take 7=SA:=by rw[eSA];rfl
 have hA1:SA.all AM.one=aB:=by rw[eSA];rfl
 have hAc:SA.all clean=aB:=by rw[eSA];rfl
 have hz8:List.drop 7 zst7=[]:=rfl;have hd0:∀b,kx<=b->del (F i) b=F i:=λ b hb=>by rw[hF];simp only[MH,LH];have uU:=hr3;exact fR gG
 have hdel:=hd0 kx (aF _);have hdel1:=hd0 (kx+1) oO;have hll:decide ((i:Int)<(i:Int))=aE:=by simp
 have hiq:(0<=(i:Int)/\(i:Int)<=(q:Int)/\(q:Int)<=(q:Int))=True:=eq_true oO;have uU:=fP hll hAl hA7 hA1 hAc hz7 hz8 hdel (tZ hdel1 hci @apN);refine dJ ?_;refine dI λ ht=>?_;refine jR [.far (.tup [.agg SA,(0:Int)]) (kx+1) [(k+2,⟨7,aB,[zst7]⟩),(k+1,⟨7,aB,[zst7]⟩),(k,NB)] (MH (k+17) T (Ls i)) (MH (k+17) T (Ls i))] ?_;refine jV (AM.zs ?_) (AM.zs ?_) (AM.zs ?_);.exact λ q=>by rw[hF]
 .exact λ q hq=>by
   rcases hq with hq|hq;.have:=nY hq;simp only[AM.look];repeat rw[iN oO]
   have:=nY hq;simp only[AM.look];repeat rw[iN oO]
 refine gL (DZ (kx+1) kx (k1:=kx+1) (fr1:=[(15,.ptr kx 0 0),(12,.lit (.int .i64 (i:Int))),(11,.lit (.int .i64 0)),(10,.ptr (k+17) 0 0),(9,.rd 8 q (λ i=>gJ (TC (f i)))),(7,.ptr (k+2) 0 0),(6,.ptr (k+1) 0 0)]) (H1:=(kx,⟨7,aB,[SA]⟩)::(k+2,⟨7,aB,[zst7]⟩)::(k+1,⟨7,aB,[zst7]⟩)::(k,NB)::F i) (pH oO (sW (fP (@hll) (@hAl) (@hA7) (@hA1) (@hAc) (@hz7) (@hz8) (@hdel) (tZ (@hdel1) (@hci) (@apN)))) (by rw[hF,eNB];simp only[MH,LH];simp-dsimp-implicitDefEqProofs (disch:=omega)only[go_sem,gY,hll,hAl,hA7,hA1,hAc,hz7,hz8,hdel,hdel1,hci,cZ,aM,eq_self,↓reduceIte]) (sW (fP (@hll) (@hAl) (@hA7) (@hA1) (@hAc) (@hz7) (@hz8) (@hdel) (tZ (@hdel1) (@hci) (@apN)))) (by rw[hF,eNB];simp only[MH,LH];simp-dsimp-implicitDefEqProofs (disch:=omega)only[go_sem,gY,hll,hAl,hA7,hA1,hAc,hz7,hz8,hdel,hdel1,hci,cZ,aM,eq_self,↓reduceIte]))) ?_;exact aTQ f nl q i n ng oO oO oO k kx T oO oO _ Ls zs hR F hF NB _ rfl eNB SA hAl hA7 hA1 hAc RV eRV
end Go.Proofs.T
end
section
namespace Go.AM
open Go
section
variable{P:Program}{Γ:dL}{o:Oper}{ev:Operand->Option AVal}{get:Nat->Option Blk}{k:Nat}
theorem aES{x y:Operand}{t ty:Nat}{p:Addr}{m c m' c':Nat}(ho:o.op= .binOp .eql t x y ty)(ht:xK P t=aA 1)(hx:ev x=aA (.lit (.slice (aA p) m c)))(hy:ev y=aA (.lit (.slice aC m' c'))):Good P Γ o ev get k ⟨.lit (.bool aE),k,[],[]⟩:=by
 refine⟨cF λ w G ρ H A a hr hrd hop=>⟨.bool aE,?_,.lit⟩,λ id hid=>by simp at hid,aF _⟩;have ex:=gO (hop x (by simp[ho,Op.operands]) _ hx);have ey:=gO (hop y (by simp[ho,Op.operands]) _ hy)
 obtain⟨e,he⟩:∃e,P.underlying t=aA (.slice e):=by
  unfold xK at ht;split at ht;.cases ht
  .rename_i e he;exact⟨e,he⟩
  .cases ht
  .cases ht
  cases ht
 obtain⟨h1,_,h3,_⟩:=GE he p m c m' c' w;simp[execOp,ho,ex,ey,h1,h3]
theorem aYH {a:Option Addr}{cap s:Nat}{f:Nat->List AVal}:VLe (.lit (.slice a 0 cap)) (.rd s 0 f):=λ w G ρ A cv hv=>by cases hv;exact .rd0
theorem a4W {kb:Nat}{fr:Fr}{H:aO}(t s:Nat)(f:Nat->List AVal){a:Option Addr}{cap:Nat}(hf:look fr t=aA (.lit (.slice a 0 cap))):Mv kb k fr H k ((t,.rd s 0 f)::del fr t) H:=aYP λ t' v hv=>by
 simp only[look]at hv;split at hv;.rename_i e;subst e;cases hv;exact⟨_,hf,aYH⟩
 rw[gU]at hv;split at hv;.cases hv
 exact⟨v,hv,bJ _⟩
end
theorem a4S{P:Program}{Γ:dL}{fn:FuncId}{k s:Nat}{g:Nat->List AVal}{cells:List AVal}{H:aO}{Q:Nat->AVal->aO->Prop}(j:Nat)(hj:cells[j]? =aA (.rd s 0 g))(h:∀a cap,Tr P Γ fn k [.agg (cells.set j (.lit (.slice a 0 cap)))] H Q):Tr P Γ fn k [.agg cells] H Q:=λ A hA w G ρ cargs hrel hvs=>by
 have hv:=hvs.2 0 _ rfl
 obtain⟨cs,hev⟩:∃cs,cargs.getD 0 undef= .agg cs:=by
  generalize cargs.getD 0 undef=cv at hv
  cases hv with
  |agg h1 h2=>exact⟨_,rfl⟩
 rw[hev]at hv
 cases hv with
 |agg h1 h2=>
  have hc:=h2 j _ hj
  obtain⟨x,cap,hx⟩:∃x cap,cs.getD j undef= .slice x 0 cap:=by
   generalize cs.getD j undef=cv at hc
   cases hc with
   |rd0=>exact⟨_,_,rfl⟩
   |rd=>exact⟨_,_,rfl⟩
  refine h x cap A hA w G ρ cargs hrel ⟨hvs.1,λ i v hi=>?_⟩
  cases i with
  |succ i=>simp at hi
  |zero=>
   cases hi;rw[hev];refine .agg (by rw[oE];exact h1) λ i v hi'=>?_;rw[dD]at hi';split at hi'
   .rename_i e;subst e;split at hi';.cases hi';rw[hx];exact .lit
    cases hi'
   exact h2 i v hi'
end Go.AM
end
section
namespace Go.Proofs.T
open Go Go.AM Go.Proofs
variable{Γ:dL}
theorem bHO(n:Nat)(f:Nat->List AVal)(k:Nat)(hn0:0<n)(hn2:n<=100000)(hone:(((aN n).map f).all λ row=>row.all AM.one)=aB):
 Tr aD Γ 122 k [.rd 8 n f] [] (λ k1 r1 H1=>k1=k+2/\r1= .sl (k+1) 0 n/\H1=[(k+1,⟨8,aB,(aN n).map f⟩)]):=by
 obtain⟨R,eR⟩:∃R,R=(aN n).map f:=⟨_,rfl⟩;have hl:R.length=n:=by rw[eR];simp
 obtain⟨RH,eRH⟩:∃x:aO,x=[(k+1,⟨8,aB,R⟩)]:=⟨_,rfl⟩;rw[<-eR]at hone⊢
 refine Tr.mono (dR (kk:=k+2) (V:= .sl (k+1) 0 n) (RH:=RH) oO (by simp[bd,LJ,iM,jS]) (by rw[eRH];exact jB (by simp only[jS,dTt];omega) rfl) ?_) (λ _ _ _ h=>⟨h.1,h.2.1,h.2.2.trans eRH⟩);have hne:¬n=0:=oO;have eR2:=eR.symm;refine cN bKP rfl 8 rfl bB ?_;have kp:=gZ k [0,2,4];have uU:=DR hone hne hn0 eR2;refine dJ ?_;refine dI λ ht=>?_;have uU:=DR hone hne hn0 eR2;refine kJ (zN ?_);refine⟨rfl,?_⟩;rw[eRH];exact fR gG
theorem a7V(n:Nat)(f:Nat->List AVal)(k:Nat)(hn0:0<n)(hn2:n<=100000)(hone:(((aN n).map f).all λ row=>row.all AM.one)=aB):
 Tr aD Γ 123 k [.rd 1 n f] [] (λ k1 r1 H1=>k1=k+2/\r1= .sl (k+1) 0 n/\H1=[(k+1,⟨1,aB,(aN n).map f⟩)]):=by
 obtain⟨R,eR⟩:∃R,R=(aN n).map f:=⟨_,rfl⟩;have hl:R.length=n:=by rw[eR];simp
 obtain⟨RH,eRH⟩:∃x:aO,x=[(k+1,⟨1,aB,R⟩)]:=⟨_,rfl⟩;rw[<-eR]at hone⊢
 refine Tr.mono (dR (kk:=k+2) (V:= .sl (k+1) 0 n) (RH:=RH) oO (by simp[bd,LJ,iM,jS]) (by rw[eRH];exact jB (by simp only[jS,dTt];omega) rfl) ?_) (λ _ _ _ h=>⟨h.1,h.2.1,h.2.2.trans eRH⟩);have hne:¬n=0:=oO;have eR2:=eR.symm;refine cN Tryz.func123 rfl 8 rfl bB ?_;have kp:=gZ k [0,2,4];have uU:=DR hone hne hn0 eR2;refine dJ ?_;refine dI λ ht=>?_;have uU:=DR hone hne hn0 eR2;refine kJ (zN ?_);refine⟨rfl,?_⟩;rw[eRH];exact fR gG
theorem bCH(cap:Nat):AM.Pure aD Γ 122 [.lit (.slice aC 0 cap)] ():=by refine bT bKP rfl 8 rfl bB rfl λ k=>?_;have kp:=gZ k [0,2,4];refine dJ ?_;refine dI λ ht=>?_;refine bV rfl ⟨_,rfl,bC ?_⟩;rfl
theorem bCI(p:Addr)(cap k:Nat):
 Tr aD Γ 122 k [.lit (.slice (aA p) 0 cap)] [] (λ k1 r1 H1=>k1=k+1/\r1= .sl k 0 0/\H1=[(k,⟨8,aB,[]⟩)]):=by
 obtain⟨RH,eRH⟩:∃x:aO,x=[(k,⟨8,aB,[]⟩)]:=⟨_,rfl⟩;refine Tr.mono (dR (kk:=k+1) (V:= .sl k 0 0) (RH:=RH) oO (by simp[bd,LJ,iM,jS]) (by rw[eRH];exact jB (by simp only[jS,dTt];omega) rfl) ?_) (λ _ _ _ h=>⟨h.1,h.2.1,h.2.2.trans eRH⟩);refine cN bKP rfl 8 rfl bB ?_;have kp:=gZ k [0,2,4];refine dJ ?_;refine cA ?_;refine jR [.raw (aA 4) ⟨.lit (.bool aE),k,[],[]⟩] ?_;refine iE ?_ ?_;.exact aES rfl iF rfl rfl
 refine dJ ?_;refine dI λ ht=>?_;refine gL (a4W 0 8 (λ _=>[]) (by simp-dsimp-implicitDefEqProofs (disch:=omega)only[go_sem,gY,eq_self,↓reduceIte];rfl)) ?_;refine fR ?_;apply zN;refine dJ ?_;refine cA ?_;refine kJ (zN ?_);refine⟨rfl,?_⟩;rw[eRH];exact fR gG
attribute [local irreducible] jE del
def YP(b ns n:Nat)(sF:Nat->Nat->List AVal)(i:Nat):List (List AVal):=(aN ns).map λ j=>if j<i then [.sl (b+j) 0 n]else [.rd 3 n (sF j)]
section
variable{b ns n i:Nat}{sF:Nat->Nat->List AVal}
theorem MN:(YP b ns n sF i).length=ns:=by simp[YP]
theorem PS:YP b ns n sF 0=(aN ns).map λ j=>[.rd 3 n (sF j)]:=fD λ j hj=>iN oO
theorem XL(h:i<ns):(YP b ns n sF i)[i]? =aA [.rd 3 n (sF i)]:=by simp[YP,h]
theorem PT:YP b ns n sF ns=sY b ns n ns:=fD λ j hj=>by rw[iP (dK.1 hj),iP (dK.1 hj)]
theorem aGW{x:Nat}(h:b+ns<=x)(hi:i<ns):((YP b ns n sF i).set i [.sl x 0 n]).map (λ row=>row.map (AP x (b+i)))=YP b ns n sF (i+1):=dZ λ j=>by
 rw[aP,dD];by_cases e:i=j;.subst e;rw[iP rfl,iP (by rw[MN];exact hi)];simp only[YP,aP,mG hi,bU,bI,bQ,AP,sw];rw[iP trivial,iP oO]
 rw[iN e];by_cases hj:j<ns
 .simp only[YP,aP,mG hj,bU];by_cases h1:j<i;.rw[iP h1,iP oO];simp only[bI,bQ,AP,sw];rw[iN oO,iN oO]
  rw[iN h1,iN oO];rfl
 rw[aX (by rw[MN];omega),aX (by rw[MN];omega)];rfl
theorem a3I{kk:Nat}(h:b+ns<=kk):((YP b ns n sF i).all λ row=>row.all (iM (jS kk)))=aB:=by
 rw[aW];intro row hr;simp only[YP,dB,dK]at hr;obtain⟨g,hg,rfl⟩:=hr;split;.simp[iM,jS];omega
 rfl
end
attribute [go_sem] MN a3I
theorem aWN(cpus credit:Int)(ng n ns:Nat)(gF kF uF:Nat->List AVal)(sF:Nat->Nat->List AVal)(nt:Nat)(tF:Nat->List AVal)(h7:0<nt)(h8:nt<=1000)(htone:(((aN nt).map tF).all λ row=>row.all AM.one)=aB)(hgone:(((aN ng).map gF).all λ row=>row.all AM.one)=aB)(hkone:(((aN n).map kF).all λ row=>row.all AM.one)=aB)(huone:(((aN n).map uF).all λ row=>row.all AM.one)=aB)(hsone:∀g,(((aN n).map (sF g)).all λ row=>row.all AM.one)=aB)
 (h1:0<ng) (h2:ng<=1000) (h3:0<n) (h4:n<=1000) (h5:0<ns) (h6:ns<=1000) (k:Nat):
 Tr aD Γ 61 k [.agg [cpus,.lit (.int .u64 credit),.rd 2 ng gF,.rd 1 n kF,.rd 1 n uF,.rd 8 nt tF,.rd 1 ns (λ g=>[.rd 3 n (sF g)])]] []
   (λ k1 r1 H1=>k1=k+(20+ns)/\r1= .agg [cpus,.lit (.int .u64 credit),.sl (k+13) 0 ng,.sl (k+14) 0 n,.sl (k+15) 0 n,.sl (k+16) 0 nt,.sl (k+17) 0 ns]∧
     H1=(k+13,⟨2,aB,(aN ng).map gF⟩)::(k+14,⟨1,aB,(aN n).map kF⟩)::(k+15,⟨1,aB,(aN n).map uF⟩)::(k+16,⟨8,aB,(aN nt).map tF⟩)::(k+17,⟨1,aE,sY (k+18) ns n ns⟩)::mE (k+18) 3 ns (λ g=>(aN n).map (sF g))):=by
 obtain⟨kx,hkx⟩:∃x,x=k+(20+ns):=⟨_,rfl⟩;rw[<-hkx];have cG:=a0T ng gF (k+2) h1 oO hgone (Γ:=Γ);have cK:=ZX n kF (k+4) h3 oO hkone (Γ:=Γ);have cU:=ZX n uF (k+6) h3 oO huone (Γ:=Γ);have cT:=bHO nt tF (k+8) h7 oO htone (Γ:=Γ);obtain⟨oF,eoF⟩:∃o:Nat->List AVal,o=λ g=>[.rd 3 n (sF g)]:=⟨_,rfl⟩;have hoone:(((aN ns).map oF).all λ row=>row.all AM.one)=aB:=by rw[eoF];exact jG _ _ λ _=>rfl
 have cO:=a7V ns oF (k+10) h5 oO hoone (Γ:=Γ);obtain⟨GR,eG⟩:∃GR,GR=(aN ng).map gF:=⟨_,rfl⟩;obtain⟨KR,eK⟩:∃KR,KR=(aN n).map kF:=⟨_,rfl⟩;obtain⟨UR,eU⟩:∃UR,UR=(aN n).map uF:=⟨_,rfl⟩;obtain⟨TR,eT⟩:∃TR,TR=(aN nt).map tF:=⟨_,rfl⟩;obtain⟨OR,eO⟩:∃OR,OR=(aN ns).map oF:=⟨_,rfl⟩;have hO0:OR=YP (k+18) ns n sF 0:=by rw[eO,eoF,PS]
 obtain⟨SR,eS⟩:∃SR:Nat->List (List AVal),SR=λ g=>(aN n).map (sF g):=⟨_,rfl⟩;rw[<-eG]at cG⊢
 rw[<-eK]at cK;rw[<-eU]at cU;rw[<-eK,<-eU,<-eS];rw[<-eT]at cT⊢
 rw[<-eO]at cO;rw[<-eoF];obtain⟨RH,eRH⟩:∃x:aO,x=(k+13,⟨2,aB,GR⟩)::(k+14,⟨1,aB,KR⟩)::(k+15,⟨1,aB,UR⟩)::(k+16,⟨8,aB,TR⟩)::(k+17,⟨1,aE,sY (k+18) ns n ns⟩)::mE (k+18) 3 ns SR:=⟨_,rfl⟩;obtain⟨RV,eRV⟩:∃x:AVal,x= .agg [.lit (.int .i64 cpus),.lit (.int .u64 credit),.sl (k+13) 0 ng,.sl (k+14) 0 n,.sl (k+15) 0 n,.sl (k+16) 0 nt,.sl (k+17) 0 ns]:=⟨_,rfl⟩;refine Tr.mono (dR (kk:=kx) (V:=RV) (RH:=RH) oO ?_ ?_ ?_) (λ _ _ _ h=>⟨h.1,h.2.1.trans eRV,h.2.2.trans eRH⟩);.rw[eRV];simp-dsimp-implicitDefEqProofs (disch:=omega)only[go_sem,gY,RE,ltB_iff,aM,eq_self,↓reduceIte];try(simp only[aH,dTt];omega)
 .have hf:=zR (s:=3) (R:=SR) (oO:k+18+ns<=kx);have ho:((sY (k+18) ns n ns).all λ row=>row.all (iM (jS kx)))=aB:=HG oO;rw[eRH];simp only[oM]at hf;simp only[oM,fU,hf,ho,jS,AD,AE,iC,aH,dTt];repeat'(first|(refine And.intro ?_ ?_)|omega|trivial)
 refine cN Tryz.func61 rfl 44 rfl bB ?_;have kp:=gZ k [0,1,2,3,28,29,30];refine dJ ?_;refine cA ?_;refine AI [.gen (.sl (k+3) 0 ng) (k+4) [] [(k+3,⟨2,aB,GR⟩)],.gen (.sl (k+5) 0 n) (k+6) [] [(k+5,⟨1,aB,KR⟩)],.gen (.sl (k+7) 0 n) (k+8) [] [(k+7,⟨1,aB,UR⟩)],.gen (.sl (k+9) 0 nt) (k+10) [] [(k+9,⟨8,aB,TR⟩)],.gen (.sl (k+11) 0 ns) (k+12) [] [(k+11,⟨1,aB,OR⟩)]] ?_;refine cA ?_;refine dJ ?_;refine cA ?_;refine bY (X:=Nat) rfl [0,1,2,3,28,29,30] kx (λ i=>[(29,i)]) (λ i=>(k,⟨7,aE,[[cpus,.lit (.int .u64 credit),.sl (k+13) 0 ng,.sl (k+14) 0 n,.sl (k+15) 0 n,.sl (k+16) 0 nt,.sl (k+17) 0 ns]]⟩)::(k+1,⟨7,aB,[[(0:Int),.lit (.int .u64 0),(),(),(),(),()]]⟩)::(k+13,⟨2,aB,GR⟩)::(k+14,⟨1,aB,KR⟩)::(k+15,⟨1,aB,UR⟩)::(k+16,⟨8,aB,TR⟩)::(k+17,⟨1,decide (i=0),YP (k+18) ns n sF i⟩)::mE (k+18) 3 i SR) (λ i=>i<=ns) (λ i=>ns-i) 0 ?_ (aZ _) ?_;.rw[<-hO0];refine Mv.trans (MS (k2:=kx) oO) ?_;refine Mv.trans (Mv.swap (k+3) (k+13) ⟨oO,oO⟩ ⟨oO,oO⟩) ?_;refine Mv.trans (Mv.swap (k+5) (k+14) ⟨oO,oO⟩ ⟨oO,oO⟩) ?_;refine Mv.trans (Mv.swap (k+7) (k+15) ⟨oO,oO⟩ ⟨oO,oO⟩) ?_;refine Mv.trans (Mv.swap (k+9) (k+16) ⟨oO,oO⟩ ⟨oO,oO⟩) ?_;refine Mv.trans (Mv.swap (k+11) (k+17) ⟨oO,oO⟩ ⟨oO,oO⟩) ?_;refine fR ?_;apply zN;exact gM
 clear hO0;intro i hi;refine fR ?_;apply zN;by_cases hi2:i<ns;.have cS:=a0S n (sF i) kx h3 oO (hsone i) (Γ:=Γ);rw[show(aN n).map (sF i)=SR i by rw[eS]]at cS;have hcg:=XL (b:=k+18) (ns:=ns) (n:=n) (i:=i) (sF:=sF) hi2;have kp:Kp [0,1,2,3,28,29,30] (λ i=>if k+18<=i then i-kx+19 else i-k):=jZ;have uU:=hcg;refine dJ ?_;refine dI λ ht=>?_;refine AI [.gen (.sl (kx+1) 0 n) (kx+2) [] [(kx+1,⟨3,aB,SR i⟩)]] ?_;refine cA ?_;refine dJ ?_;refine cA ?_;refine⟨i+1,oO,oO,?_⟩;have hsw:=aGW (b:=k+18) (ns:=ns) (n:=n) (i:=i) (sF:=sF) (x:=kx+1) oO hi2;rw[gD k 18 i]at hsw;refine Mv.trans (Mv.swap (kx+1) (k+(18+i)) ⟨oO,oO⟩ ⟨oO,oO⟩) ?_;have uU:=zA hsw @sC;refine fR ?_;apply zN;exact gM
 have hil:i=ns:=oO;have hla:=PT (b:=k+18) (ns:=ns) (n:=n) (sF:=sF);subst hil;rw[hla];have hdi:decide (i=0)=aE:=decide_eq_false oO;rw[hdi];have kp:Kp [0,1,2,3,28,29,30] (λ i=>if k+18<=i then i-kx+19 else i-k):=jZ;refine dJ ?_;refine dI λ ht=>?_;have uU:=Go.AM.uU;refine kJ (zN ?_);refine⟨?_,?_⟩;.rw[eRV]
 rw[eRH];exact fR gG
theorem aWO(cpus credit:Int)(ng n ns:Nat)(gF kF uF:Nat->List AVal)(sF:Nat->Nat->List AVal)(cap:Nat)(hgone:(((aN ng).map gF).all λ row=>row.all AM.one)=aB)(hkone:(((aN n).map kF).all λ row=>row.all AM.one)=aB)(huone:(((aN n).map uF).all λ row=>row.all AM.one)=aB)(hsone:∀g,(((aN n).map (sF g)).all λ row=>row.all AM.one)=aB)
 (h1:0<ng) (h2:ng<=1000) (h3:0<n) (h4:n<=1000) (h5:0<ns) (h6:ns<=1000) (k:Nat):
 Tr aD Γ 61 k [.agg [cpus,.lit (.int .u64 credit),.rd 2 ng gF,.rd 1 n kF,.rd 1 n uF,.lit (.slice aC 0 cap),.rd 1 ns (λ g=>[.rd 3 n (sF g)])]] []
   (λ k1 r1 H1=>k1=k+(20+ns)/\r1= .agg [cpus,.lit (.int .u64 credit),.sl (k+13) 0 ng,.sl (k+14) 0 n,.sl (k+15) 0 n,.sl (k+16) 0 0,.sl (k+17) 0 ns]∧
     H1=(k+13,⟨2,aB,(aN ng).map gF⟩)::(k+14,⟨1,aB,(aN n).map kF⟩)::(k+15,⟨1,aB,(aN n).map uF⟩)::(k+16,⟨8,aB,[]⟩)::(k+17,⟨1,aE,sY (k+18) ns n ns⟩)::mE (k+18) 3 ns (λ g=>(aN n).map (sF g))):=by
 obtain⟨kx,hkx⟩:∃x,x=k+(20+ns):=⟨_,rfl⟩;rw[<-hkx];have cG:=a0T ng gF (k+2) h1 oO hgone (Γ:=Γ);have cK:=ZX n kF (k+4) h3 oO hkone (Γ:=Γ);have cU:=ZX n uF (k+6) h3 oO huone (Γ:=Γ);have cT:=bCH cap (Γ:=Γ);obtain⟨oF,eoF⟩:∃o:Nat->List AVal,o=λ g=>[.rd 3 n (sF g)]:=⟨_,rfl⟩;have hoone:(((aN ns).map oF).all λ row=>row.all AM.one)=aB:=by rw[eoF];exact jG _ _ λ _=>rfl
 have cO:=a7V ns oF (k+8) h5 oO hoone (Γ:=Γ);obtain⟨GR,eG⟩:∃GR,GR=(aN ng).map gF:=⟨_,rfl⟩;obtain⟨KR,eK⟩:∃KR,KR=(aN n).map kF:=⟨_,rfl⟩;obtain⟨UR,eU⟩:∃UR,UR=(aN n).map uF:=⟨_,rfl⟩;skip
 obtain⟨OR,eO⟩:∃OR,OR=(aN ns).map oF:=⟨_,rfl⟩;have hO0:OR=YP (k+18) ns n sF 0:=by rw[eO,eoF,PS]
 obtain⟨SR,eS⟩:∃SR:Nat->List (List AVal),SR=λ g=>(aN n).map (sF g):=⟨_,rfl⟩;rw[<-eG]at cG⊢
 rw[<-eK]at cK;rw[<-eU]at cU;rw[<-eK,<-eU,<-eS];skip
 rw[<-eO]at cO;rw[<-eoF];obtain⟨RH,eRH⟩:∃x:aO,x=(k+13,⟨2,aB,GR⟩)::(k+14,⟨1,aB,KR⟩)::(k+15,⟨1,aB,UR⟩)::(k+16,⟨8,aB,[]⟩)::(k+17,⟨1,aE,sY (k+18) ns n ns⟩)::mE (k+18) 3 ns SR:=⟨_,rfl⟩;obtain⟨RV,eRV⟩:∃x:AVal,x= .agg [.lit (.int .i64 cpus),.lit (.int .u64 credit),.sl (k+13) 0 ng,.sl (k+14) 0 n,.sl (k+15) 0 n,.sl (k+16) 0 0,.sl (k+17) 0 ns]:=⟨_,rfl⟩;refine Tr.mono (dR (kk:=kx) (V:=RV) (RH:=RH) oO ?_ ?_ ?_) (λ _ _ _ h=>⟨h.1,h.2.1.trans eRV,h.2.2.trans eRH⟩);.rw[eRV];simp-dsimp-implicitDefEqProofs (disch:=omega)only[go_sem,gY,RE,ltB_iff,aM,eq_self,↓reduceIte];try(simp only[aH,dTt];omega)
 .have hf:=zR (s:=3) (R:=SR) (oO:k+18+ns<=kx);have ho:((sY (k+18) ns n ns).all λ row=>row.all (iM (jS kx)))=aB:=HG oO;rw[eRH];simp only[oM]at hf;simp only[oM,fU,hf,ho,jS,AD,AE,iC,aH,dTt];repeat'(first|(refine And.intro ?_ ?_)|omega|trivial)
 refine cN Tryz.func61 rfl 44 rfl bB ?_;have kp:=gZ k [0,1,2,3,28,29,30];refine dJ ?_;refine cA ?_;refine AI [.gen (.sl (k+3) 0 ng) (k+4) [] [(k+3,⟨2,aB,GR⟩)],.gen (.sl (k+5) 0 n) (k+6) [] [(k+5,⟨1,aB,KR⟩)],.gen (.sl (k+7) 0 n) (k+8) [] [(k+7,⟨1,aB,UR⟩)],.ret (),.gen (.sl (k+9) 0 ns) (k+10) [] [(k+9,⟨1,aB,OR⟩)]] ?_;refine cA ?_;refine dJ ?_;refine cA ?_;refine bY (X:=Nat) rfl [0,1,2,3,28,29,30] kx (λ i=>[(29,i)]) (λ i=>(k,⟨7,aE,[[cpus,.lit (.int .u64 credit),.sl (k+13) 0 ng,.sl (k+14) 0 n,.sl (k+15) 0 n,(),.sl (k+17) 0 ns]]⟩)::(k+1,⟨7,aB,[[(0:Int),.lit (.int .u64 0),(),(),(),(),()]]⟩)::(k+13,⟨2,aB,GR⟩)::(k+14,⟨1,aB,KR⟩)::(k+15,⟨1,aB,UR⟩)::(k+17,⟨1,decide (i=0),YP (k+18) ns n sF i⟩)::mE (k+18) 3 i SR) (λ i=>i<=ns) (λ i=>ns-i) 0 ?_ (aZ _) ?_;.rw[<-hO0];refine Mv.trans (MS (k2:=kx) oO) ?_;refine Mv.trans (Mv.swap (k+3) (k+13) ⟨oO,oO⟩ ⟨oO,oO⟩) ?_;refine Mv.trans (Mv.swap (k+5) (k+14) ⟨oO,oO⟩ ⟨oO,oO⟩) ?_;refine Mv.trans (Mv.swap (k+7) (k+15) ⟨oO,oO⟩ ⟨oO,oO⟩) ?_;refine Mv.trans (Mv.swap (k+9) (k+17) ⟨oO,oO⟩ ⟨oO,oO⟩) ?_;refine fR ?_;apply zN;exact gM
 clear hO0;intro i hi;refine fR ?_;apply zN;by_cases hi2:i<ns;.have cS:=a0S n (sF i) kx h3 oO (hsone i) (Γ:=Γ);rw[show(aN n).map (sF i)=SR i by rw[eS]]at cS;have hcg:=XL (b:=k+18) (ns:=ns) (n:=n) (i:=i) (sF:=sF) hi2;have kp:Kp [0,1,2,3,28,29,30] (λ i=>if k+18<=i then i-kx+19 else i-k):=jZ;have uU:=hcg;refine dJ ?_;refine dI λ ht=>?_;refine AI [.gen (.sl (kx+1) 0 n) (kx+2) [] [(kx+1,⟨3,aB,SR i⟩)]] ?_;refine cA ?_;refine dJ ?_;refine cA ?_;refine⟨i+1,oO,oO,?_⟩;have hsw:=aGW (b:=k+18) (ns:=ns) (n:=n) (i:=i) (sF:=sF) (x:=kx+1) oO hi2;rw[gD k 18 i]at hsw;refine Mv.trans (Mv.swap (kx+1) (k+(18+i)) ⟨oO,oO⟩ ⟨oO,oO⟩) ?_;have uU:=zA hsw @sC;refine fR ?_;apply zN;exact gM
 have hil:i=ns:=oO;have hla:=PT (b:=k+18) (ns:=ns) (n:=n) (sF:=sF);subst hil;rw[hla];have hdi:decide (i=0)=aE:=decide_eq_false oO;rw[hdi];have kp:Kp [0,1,2,3,28,29,30] (λ i=>if k+18<=i then i-kx+19 else i-k):=jZ;refine dJ ?_;refine dI λ ht=>?_;refine gL (UZ k 8 (B:=⟨7,aE,[[cpus,.lit (.int .u64 credit),.sl (k+13) 0 ng,.sl (k+14) 0 n,.sl (k+15) 0 n,(),.sl (k+17) 0 i]]⟩) (by simp(disch:=omega)only[AM.look,gY,↓reduceIte]) oO) ?_;refine fR ?_;apply zN;refine gL (aDK (k+1) 5 kx 0 0 (B:=⟨7,aE,[[cpus,.lit (.int .u64 credit),.sl (k+13) 0 ng,.sl (k+14) 0 n,.sl (k+15) 0 n,(),.sl (k+17) 0 i]]⟩) (T:=⟨8,aB,[]⟩) (by simp(disch:=omega)only[AM.look,gY,↓reduceIte]) (by simp(disch:=omega)only[AM.look,gY,↓reduceIte]) oO rfl rfl rfl) ?_;refine fR ?_;apply zN;have hcs:(sY (k+18) i n i).map (λ row=>row.map (AP kx (k+16)))=sY (k+18) i n i:=by rw[sG,jM];refine fD λ g hg=>?_;have:=dK.1 hg;simp only[Function.comp,bI,bQ,AP,sw];rw[iN oO,iN oO]
 refine gL (Mv.swap kx (k+16) ⟨oO,oO⟩ ⟨oO,oO⟩) ?_;have uU:=hcs;refine fR ?_;apply zN;have uU:=hcs;refine kJ (zN ?_);refine⟨?_,?_⟩;.rw[eRV]
 rw[eRH];exact fR gG
theorem aWP(cpus credit:Int)(ng n ns:Nat)(gF kF uF:Nat->List AVal)(sF:Nat->Nat->List AVal)(p:Addr)(cap:Nat)(hgone:(((aN ng).map gF).all λ row=>row.all AM.one)=aB)(hkone:(((aN n).map kF).all λ row=>row.all AM.one)=aB)(huone:(((aN n).map uF).all λ row=>row.all AM.one)=aB)(hsone:∀g,(((aN n).map (sF g)).all λ row=>row.all AM.one)=aB)
 (h1:0<ng) (h2:ng<=1000) (h3:0<n) (h4:n<=1000) (h5:0<ns) (h6:ns<=1000) (k:Nat):
 Tr aD Γ 61 k [.agg [cpus,.lit (.int .u64 credit),.rd 2 ng gF,.rd 1 n kF,.rd 1 n uF,.lit (.slice (aA p) 0 cap),.rd 1 ns (λ g=>[.rd 3 n (sF g)])]] []
   (λ k1 r1 H1=>k1=k+(20+ns)/\r1= .agg [cpus,.lit (.int .u64 credit),.sl (k+13) 0 ng,.sl (k+14) 0 n,.sl (k+15) 0 n,.sl (k+16) 0 0,.sl (k+17) 0 ns]∧
     H1=(k+13,⟨2,aB,(aN ng).map gF⟩)::(k+14,⟨1,aB,(aN n).map kF⟩)::(k+15,⟨1,aB,(aN n).map uF⟩)::(k+16,⟨8,aB,[]⟩)::(k+17,⟨1,aE,sY (k+18) ns n ns⟩)::mE (k+18) 3 ns (λ g=>(aN n).map (sF g))):=by
 obtain⟨kx,hkx⟩:∃x,x=k+(20+ns):=⟨_,rfl⟩;rw[<-hkx];have cG:=a0T ng gF (k+2) h1 oO hgone (Γ:=Γ);have cK:=ZX n kF (k+4) h3 oO hkone (Γ:=Γ);have cU:=ZX n uF (k+6) h3 oO huone (Γ:=Γ);have cT:=bCI p cap (k+8) (Γ:=Γ);obtain⟨oF,eoF⟩:∃o:Nat->List AVal,o=λ g=>[.rd 3 n (sF g)]:=⟨_,rfl⟩;have hoone:(((aN ns).map oF).all λ row=>row.all AM.one)=aB:=by rw[eoF];exact jG _ _ λ _=>rfl
 have cO:=a7V ns oF (k+9) h5 oO hoone (Γ:=Γ);obtain⟨GR,eG⟩:∃GR,GR=(aN ng).map gF:=⟨_,rfl⟩;obtain⟨KR,eK⟩:∃KR,KR=(aN n).map kF:=⟨_,rfl⟩;obtain⟨UR,eU⟩:∃UR,UR=(aN n).map uF:=⟨_,rfl⟩;skip
 obtain⟨OR,eO⟩:∃OR,OR=(aN ns).map oF:=⟨_,rfl⟩;have hO0:OR=YP (k+18) ns n sF 0:=by rw[eO,eoF,PS]
 obtain⟨SR,eS⟩:∃SR:Nat->List (List AVal),SR=λ g=>(aN n).map (sF g):=⟨_,rfl⟩;rw[<-eG]at cG⊢
 rw[<-eK]at cK;rw[<-eU]at cU;rw[<-eK,<-eU,<-eS];skip
 rw[<-eO]at cO;rw[<-eoF];obtain⟨RH,eRH⟩:∃x:aO,x=(k+13,⟨2,aB,GR⟩)::(k+14,⟨1,aB,KR⟩)::(k+15,⟨1,aB,UR⟩)::(k+16,⟨8,aB,[]⟩)::(k+17,⟨1,aE,sY (k+18) ns n ns⟩)::mE (k+18) 3 ns SR:=⟨_,rfl⟩;obtain⟨RV,eRV⟩:∃x:AVal,x= .agg [.lit (.int .i64 cpus),.lit (.int .u64 credit),.sl (k+13) 0 ng,.sl (k+14) 0 n,.sl (k+15) 0 n,.sl (k+16) 0 0,.sl (k+17) 0 ns]:=⟨_,rfl⟩;refine Tr.mono (dR (kk:=kx) (V:=RV) (RH:=RH) oO ?_ ?_ ?_) (λ _ _ _ h=>⟨h.1,h.2.1.trans eRV,h.2.2.trans eRH⟩);.rw[eRV];simp-dsimp-implicitDefEqProofs (disch:=omega)only[go_sem,gY,RE,ltB_iff,aM,eq_self,↓reduceIte];try(simp only[aH,dTt];omega)
 .have hf:=zR (s:=3) (R:=SR) (oO:k+18+ns<=kx);have ho:((sY (k+18) ns n ns).all λ row=>row.all (iM (jS kx)))=aB:=HG oO;rw[eRH];simp only[oM]at hf;simp only[oM,fU,hf,ho,jS,AD,AE,iC,aH,dTt];repeat'(first|(refine And.intro ?_ ?_)|omega|trivial)
 refine cN Tryz.func61 rfl 44 rfl bB ?_;have kp:=gZ k [0,1,2,3,28,29,30];refine dJ ?_;refine cA ?_;refine AI [.gen (.sl (k+3) 0 ng) (k+4) [] [(k+3,⟨2,aB,GR⟩)],.gen (.sl (k+5) 0 n) (k+6) [] [(k+5,⟨1,aB,KR⟩)],.gen (.sl (k+7) 0 n) (k+8) [] [(k+7,⟨1,aB,UR⟩)],.gen (.sl (k+8) 0 0) (k+9) [] [(k+8,⟨8,aB,[]⟩)],.gen (.sl (k+10) 0 ns) (k+11) [] [(k+10,⟨1,aB,OR⟩)]] ?_;refine cA ?_;refine dJ ?_;refine cA ?_;refine bY (X:=Nat) rfl [0,1,2,3,28,29,30] kx (λ i=>[(29,i)]) (λ i=>(k,⟨7,aE,[[cpus,.lit (.int .u64 credit),.sl (k+13) 0 ng,.sl (k+14) 0 n,.sl (k+15) 0 n,.sl (k+16) 0 0,.sl (k+17) 0 ns]]⟩)::(k+1,⟨7,aB,[[(0:Int),.lit (.int .u64 0),(),(),(),(),()]]⟩)::(k+13,⟨2,aB,GR⟩)::(k+14,⟨1,aB,KR⟩)::(k+15,⟨1,aB,UR⟩)::(k+16,⟨8,aB,[]⟩)::(k+17,⟨1,decide (i=0),YP (k+18) ns n sF i⟩)::mE (k+18) 3 i SR) (λ i=>i<=ns) (λ i=>ns-i) 0 ?_ (aZ _) ?_;.rw[<-hO0];refine Mv.trans (MS (k2:=kx) oO) ?_;refine Mv.trans (Mv.swap (k+3) (k+13) ⟨oO,oO⟩ ⟨oO,oO⟩) ?_;refine Mv.trans (Mv.swap (k+5) (k+14) ⟨oO,oO⟩ ⟨oO,oO⟩) ?_;refine Mv.trans (Mv.swap (k+7) (k+15) ⟨oO,oO⟩ ⟨oO,oO⟩) ?_;refine Mv.trans (Mv.swap (k+8) (k+16) ⟨oO,oO⟩ ⟨oO,oO⟩) ?_;refine Mv.trans (Mv.swap (k+10) (k+17) ⟨oO,oO⟩ ⟨oO,oO⟩) ?_;refine fR ?_;apply zN;exact gM
 clear hO0;intro i hi;refine fR ?_;apply zN;by_cases hi2:i<ns;.have cS:=a0S n (sF i) kx h3 oO (hsone i) (Γ:=Γ);rw[show(aN n).map (sF i)=SR i by rw[eS]]at cS;have hcg:=XL (b:=k+18) (ns:=ns) (n:=n) (i:=i) (sF:=sF) hi2;have kp:Kp [0,1,2,3,28,29,30] (λ i=>if k+18<=i then i-kx+19 else i-k):=jZ;have uU:=hcg;refine dJ ?_;refine dI λ ht=>?_;refine AI [.gen (.sl (kx+1) 0 n) (kx+2) [] [(kx+1,⟨3,aB,SR i⟩)]] ?_;refine cA ?_;refine dJ ?_;refine cA ?_;refine⟨i+1,oO,oO,?_⟩;have hsw:=aGW (b:=k+18) (ns:=ns) (n:=n) (i:=i) (sF:=sF) (x:=kx+1) oO hi2;rw[gD k 18 i]at hsw;refine Mv.trans (Mv.swap (kx+1) (k+(18+i)) ⟨oO,oO⟩ ⟨oO,oO⟩) ?_;have uU:=zA hsw @sC;refine fR ?_;apply zN;exact gM
 have hil:i=ns:=oO;have hla:=PT (b:=k+18) (ns:=ns) (n:=n) (sF:=sF);subst hil;rw[hla];have hdi:decide (i=0)=aE:=decide_eq_false oO;rw[hdi];have kp:Kp [0,1,2,3,28,29,30] (λ i=>if k+18<=i then i-kx+19 else i-k):=jZ;refine dJ ?_;refine dI λ ht=>?_;have uU:=Go.AM.uU;refine kJ (zN ?_);refine⟨?_,?_⟩;.rw[eRV]
 rw[eRH];exact fR gG
theorem rV{L:List Tk}{i:Nat}(h:i<L.length):(L.map tR)[i]? =aA (tR (L.getD i gX)):=by simp[h,oH]
theorem FR{L:List Tk}{i j:Nat}:((L.map tR).set i (tR (L.getD j gX))).set j (tR (L.getD i gX))=(YJ gX L i j).map tR:=by simp[YJ,iX]
theorem LR{R:List (List AVal)}{p q:Nat}{row:List AVal}(h:R[q]? =aA row):(R.set p row)[q]? =aA row:=by
 rw[dD];split;.rename_i e;subst e;rw[iP (aK.1 h).1]
 exact h
theorem aLI(x y:Tk):AM.Pure aD Γ 69 [.agg (tR x),.agg (tR y)] (aL.wrap (x.id-y.id):Int):=by unfold tR;refine bT Tryz.func69 rfl 10 rfl bB rfl λ k=>?_;have kp:=gZ k [0,1,2,3,4];refine fC ?_;refine cA ?_;refine bV rfl ⟨_,rfl,bC ?_⟩;rfl
theorem VG(l:List Tk)(a b n:Nat)(h1:a+n<=l.length)(h2:b+n<=l.length)(hl:l.length<=100000)(cmp:AVal)(k id:Nat)(hid:id<k):
 AM.Tr aD Γ 285 k [.sl id 0 l.length,a,b,n,cmp] [(id,⟨8,aB,l.map tR⟩)]
  (λ k1 r1 H1=>k1=k/\r1= .tup []/\H1=[(id,⟨8,aB,(ZA gX l a b n).map tR⟩)]):=by
 have i0:¬id=k:=oO;have i4:∀q,id<k+q:=λ q=>oO;have i1:∀q,¬id=k+q:=λ q=>oO;have i2:¬k=id:=oO;have i3:∀q,¬k+q=id:=λ q=>oO;obtain⟨N,eN⟩:∃N,N=l.length:=⟨_,rfl⟩;rw[<-eN];refine cN Tryz.func285 rfl 38 rfl bB ?_;have kp:=gZ k [0,1,2,3,10,13];have uU:=rA hid i0 i1 i2 i3 i4;refine fC ?_;refine cA ?_;refine bY (X:=Nat) rfl [0,1,2,3,10,13] k (λ i=>[(10,i)]) (λ i=>[(id,⟨8,aB,(ZA gX l a b i).map tR⟩)]) (λ i=>i<=n) (λ i=>n-i) 0 ?_ (aZ _) ?_;.rw[show ZA gX l a b 0=l from rfl];refine fJ ?_;apply zN;exact gM
 intro i hi;obtain⟨L,eL⟩:∃L,L=ZA gX l a b i:=⟨_,rfl⟩;have hL:L.length=N:=by rw[eL,pB,eN]
 have hnx:ZA gX l a b (i+1)=YJ gX L (a+i) (b+i):=by rw[ZA,eL]
 rw[<-eL];by_cases hlt:i<n
 .have g1:=rV (L:=L) (i:=a+i) oO;have g2:=rV (L:=L) (i:=b+i) oO;have hsw:=FR (L:=L) (i:=a+i) (j:=b+i);have hRl:(L.map tR).length=N:=by rw[cX,hL]
  obtain⟨R,eR⟩:∃R,R=L.map tR:=⟨_,rfl⟩;obtain⟨x,ex⟩:∃x,x=L.getD (a+i) gX:=⟨_,rfl⟩;obtain⟨y,ey⟩:∃y,y=L.getD (b+i) gX:=⟨_,rfl⟩;rw[<-eR,<-ex]at g1;rw[<-eR,<-ey]at g2;rw[<-eR,<-ex,<-ey]at hsw;rw[<-eR]at hRl⊢
  simp only[tR]at g1 g2 hsw;have w1:aL.wrap ((a:Int)+(i:Int))=((a+i:Nat):Int):=by rw[dP oO oO];omega
  have w2:aL.wrap ((b:Int)+(i:Int))=((b+i:Nat):Int):=by rw[dP oO oO];omega
  have g3:=LR (p:=a+i) g2;have b1:a+i<N:=oO;have b2:b+i<N:=oO;have uU:=fP hid i0 i1 i2 i3 i4 g1 g2 (rA g3 w1 w2 b1 b2 hRl);refine fJ ?_;apply zN;have kp:Kp [0,1,2,3,10,13] (λ i=>if k<=i then i-k+1 else 0):=jZ;refine fC ?_;refine dI λ ht=>?_;refine⟨i+1,oO,oO,?_⟩;rw[hnx,<-hsw,(oO:((i+1:Nat):Int)=(i:Int)+1)];exact gM
 have hin:i=n:=oO;subst hin;refine fJ ?_;apply zN;have kp:Kp [0,1,2,3,10,13] (λ i=>if k<=i then i-k+1 else 0):=jZ;refine fC ?_;refine dI λ ht=>?_;refine⟨_,rfl,rfl,?_⟩;rw[eL]
theorem aUR(l:List Tk)(hl:l.length<=100000)(d:DE)(hd:d.size<=100000)(k id:Nat)(hid:id<k):
 AM.Tr aD Γ 125 k [.sl id 0 l.length,.fn 64 [.rp d.cells]] [(id,⟨8,aB,l.map tR⟩)]
  (λ k1 r1 H1=>k1=k/\r1= .lit (.int .i64 (idx (λ i=>tH d (l.getD i gX)) l.length))/\H1=[(id,⟨8,aB,l.map tR⟩)]):=by
 have i0:¬id=k:=oO;have i4:∀q,id<k+q:=λ q=>oO;have i1:∀q,¬id=k+q:=λ q=>oO;have i2:¬k=id:=oO;have i3:∀q,¬k+q=id:=λ q=>oO;obtain⟨N,eN⟩:∃N,N=l.length:=⟨_,rfl⟩;rw[<-eN];obtain⟨z,ez⟩:∃z,z=idx (λ i=>tH d (l.getD i gX)) N:=⟨_,rfl⟩;rw[<-ez];obtain⟨R,eR⟩:∃R,R=l.map tR:=⟨_,rfl⟩;have hRl:R.length=N:=by rw[eR,cX,eN]
 rw[<-eR];obtain⟨dc,edc⟩:∃c,c=d.cells:=⟨_,rfl⟩;rw[<-edc];refine cN Tryz.func125 rfl 19 rfl bB ?_;have kp:Kp [0,1,4,5,7,8,9,16] (λ i=>if k<=i then i-k+1 else 0):=jZ;have uU:=rA hid i0 i1 i2 i3 i4;refine fC ?_;refine cA ?_;refine bY (X:=Nat) rfl [0,1,4,5,7,8,9,16] k (λ i=>[(8,i)]) (λ i=>[(id,⟨8,aB,R⟩)]) (λ i=>i<=N/\∀j,j<i->tH d (l.getD j gX)=aE) (λ i=>N-i) 0 ?_ ⟨aZ _,λ j hj=>absurd hj (bO _)⟩ ?_;.refine fJ ?_;apply zN;exact gM
 rintro i ⟨hi,hall⟩;by_cases hlt:i<N
 .obtain⟨t,et⟩:∃t,t=l.getD i gX:=⟨_,rfl⟩;have hc:=a6C (Γ:=Γ) d hd t;obtain⟨y,ey⟩:∃y,y=tH d t:=⟨_,rfl⟩;rw[<-ey,<-edc]at hc;have g1:=rV (L:=l) (i:=i) oO;rw[<-eR,<-et]at g1;simp only[tR]at hc g1;have uU:=fP hid i0 i1 i2 i3 i4 hlt g1 hRl;refine fJ ?_;apply zN;refine fC ?_;refine dI λ ht=>?_;refine pP [.ret y] ?_;refine cA ?_
  cases y with
  |true=>
   have hz:z=(i:Int):=by rw[ez,idx,zC hall (by rw[<-et];exact ey.symm) hlt]
   refine fC ?_;refine dI λ ht=>?_;have uU:=fP hid i0 i1 i2 i3 i4 hlt g1 hRl;refine kJ (zN ?_);rw[hz]
  |false=>
   refine fC ?_;refine dI λ ht=>?_;refine⟨i+1,⟨oO,λ j hj=>?_⟩,oO,?_⟩
   .by_cases hj2:j=i;.subst hj2;rw[<-et];exact ey.symm
    exact hall j oO
   rw[(oO:((i+1:Nat):Int)=(i:Int)+1)];exact gM
 have hin:i=N:=oO;have hz:z= -1:=by rw[ez,idx,wU (by rw[<-hin];exact hall)]
 have hlt':¬(i:Int)<(N:Int):=oO;have uU:=xC hid i0 i1 i2 i3 i4 hlt';refine fJ ?_;apply zN;refine fC ?_;refine dI λ ht=>?_;have uU:=xC hid i0 i1 i2 i3 i4 hlt';refine kJ (zN ?_);rw[hz]
theorem aAS{f:Nat->Bool}:∀ {N:Nat},¬(∀i,i<N->f i=aE)->∃i,i<N/\f i=aB/\∀j,j<i->f j=aE
 |0,h=>absurd (λ i hi=>absurd hi (bO _)) h
 |N+1,h=>by
  by_cases h1:∀i,i<N->f i=aE
  .refine⟨N,cW _,?_,h1⟩
   cases h2:f N with
   |true=>rfl
   |false=>
    exact absurd (λ i hi=>by by_cases e:i=N;· subst e;exact h2
                             · exact h1 i oO) h
  obtain⟨i,h2,h3,h4⟩:=aAS h1;exact⟨i,oO,h3,h4⟩
def WM(d:DE)(l:List Tk)(j:Nat):List Tk:=(l.take j).filter λ t=> !tH d t
theorem a1X{d:DE}{l:List Tk}{j:Nat}(hj:j<l.length)(h:tH d (l.getD j gX)=aE):WM d l (j+1)=WM d l j++[l.getD j gX]:=by unfold WM;rw[IJ (z:=gX) hj,MV,show List.filter (λ t=> !tH d t) [l.getD j gX]=[l.getD j gX]by rw[bNY,h];rfl]
theorem aUH{d:DE}{l:List Tk}{j:Nat}(hj:j<l.length)(h:tH d (l.getD j gX)=aB):WM d l (j+1)=WM d l j:=by unfold WM;rw[IJ (z:=gX) hj,MV,show List.filter (λ t=> !tH d t) [l.getD j gX]=[]by rw[bNY,h];rfl,cZ]
theorem aKF{d:DE}{l:List Tk}{j:Nat}(hj:j<=l.length)(h:∀i,i<j->tH d (l.getD i gX)=aE):WM d l j=l.take j:=by unfold WM;refine wF.2 λ t ht=>?_;obtain⟨i,hi,e⟩:=tJ.1 ht;rw[sU]at hi;have:=h i oO;rw[yY oO]at this;rw[List.getElem_take]at e;rw[<-e,this];rfl
theorem aQR{L:List Tk}{m:Nat}{t:Tk}(h:m<L.length):(L.set m t).take (m+1)=L.take m++[t]:=by rw[IJ (z:=gX) (by rw[oE];exact h),List.take_set_of_le (aF _),DG,iP ⟨rfl,h⟩]
theorem aFD{L:List Tk}{m:Nat}{t:Tk}:(L.map tR).set m (tR t)=(L.set m t).map tR:=by rw[iX]
theorem aOR(l:List Tk)(hl:l.length<=100000)(d:DE)(hd:d.size<=100000)(k id:Nat)(hid:id<k):
 AM.Tr aD Γ 63 k [.sl id 0 l.length,.fn 64 [.rp d.cells]] [(id,⟨8,aB,l.map tR⟩)]
  (λ k1 r1 H1=>k1=k/\r1= .sl id 0 (l.filter λ t=> !tH d t).length/\H1=[(id,⟨8,aB,(l.filter λ t=> !tH d t).map tR⟩)]):=by
 have i0:¬id=k:=oO;have i4:∀q,id<k+q:=λ q=>oO;have i1:∀q,¬id=k+q:=λ q=>oO;have i2:¬k=id:=oO;have i3:∀q,¬k+q=id:=λ q=>oO;have hT:=aUR (Γ:=Γ) l hl d hd k id hid;obtain⟨N,eN⟩:∃N,N=l.length:=⟨_,rfl⟩;have hkl:(l.filter λ t=> !tH d t)=WM d l N:=by rw[WM,eN,List.take_length]
 rw[hkl];rw[<-eN]at hT⊢
 obtain⟨z,ez⟩:∃z,z=idx (λ i=>tH d (l.getD i gX)) N:=⟨_,rfl⟩;rw[<-ez]at hT;obtain⟨dc,edc⟩:∃c,c=d.cells:=⟨_,rfl⟩;have hdel:∀t,AM.Pure aD Γ 64 [.agg (tR t),.rp dc] (tH d t):=λ t=>by rw[edc];exact a6C d hd t
 rw[<-edc]at hT⊢
 obtain⟨KN,eKN⟩:∃K,K=WM d l N:=⟨_,rfl⟩;rw[<-eKN];refine cN Tryz.func63 rfl 42 rfl bB ?_;have kp:Kp [0,1,4,5,6,7,12,19,29] (λ i=>if k<=i then i-k+1 else 0):=jZ;have uU:=rA hid i0 i1 i2 i3 i4;refine fC ?_;refine cA ?_;refine pP [.gen (.lit (.int .i64 z)) k [(id,⟨8,aB,l.map tR⟩)] [(id,⟨8,aB,l.map tR⟩)]] ?_;refine cA ?_;by_cases hno:∀i,i<N->tH d (l.getD i gX)=aE
 .have hz:z= -1:=by rw[ez,idx,wU hno]
  have hK:KN=l:=by rw[eKN,aKF oO hno,eN,List.take_length]
  rw[hz];refine fC ?_;refine dI λ ht=>?_;have uU:=rA hid i0 i1 i2 i3 i4;refine kJ (zN ?_);rw[hK,eN];exact⟨rfl,rfl⟩
 obtain⟨i,hi,hfi,hlo⟩:∃i,i<N/\tH d (l.getD i gX)=aB/\∀j,j<i->tH d (l.getD j gX)=aE:=by exact aAS hno
 have hz:z=(i:Int):=by rw[ez,idx,zC hlo hfi hi]
 have hzi:¬(i:Int)= -1:=oO;have wi:aL.wrap ((i:Int)+1)=(i:Int)+1:=wrap_i64 oO oO;rw[hz];have uU:=AO hid i0 i1 i2 i3 i4 hzi wi;refine fC ?_;refine dI λ ht=>?_;have hki:WM d l (i+1)=l.take i:=by rw[aUH oO hfi,aKF oO hlo]
 have hkil:(WM d l (i+1)).length=i:=by rw[hki,sU];omega
 refine bY (X:=Nat×List Tk) rfl [0,1,4,5,6,7,12,19,29] k (λ x=>[(5,((WM d l x.1).length:Int)),(6,x.1)]) (λ x=>[(id,⟨8,aB,x.2.map tR⟩)]) (λ x=>x.1<=N/\x.2.length=N/\x.2.take (WM d l x.1).length=WM d l x.1/\(∀q,x.1<=q->x.2.getD q gX=l.getD q gX)/\(WM d l x.1).length<x.1) (λ x=>N-x.1) (i+1,l) ?_ ⟨by simp only;omega,eN.symm,by simp only;rw[hkil,hki],λ _ _=>rfl,by simp only;rw[hkil];omega⟩ ?_;.simp only;rw[hkil,(oO:((i+1:Nat):Int)=(i:Int)+1)];exact gM
 rintro⟨j,L⟩ ⟨hj,hL,htk,hsm,hm⟩;simp only at hj hL htk hsm hm;simp only;obtain⟨m,em⟩:∃m,m=(WM d l j).length:=⟨_,rfl⟩;rw[<-em]at htk hm⊢
 have hRl:(L.map tR).length=N:=by rw[cX,hL]
 by_cases hlt:j<N
 .obtain⟨t,et⟩:∃t,t=l.getD j gX:=⟨_,rfl⟩;have g1:=rV (L:=L) (i:=j) oO;have g2:=rV (L:=L) (i:=m) oO;rw[hsm j (aF _),<-et]at g1;obtain⟨u,eu⟩:∃u,u=L.getD m gX:=⟨_,rfl⟩;rw[<-eu]at g2;have hst:=aFD (L:=L) (m:=m) (t:=t);obtain⟨R,eR⟩:∃R,R=L.map tR:=⟨_,rfl⟩;rw[<-eR]at g1 g2 hst hRl⊢
  have hc:=hdel t;obtain⟨y,ey⟩:∃y,y=tH d t:=⟨_,rfl⟩;rw[<-ey]at hc;simp only[tR]at g1 g2 hst hc;have b1:m<N:=oO;have wm:aL.wrap ((m:Int)+1)=(m:Int)+1:=wrap_i64 oO oO;have wj:aL.wrap ((j:Int)+1)=(j:Int)+1:=wrap_i64 oO oO;have uU:=fP hid i0 i1 i2 i3 i4 hlt g1 (ID g2 b1 hRl wm wj);refine fJ ?_;apply zN;refine fC ?_;refine dI λ ht=>?_;refine pP [.ret y] ?_;refine cA ?_
  cases y with
  |true=>have hk1:=aUH (d:=d) (l:=l) (j:=j) oO (by rw[<-et];exact ey.symm);refine fC ?_;refine dI λ ht=>?_;refine⟨(j+1,L),⟨by simp only;omega,hL,by simp only;rw[hk1,<-em];exact htk,λ q hq=>hsm q (by simp only at hq;omega),by simp only;rw[hk1,<-em];omega⟩,by simp only;omega,?_⟩;simp only;rw[hk1,<-em,<-eR,(oO:((j+1:Nat):Int)=(j:Int)+1)];exact gM
  |false=>
   have hk1:=a1X (d:=d) (l:=l) (j:=j) oO (by rw[<-et];exact ey.symm);rw[<-et]at hk1;have hk2:(WM d l (j+1)).length=m+1:=by rw[hk1,bM,<-em];rfl
   refine fC ?_;refine dI λ ht=>?_;refine⟨(j+1,L.set m t),⟨by simp only;omega,by simp only;rw[oE];exact hL,by simp only;rw[hk2,hk1,aQR oO,htk],λ q hq=>?_,by simp only;rw[hk2];omega⟩,by simp only;omega,?_⟩
   .simp only at hq⊢
    rw[DG,iN oO];exact hsm q oO
   simp only;rw[hk2,<-hst,(oO:((j+1:Nat):Int)=(j:Int)+1),(oO:((m+1:Nat):Int)=(m:Int)+1)];exact gM
 have hjn:j=N:=oO;subst hjn;rw[<-eKN]at em htk;have uU:=rA hid i0 i1 i2 i3 i4;refine fJ ?_;apply zN;refine fC ?_;refine dI λ ht=>?_;refine aLP 0 (by simp-dsimp-implicitDefEqProofs (disch:=omega)only[go_sem,gY,hid,i0,i1,i2,i3,i4,eq_self,↓reduceIte];rfl) (by simp-dsimp-implicitDefEqProofs (disch:=omega)only[go_sem,gY,hid,i0,i1,i2,i3,i4,eq_self,↓reduceIte];rfl) (λ h=>oO) (λ cap hc1 hc2=>?_);refine fJ ?_;apply zN;obtain⟨nz,enz⟩:∃x,x=j-m:=⟨_,rfl⟩;obtain⟨c2,ec2⟩:∃x,x=cap-m:=⟨_,rfl⟩;have hcut:=FW (rows:=L.map tR) (new:=bE nz ztk) (r:=m) oO;rw[<-List.map_take,htk]at hcut;obtain⟨R,eR⟩:∃R,R=L.map tR:=⟨_,rfl⟩;rw[<-eR]at hRl hcut⊢
 refine fC ?_;refine cA ?_;refine pP [.raw (aA 38) ⟨.slc id m nz c2,k,[],[id]⟩,.raw aC ⟨.junk,k,[(id,aA ⟨8,aB,gC R (bE nz ztk) m⟩)],[id]⟩] ?_;refine jV (zs ?_) (zs ?_) (zs ?_);.exact jX rfl (dV) iF rfl rfl rfl oO oO oO oO oO oO
 .exact CE (n:=nz) rfl y7 rfl rfl (dV) rfl oO (by show m+nz<=R.length;omega) rfl
 refine fC ?_;refine cA ?_;refine pP [.raw (aA 41) ⟨.slc id 0 m cap,k,[],[id]⟩] ?_;refine iE ?_ ?_;.exact jX rfl (dV) iF rfl rfl rfl oO oO oO oO oO oO
 refine fC ?_;refine cA ?_;refine gL (aYQ id m (dV)) ?_;refine gL (NF 4 rfl) ?_;refine fJ ?_;apply zN;rw[hcut];have uU:=rA hid i0 i1 i2 i3 i4;refine kJ (zN ?_);rw[em]
def tM(n:Nat)(f g:Nat->Int):List (List AVal):=(aN n).map λ i=>[.lit (.int .i64 (f i)),.lit (.int .i64 (g i))]
def pY(n:Nat)(f:Nat->Sp):List (List AVal):=(aN n).map λ i=>[.lit (.int .u64 (f i).v),.lit (.int .u32 (f i).r),.lit (.int .u64 (f i).floor)]
def OH(k ng n ns:Nat)(par wt clk cur:Nat->Int)(l:List Tk)(sp:Nat->Nat->Sp):aO:=
 (k+13,⟨2,aB,tM ng par wt⟩)::(k+14,⟨1,aB,jP n clk⟩)::(k+15,⟨1,aB,jP n cur⟩)::(k+16,⟨8,aB,l.map tR⟩)::(k+17,⟨1,aE,sY (k+18) ns n ns⟩)::mE (k+18) 3 ns (λ g=>pY n (sp g))
def OC(k ng n ns nt:Nat)(cpus credit:Int):List AVal:=[.lit (.int .i64 cpus),.lit (.int .u64 credit),.sl (k+13) 0 ng,.sl (k+14) 0 n,.sl (k+15) 0 n,.sl (k+16) 0 nt,.sl (k+17) 0 ns]
theorem YX(s:St):(mU s).map tR=(aN s.nt).map (tf s):=by unfold mU;rw[jM];rfl
theorem LQ(s:St):(mU s).length=s.nt:=by simp[mU]
theorem aWM(s:St)(n:Nat)(hn:0<n)(hn2:n<=1000)(e1:s.nk=n)(e2:s.nu=n)(e3:∀g,g<s.ns->s.nsp g=n)(h1:0<s.ng)(h2:s.ng<=1000)(h5:0<s.ns)(h6:s.ns<=1000)(h8:s.nt<=1000)(k:Nat):
 AM.Tr aD Γ 61 k [.agg s.cells] [] (λ k1 r1 H1=>k1=k+(20+s.ns)/\r1= .agg (OC k s.ng n s.ns s.nt s.cpus s.credit)/\H1=OH k s.ng n s.ns s.par s.wt s.clk s.cur (mU s) s.sp):=by
 have hle:VLes [.agg s.cells] [.agg [s.cpus,.lit (.int .u64 s.credit),.rd 2 s.ng (gf s),.rd 1 n (kf s),.rd 1 n (uf s),.rd 8 s.nt (tf s),.rd 1 s.ns (λ g=>[.rd 3 n (sf s g)])]]:=by
  refine .cons (DP (.cons (bJ _) (.cons (bJ _) (.cons (bJ _) (.cons ?_ (.cons ?_ (.cons (bJ _) (.cons ?_ .nil)))))))) .nil;.rw[e1];exact bJ _
  .rw[e2];exact bJ _
  refine VLe.rds λ g hg=> .cons ?_ .nil;rw[e3 g hg];exact bJ _
 refine bAL ?_ hle;have o2:∀(m:Nat) (f:Nat->List AVal),(∀i,(f i).all AM.one=aB)->(((aN m).map f).all λ row=>row.all AM.one)=aB:=λ m f h=>jG _ _ h;have g1:=o2 s.ng (gf s) λ _=>rfl;have g2:=o2 n (kf s) λ _=>rfl;have g3:=o2 n (uf s) λ _=>rfl;have g4:∀g,(((aN n).map (sf s g)).all λ row=>row.all AM.one)=aB:=λ g=>o2 n (sf s g) λ _=>rfl;unfold OC OH;rw[YX];rcases a4U s.nt with h0|h0
 .rw[h0,List.range_zero,bQ];refine a4S 5 rfl λ a cap=>?_
  cases a with
  |none=>exact aWO s.cpus s.credit s.ng n s.ns (gf s) (kf s) (uf s) (sf s) cap g1 g2 g3 g4 h1 h2 hn hn2 h5 h6 k
  |some p=>exact aWP s.cpus s.credit s.ng n s.ns (gf s) (kf s) (uf s) (sf s) p cap g1 g2 g3 g4 h1 h2 hn hn2 h5 h6 k
 exact aWN s.cpus s.credit s.ng n s.ns (gf s) (kf s) (uf s) (sf s) s.nt (tf s) h0 h8 (o2 s.nt (tf s) λ _=>rfl) g1 g2 g3 g4 h1 h2 hn hn2 h5 h6 k
theorem aFN{a j:Nat}{l:List Tk}(h:j<=a):rB gX iO a j l=l:=by
 cases j with
 |zero=>rfl
 |succ j=>rw[rB,iN oO]
theorem aNY{a j:Nat}{l:List Tk}(h:iO (l.getD (j+1) gX) (l.getD j gX)=aE):rB gX iO a (j+1) l=l:=by rw[rB,iN (by rw[h];simp)]
theorem aUQ{a j:Nat}{l:List Tk}(h0:a<j+1)(h:iO (l.getD (j+1) gX) (l.getD j gX)=aB):rB gX iO a (j+1) l=rB gX iO a j (YJ gX l (j+1) j):=by rw[rB,iP ⟨h0,h⟩]
theorem aUM(l:List Tk)(a b:Nat)(h1:a<=b)(h2:b<=l.length)(hl:l.length<=100000)(k id:Nat)(hid:id<k):
 AM.Tr aD Γ 208 k [.sl id 0 l.length,a,b,.fn 69 []] [(id,⟨8,aB,l.map tR⟩)]
  (λ k1 r1 H1=>k1=k/\r1= .tup []/\H1=[(id,⟨8,aB,(EU gX iO l a b).map tR⟩)]):=by
 have i0:¬id=k:=oO;have i4:∀q,id<k+q:=λ q=>oO;have i1:∀q,¬id=k+q:=λ q=>oO;have i2:¬k=id:=oO;have i3:∀q,¬k+q=id:=λ q=>oO;obtain⟨N,eN⟩:∃N,N=l.length:=⟨_,rfl⟩;rw[<-eN];refine cN Tryz.func208 rfl 53 rfl bB ?_;have wa:aL.wrap ((a:Int)+1)=(a:Int)+1:=dP oO oO;have kp:=gZ k [0,1,2,3,8,9,14,34];have uU:=xC hid i0 i1 i2 i3 i4 wa;refine fC ?_;refine cA ?_;refine bY (X:=Nat) rfl [0,1,2,3,8,9,14,34] k (λ q=>[(8,(a+1+q:Nat))]) (λ q=>[(id,⟨8,aB,(BX gX iO a l q).map tR⟩)]) (λ q=>q<=b-a-1) (λ q=>b-a-1-q) 0 ?_ (aZ _) ?_;.rw[show BX gX iO a l 0=l from rfl,(oO:((a+1+0:Nat):Int)=(a:Int)+1)];refine fJ ?_;apply zN;exact gM
 intro q hq;obtain⟨L,eL⟩:∃L,L=BX gX iO a l q:=⟨_,rfl⟩;have hL:L.length=N:=by rw[eL,(yR oO).length_eq,eN]
 have hnx:BX gX iO a l (q+1)=rB gX iO a (a+q+1) L:=by rw[BX,eL]
 rw[<-eL];obtain⟨i,ei⟩:∃i,i=a+1+q:=⟨_,rfl⟩;rw[<-ei];have wi:aL.wrap ((i:Int)+1)=(i:Int)+1:=dP oO oO;by_cases hlt:i<b
 .have hib:(i:Int)<(b:Int):=oO;have uU:=AO hid i0 i1 i2 i3 i4 wi hib;refine fJ ?_;apply zN;refine fC ?_;refine dI λ ht=>?_;refine bY (X:=Nat×List Tk) rfl [0,1,2,3,8,9,14,34] k (λ x=>[(9,x.1)]) (λ x=>[(id,⟨8,aB,x.2.map tR⟩)]) (λ x=>x.2.length=N/\a<=x.1/\x.1<=i/\rB gX iO a x.1 x.2=rB gX iO a i L) (λ x=>x.1) (i,L) ?_ ⟨hL,by simp only;omega,aF _,rfl⟩ ?_;.refine fJ ?_;apply zN;exact gM
  rintro⟨j,M⟩ ⟨hM,hj1,hj2,hin⟩;simp only at hM hj1 hj2 hin;simp only;by_cases haj:a<j
  .obtain⟨j',rfl⟩:∃j',j=j'+1:=⟨j-1,oO⟩;have g1:=rV (L:=M) (i:=j'+1) oO;have g2:=rV (L:=M) (i:=j') oO;have hsw:=FR (L:=M) (i:=j'+1) (j:=j');have hRl:(M.map tR).length=N:=by rw[cX,hM]
   have hend:=aNY (a:=a) (j:=j') (l:=M);have hgo:=aUQ (a:=a) (j:=j') (l:=M) haj;have hsl:(YJ gX M (j'+1) j').length=N:=by rw[yJ,hM]
   obtain⟨R,eR⟩:∃R,R=M.map tR:=⟨_,rfl⟩;obtain⟨x,ex⟩:∃x,x=M.getD (j'+1) gX:=⟨_,rfl⟩;obtain⟨y,ey⟩:∃y,y=M.getD j' gX:=⟨_,rfl⟩;rw[<-eR,<-ex]at g1;rw[<-eR,<-ey]at g2;rw[<-eR,<-ex,<-ey]at hsw;rw[<-ex,<-ey]at hend hgo;rw[<-eR]at hRl⊢
   have hcc:=aLI (Γ:=Γ) x y;obtain⟨v,ev⟩:∃v,v=aL.wrap (x.id-y.id):=⟨_,rfl⟩;rw[<-ev]at hcc;have hlv:iO x y=decide (v<0):=by rw[iO,ev]
   rw[hlv]at hend hgo;simp only[tR]at g1 g2 hsw hcc;have haj':(a:Int)<(j':Int)+1:=oO;have htn:((j':Int)+1).toNat=j'+1:=oO;have hp0:(0:Int)<=(j':Int)+1:=oO;have wj:aL.wrap ((j':Int)+1-1)=(j':Int):=by rw[dP oO oO];omega
   have wj2:aL.wrap (j':Int)=(j':Int):=dP oO oO;have b1:j'+1<N:=oO;have b2:j'<N:=oO;have g3:=LR (p:=j'+1) g2;by_cases hv:v<0;.have hgo':=hgo (decide_eq_true hv);have uU:=fP hid i0 i1 i2 i3 i4 g1 g2 (fP g3 wj wj2 htn hp0 b1 b2 hRl (tZ haj' wi hv));refine fJ ?_;apply zN;have kp:Kp [0,1,2,3,8,9,14,34] (λ i=>if k<=i then i-k+1 else 0):=jZ;refine fC ?_;refine cA ?_;refine YO [.ret v] ?_;refine cA ?_;refine fC ?_;refine dI λ ht=>?_;refine⟨(j',YJ gX M (j'+1) j'),⟨hsl,by simp only;omega,by simp only;omega,by simp only;rw[<-hgo'];exact hin⟩,by simp only;omega,?_⟩;simp only;rw[<-hsw];exact gM
   have hend':=hend (decide_eq_false hv);have uU:=fP hid i0 i1 i2 i3 i4 g1 g2 (fP g3 wj wj2 htn hp0 b1 b2 hRl (tZ haj' wi hv));refine fJ ?_;apply zN;have kp:Kp [0,1,2,3,8,9,14,34] (λ i=>if k<=i then i-k+1 else 0):=jZ;refine fC ?_;refine cA ?_;refine YO [.ret v] ?_;refine cA ?_;refine fC ?_;refine dI λ ht=>?_;refine⟨q+1,oO,oO,?_⟩;rw[hnx,(oO:a+q+1=i),<-hin,hend',eR,(oO:a+(1+(q+1))=i+1),(oO:((i+1:Nat):Int)=(i:Int)+1)];exact gM
  have hst:=aFN (l:=M) (oO:j<=a);have haj':¬(a:Int)<(j:Int):=oO;have uU:=AO hid i0 i1 i2 i3 i4 wi haj';refine fJ ?_;apply zN;have kp:Kp [0,1,2,3,8,9,14,34] (λ i=>if k<=i then i-k+1 else 0):=jZ;refine fC ?_;refine cA ?_;refine YO [] ?_;refine cA ?_;refine fC ?_;refine dI λ ht=>?_;refine⟨q+1,oO,oO,?_⟩;rw[hnx,(oO:a+q+1=i),<-hin,hst,(oO:a+(1+(q+1))=i+1),(oO:((i+1:Nat):Int)=(i:Int)+1)];exact gM
 have hq':q=b-a-1:=oO;have uU:=rA hid i0 i1 i2 i3 i4;refine fJ ?_;apply zN;have kp:Kp [0,1,2,3,8,9,14,34] (λ i=>if k<=i then i-k+1 else 0):=jZ;refine fC ?_;refine dI λ ht=>?_;refine⟨_,rfl,rfl,?_⟩;rw[eL,hq',EU]
theorem bCF(l:List Tk)(a m b:Nat)(h1:a<m)(h2:m<b)(h3:b<=l.length)(hl:l.length<=100000)(k id:Nat)(hid:id<k):
 AM.Tr aD Γ 253 k [.sl id 0 l.length,a,m,b,.fn 69 []] [(id,⟨8,aB,l.map tR⟩)]
  (λ k1 r1 H1=>k1=k/\r1= .tup []/\H1=[(id,⟨8,aB,(rot gX l a m b).map tR⟩)]):=by
 have i0:¬id=k:=oO;have i4:∀q,id<k+q:=λ q=>oO;have i1:∀q,¬id=k+q:=λ q=>oO;have i2:¬k=id:=oO;have i3:∀q,¬k+q=id:=λ q=>oO;obtain⟨N,eN⟩:∃N,N=l.length:=⟨_,rfl⟩;rw[<-eN];refine cN Tryz.func253 rfl 58 rfl bB ?_;have wa:aL.wrap ((m:Int)-(a:Int))=((m-a:Nat):Int):=by rw[dP oO oO];omega
 have wb:aL.wrap ((b:Int)-(m:Int))=((b-m:Nat):Int):=by rw[dP oO oO];omega
 have kp:Kp [0,1,2,3,4,10,11,20,23] (λ i=>if k<=i then i-k+1 else 0):=jZ;have uU:=AO hid i0 i1 i2 i3 i4 wa wb;refine fC ?_;refine cA ?_;refine bY (X:=Nat×Nat×Nat×List Tk) rfl [0,1,2,3,4,10,11,20,23] k (λ x=>[(10,x.1),(11,x.2.1)]) (λ x=>[(id,⟨8,aB,x.2.2.2.map tR⟩)]) (λ x=>x.2.2.2.length=N/\0<x.1/\0<x.2.1/\x.1+x.2.1<=x.2.2.1/\x.1<=m/\m+x.2.1<=N/\NO gX m x.2.2.1 x.1 x.2.1 x.2.2.2=rot gX l a m b) (λ x=>x.1+x.2.1) (m-a,b-m,b-a,l) ?_ ⟨eN.symm,by simp only;omega,by simp only;omega,by simp only;omega,by simp only;omega,by simp only;omega,rfl⟩ ?_;.refine fJ ?_;apply zN;exact gM
 rintro⟨i,j,f,L⟩ ⟨hL,hi,hj,hf,him,hjm,hrot⟩;simp only at hL hi hj hf him hjm hrot;simp only;obtain⟨f,rfl⟩:∃f',f=f'+1:=⟨f-1,oO⟩;have w1:aL.wrap ((m:Int)-(i:Int))=((m-i:Nat):Int):=by rw[dP oO oO];omega
 by_cases hij:i=j;.subst hij;have hT:=VG (Γ:=Γ) L (m-i) m i oO oO oO (.fn 69 []) k id hid;rw[NO,iP rfl]at hrot;rw[hrot,hL]at hT;have uU:=xC hid i0 i1 i2 i3 i4 w1;refine fJ ?_;apply zN;refine fC ?_;refine dI λ ht=>?_;refine pP [.gen (.tup []) k [(id,⟨8,aB,L.map tR⟩)] [(id,⟨8,aB,(rot gX l a m b).map tR⟩)]] ?_;refine cA ?_;exact⟨_,rfl,rfl⟩
 by_cases hlt:j<i
 .have hlt':(j:Int)<(i:Int):=oO;have hij':¬(i:Int)=(j:Int):=oO;have w2:aL.wrap ((i:Int)-(j:Int))=((i-j:Nat):Int):=by rw[dP oO oO];omega
  have hT:=VG (Γ:=Γ) L (m-i) m j oO oO oO (.fn 69 []) k id hid;rw[NO,iN hij,iP hlt]at hrot;obtain⟨M,eM⟩:∃M,M=ZA gX L (m-i) m j:=⟨_,rfl⟩;have hM:M.length=N:=by rw[eM,pB,hL]
  rw[<-eM]at hT hrot;rw[hL]at hT;have uU:=fP hid i0 i1 i2 i3 i4 w1 w2 (zA hij' hlt');refine fJ ?_;apply zN;refine fC ?_;refine oU ⟨λ ht ht=>zN ?_⟩;refine pP [.gen (.tup []) k [(id,⟨8,aB,L.map tR⟩)] [(id,⟨8,aB,M.map tR⟩)]] ?_;refine cA ?_;refine fC ?_;refine cA ?_;refine⟨(i-j,j,f,M),⟨hM,by simp only;omega,by simp only;omega,by simp only;omega,by simp only;omega,by simp only;omega,hrot⟩,by simp only;omega,?_⟩;simp only;exact gM
 have hlt':¬(j:Int)<(i:Int):=oO;have hij':¬(i:Int)=(j:Int):=oO;have w2:aL.wrap ((j:Int)-(i:Int))=((j-i:Nat):Int):=by rw[dP oO oO];omega
 have w3:aL.wrap ((m:Int)+(j:Int))=((m+j:Nat):Int):=by rw[dP oO oO];omega
 have w4:aL.wrap (((m+j:Nat):Int)-(i:Int))=((m+j-i:Nat):Int):=by rw[dP oO oO];omega
 have hT:=VG (Γ:=Γ) L (m-i) (m+j-i) i oO oO oO (.fn 69 []) k id hid;rw[NO,iN hij,iN hlt]at hrot;obtain⟨M,eM⟩:∃M,M=ZA gX L (m-i) (m+j-i) i:=⟨_,rfl⟩;have hM:M.length=N:=by rw[eM,pB,hL]
 rw[<-eM]at hT hrot;rw[hL]at hT;have uU:=fP hid i0 i1 i2 i3 i4 w1 w2 (DR w3 w4 hij' hlt');refine fJ ?_;apply zN;refine fC ?_;refine oU ⟨λ ht ht=>zN ?_⟩;refine pP [.gen (.tup []) k [(id,⟨8,aB,L.map tR⟩)] [(id,⟨8,aB,M.map tR⟩)]] ?_;refine cA ?_;refine fC ?_;refine cA ?_;refine⟨(i,j-i,f,M),⟨hM,by simp only;omega,by simp only;omega,by simp only;omega,by simp only;omega,by simp only;omega,hrot⟩,by simp only;omega,?_⟩;simp only;exact gM
theorem XR{p:Nat->Bool}{f i j:Nat}(h:¬i<j):DY p f i j=i:=by
 cases f with
 |zero=>rfl
 |succ f=>rw[DY,iN h]
theorem aHE{p:Nat->Bool}{f i j h:Nat}(hij:i<j)(e:h=(i+j)/2)(hp:p h=aB):DY p (f+1) i j=DY p f (h+1) j:=by rw[DY,iP hij,<-e,iP hp]
theorem aHF{p:Nat->Bool}{f i j h:Nat}(hij:i<j)(e:h=(i+j)/2)(hp:p h=aE):DY p (f+1) i j=DY p f i h:=by rw[DY,iP hij,<-e,iN (by rw[hp];simp)]
theorem a7B(l:List Tk)(a m b:Nat)(h1:m=a+1)(h2:m<b)(h3:b<=l.length)(hl:l.length<=100000)(k id:Nat)(hid:id<k):
 AM.Tr aD Γ 209 k [.sl id 0 l.length,a,m,b,.fn 69 []] [(id,⟨8,aB,l.map tR⟩)]
  (λ k1 r1 H1=>k1=k/\r1= .tup []/\H1=[(id,⟨8,aB,(shR gX l a (DY (λ h=>iO (l.getD h gX) (l.getD a gX)) (b-m) m b-1-a)).map tR⟩)]):=by
 have i0:¬id=k:=oO;have i4:∀q,id<k+q:=λ q=>oO;have i1:∀q,¬id=k+q:=λ q=>oO;have i2:¬k=id:=oO;have i3:∀q,¬k+q=id:=λ q=>oO;obtain⟨N,eN⟩:∃N,N=l.length:=⟨_,rfl⟩;rw[<-eN];refine cN Tryz.func209 rfl 220 rfl bB ?_;obtain⟨R,eR⟩:∃R,R=l.map tR:=⟨_,rfl⟩;have hRl:R.length=N:=by rw[eR,cX,eN]
 obtain⟨p,ep⟩:∃p:Nat->Bool,p=λ h=>iO (l.getD h gX) (l.getD a gX):=⟨_,rfl⟩;rw[<-ep];obtain⟨B,eB⟩:∃B,B=DY p (b-m) m b:=⟨_,rfl⟩;have hBr:=rP (p:=p) (f:=b-m) (i:=m) (j:=b) oO;rw[<-eB]at hBr⊢
 rw[<-eR];have wma:aL.wrap ((m:Int)-(a:Int))=1:=by rw[dP oO oO];omega
 have ga:=rV (L:=l) (i:=a) oO;obtain⟨x,ex⟩:∃x,x=l.getD a gX:=⟨_,rfl⟩;rw[<-eR,<-ex]at ga;rw[<-ex]at ep;simp only[tR]at ga;have ba:a<N:=oO;have kp:Kp [0,1,2,3,4,10,11,12,13,14,15,16,17,18,19,20,21,22,23,24,28,33,50,58,80,85,103,110,140,151,171,185,199,213] (λ i=>if k<=i then i-k+1 else 0):=jZ;have uU:=xC hid i0 i1 i2 i3 i4 wma;refine fC ?_;refine dI λ ht=>?_;refine bY (X:=Nat×Nat×Nat) rfl [0,1,2,3,4,10,11,12,13,14,15,16,17,18,19,20,21,22,23,24,28,33,50,58,80,85,103,110,140,151,171,185,199,213] k (λ x=>[(10,x.1),(11,x.2.1)]) (λ x=>[(id,⟨8,aB,R⟩)]) (λ x=>m<=x.1/\x.1<=x.2.1/\x.2.1<=b/\x.2.1-x.1<=x.2.2/\DY p x.2.2 x.1 x.2.1=B) (λ x=>x.2.1-x.1) (m,b,b-m) ?_ ⟨by simp only;omega,by simp only;omega,by simp only;omega,by simp only;omega,eB.symm⟩ ?_;.refine fJ ?_;apply zN;exact gM
 rintro⟨i,j,f⟩ ⟨hi1,hi2,hi3,hf,hbs⟩;simp only at hi1 hi2 hi3 hf hbs;simp only;by_cases hij:i<j
 .obtain⟨f,rfl⟩:∃f',f=f'+1:=⟨f-1,oO⟩;have e1:aY.wrap ((i:Int)+(j:Int))=(i:Int)+(j:Int):=wrap_u64 oO oO;have e0:aL.wrap ((i:Int)+(j:Int))=(i:Int)+(j:Int):=wrap_i64 oO oO;have e2:((i:Int)+(j:Int)).fdiv (2^min 1 64)=(((i+j)/2:Nat):Int):=by rw[show(2:Int)^min 1 64=2 from rfl,dU _ oO];omega
  obtain⟨h,eh⟩:∃h,h=(i+j)/2:=⟨_,rfl⟩;rw[<-eh]at e2;have e3:aL.wrap (h:Int)=(h:Int):=wrap_i64 oO oO;have e4:aL.wrap ((h:Int)+1)=(h:Int)+1:=wrap_i64 oO oO;have hij':(i:Int)<(j:Int):=oO;have gh:=rV (L:=l) (i:=h) oO;obtain⟨y,ey⟩:∃y,y=l.getD h gX:=⟨_,rfl⟩;rw[<-eR,<-ey]at gh;simp only[tR]at gh;have bh:h<N:=oO;have hcc:=aLI (Γ:=Γ) y x;obtain⟨v,ev⟩:∃v,v=aL.wrap (Tk.id y-Tk.id x):=⟨_,rfl⟩;rw[<-ev]at hcc;have hlv:iO y x=decide (v<0):=by rw[iO,ev]
  simp only[tR]at hcc;by_cases hv:v<0
  .have hp:p h=aB:=by rw[ep];simp only;rw[<-ey,hlv];simp[hv]
   rw[aHE hij eh hp]at hbs;have uU:=fP hid i0 i1 i2 i3 i4 e0 e1 (fP e2 e3 e4 hij' hv ga gh ba (zA bh hRl));refine fJ ?_;apply zN;refine fC ?_;refine dI λ ht=>?_;refine YO [.ret v] ?_;refine cA ?_;refine fC ?_;refine dI λ ht=>?_;refine⟨(h+1,j,f),⟨by simp only;omega,by simp only;omega,hi3,by simp only;omega,hbs⟩,by simp only;omega,?_⟩;simp only;rw[(oO:((h+1:Nat):Int)=(h:Int)+1)];exact gM
  have hp:p h=aE:=by rw[ep];simp only;rw[<-ey,hlv];simp[hv]
  rw[aHF hij eh hp]at hbs;have uU:=fP hid i0 i1 i2 i3 i4 e0 e1 (fP e2 e3 e4 hij' hv ga gh ba (zA bh hRl));refine fJ ?_;apply zN;refine fC ?_;refine dI λ ht=>?_;refine YO [.ret v] ?_;refine cA ?_;refine fC ?_;refine dI λ ht=>?_;refine⟨(i,h,f),⟨hi1,by simp only;omega,by simp only;omega,by simp only;omega,hbs⟩,by simp only;omega,?_⟩;simp only;exact gM
 have hij':¬(i:Int)<(j:Int):=oO;rw[XR hij]at hbs;subst hbs;have uU:=xC hid i0 i1 i2 i3 i4 hij';refine fJ ?_;apply zN;refine fC ?_;refine dI λ ht=>?_;have wB:aL.wrap ((i:Int)-1)=((i-1:Nat):Int):=by rw[dP oO oO];omega
 refine bY (X:=Nat) rfl [0,1,2,3,4,10,11,12,13,14,15,16,17,18,19,20,21,22,23,24,28,33,50,58,80,85,103,110,140,151,171,185,199,213] k (λ q=>[(13,(a+q:Nat))]) (λ q=>[(id,⟨8,aB,(shR gX l a q).map tR⟩)]) (λ q=>q<=(i-1-a)) (λ q=>(i-1-a)-q) 0 ?_ (aZ _) ?_;.rw[show shR gX l a 0=l from rfl,<-eR];refine fJ ?_;apply zN;exact gM
 intro q hq;obtain⟨L,eL⟩:∃L,L=shR gX l a q:=⟨_,rfl⟩;have hL:L.length=N:=by rw[eL,CU,eN]
 have hnx:shR gX l a (q+1)=YJ gX L (a+q) (a+q+1):=by rw[shR,eL]
 rw[<-eL];by_cases hlt:q<(i-1-a)
 .obtain⟨cur,ec⟩:∃c,c=a+q:=⟨_,rfl⟩;obtain⟨nx,en⟩:∃c,c=a+q+1:=⟨_,rfl⟩;rw[<-en,<-ec]at hnx;rw[<-ec];have g1:=rV (L:=L) (i:=cur) oO;have g2:=rV (L:=L) (i:=nx) oO;have hsw:=FR (L:=L) (i:=cur) (j:=nx);have hSl:(L.map tR).length=N:=by rw[cX,hL]
  obtain⟨S,eS⟩:∃S,S=L.map tR:=⟨_,rfl⟩;obtain⟨x,ex⟩:∃x,x=L.getD cur gX:=⟨_,rfl⟩;obtain⟨y,ey⟩:∃y,y=L.getD nx gX:=⟨_,rfl⟩;rw[<-eS,<-ex]at g1;rw[<-eS,<-ey]at g2;rw[<-eS,<-ex,<-ey]at hsw;rw[<-eS]at hSl⊢
  simp only[tR]at g1 g2 hsw;have g3:=LR (p:=cur) g2;have w1:aL.wrap ((cur:Int)+1)=(nx:Int):=by rw[dP oO oO];omega
  have b1:cur<N:=oO;have b2:nx<N:=oO;have hcond:(cur:Int)<((i-1:Nat):Int):=oO;have uU:=fP hid i0 i1 i2 i3 i4 wB w1 (xC g1 g2 g3 b1 b2 hSl hcond);refine fJ ?_;apply zN;refine fC ?_;refine dI λ ht=>?_;refine⟨q+1,oO,oO,?_⟩;rw[hnx,<-hsw,(oO:a+(q+1)=nx)];exact gM
 have hqe:q=(i-1-a):=oO;have hcond:¬((a+q:Nat):Int)<((i-1:Nat):Int):=oO;have uU:=AO hid i0 i1 i2 i3 i4 wB hcond;refine fJ ?_;apply zN;refine fC ?_;refine dI λ ht=>?_;have uU:=AO hid i0 i1 i2 i3 i4 wB hcond;refine kJ (zN ?_);rw[eL,hqe];exact⟨rfl,rfl⟩
theorem a7A(l:List Tk)(a m b:Nat)(h1:a+1<m)(h2:b=m+1)(h3:b<=l.length)(hl:l.length<=100000)(k id:Nat)(hid:id<k):
 AM.Tr aD Γ 209 k [.sl id 0 l.length,a,m,b,.fn 69 []] [(id,⟨8,aB,l.map tR⟩)]
  (λ k1 r1 H1=>k1=k/\r1= .tup []/\H1=[(id,⟨8,aB,(shL gX l m (m-DY (λ h=> !(iO (l.getD m gX) (l.getD h gX))) (m-a) a m)).map tR⟩)]):=by
 have i0:¬id=k:=oO;have i4:∀q,id<k+q:=λ q=>oO;have i1:∀q,¬id=k+q:=λ q=>oO;have i2:¬k=id:=oO;have i3:∀q,¬k+q=id:=λ q=>oO;obtain⟨N,eN⟩:∃N,N=l.length:=⟨_,rfl⟩;rw[<-eN];refine cN Tryz.func209 rfl 220 rfl bB ?_;obtain⟨R,eR⟩:∃R,R=l.map tR:=⟨_,rfl⟩;have hRl:R.length=N:=by rw[eR,cX,eN]
 obtain⟨p,ep⟩:∃p:Nat->Bool,p=λ h=> !(iO (l.getD m gX) (l.getD h gX)):=⟨_,rfl⟩;rw[<-ep];obtain⟨B,eB⟩:∃B,B=DY p (m-a) a m:=⟨_,rfl⟩;have hBr:=rP (p:=p) (f:=m-a) (i:=a) (j:=m) oO;rw[<-eB]at hBr⊢
 rw[<-eR];have wma:aL.wrap ((m:Int)-(a:Int))=((m-a:Nat):Int):=by rw[dP oO oO];omega
 have wbm:aL.wrap ((b:Int)-(m:Int))=1:=by rw[dP oO oO];omega
 have hne:¬((m-a:Nat):Int)=1:=oO;have ga:=rV (L:=l) (i:=m) oO;obtain⟨x,ex⟩:∃x,x=l.getD m gX:=⟨_,rfl⟩;rw[<-eR,<-ex]at ga;rw[<-ex]at ep;simp only[tR]at ga;have ba:m<N:=oO;have kp:Kp [0,1,2,3,4,10,11,12,13,14,15,16,17,18,19,20,21,22,23,24,28,33,50,58,80,85,103,110,140,151,171,185,199,213] (λ i=>if k<=i then i-k+1 else 0):=jZ;have uU:=fP hid i0 i1 i2 i3 i4 wma wbm hne;refine fC ?_;refine oU ⟨λ ht ht=>zN ?_⟩;refine bY (X:=Nat×Nat×Nat) rfl [0,1,2,3,4,10,11,12,13,14,15,16,17,18,19,20,21,22,23,24,28,33,50,58,80,85,103,110,140,151,171,185,199,213] k (λ x=>[(14,x.1),(15,x.2.1)]) (λ x=>[(id,⟨8,aB,R⟩)]) (λ x=>a<=x.1/\x.1<=x.2.1/\x.2.1<=m/\x.2.1-x.1<=x.2.2/\DY p x.2.2 x.1 x.2.1=B) (λ x=>x.2.1-x.1) (a,m,m-a) ?_ ⟨by simp only;omega,by simp only;omega,by simp only;omega,by simp only;omega,eB.symm⟩ ?_;.refine fJ ?_;apply zN;exact gM
 rintro⟨i,j,f⟩ ⟨hi1,hi2,hi3,hf,hbs⟩;simp only at hi1 hi2 hi3 hf hbs;simp only;by_cases hij:i<j
 .obtain⟨f,rfl⟩:∃f',f=f'+1:=⟨f-1,oO⟩;have e1:aY.wrap ((i:Int)+(j:Int))=(i:Int)+(j:Int):=wrap_u64 oO oO;have e0:aL.wrap ((i:Int)+(j:Int))=(i:Int)+(j:Int):=wrap_i64 oO oO;have e2:((i:Int)+(j:Int)).fdiv (2^min 1 64)=(((i+j)/2:Nat):Int):=by rw[show(2:Int)^min 1 64=2 from rfl,dU _ oO];omega
  obtain⟨h,eh⟩:∃h,h=(i+j)/2:=⟨_,rfl⟩;rw[<-eh]at e2;have e3:aL.wrap (h:Int)=(h:Int):=wrap_i64 oO oO;have e4:aL.wrap ((h:Int)+1)=(h:Int)+1:=wrap_i64 oO oO;have hij':(i:Int)<(j:Int):=oO;have gh:=rV (L:=l) (i:=h) oO;obtain⟨y,ey⟩:∃y,y=l.getD h gX:=⟨_,rfl⟩;rw[<-eR,<-ey]at gh;simp only[tR]at gh;have bh:h<N:=oO;have hcc:=aLI (Γ:=Γ) x y;obtain⟨v,ev⟩:∃v,v=aL.wrap (Tk.id x-Tk.id y):=⟨_,rfl⟩;rw[<-ev]at hcc;have hlv:iO x y=decide (v<0):=by rw[iO,ev]
  simp only[tR]at hcc;by_cases hv:v<0
  .have hp:p h=aE:=by rw[ep];simp only;rw[<-ey,hlv];simp[hv]
   rw[aHF hij eh hp]at hbs;have uU:=fP hid i0 i1 i2 i3 i4 e0 e1 (fP e2 e3 e4 hij' hv ga gh ba (zA bh hRl));refine fJ ?_;apply zN;refine fC ?_;refine dI λ ht=>?_;refine YO [.ret v] ?_;refine cA ?_;refine fC ?_;refine dI λ ht=>?_;refine⟨(i,h,f),⟨hi1,by simp only;omega,by simp only;omega,by simp only;omega,hbs⟩,by simp only;omega,?_⟩;simp only;exact gM
  have hp:p h=aB:=by rw[ep];simp only;rw[<-ey,hlv];simp[hv]
  rw[aHE hij eh hp]at hbs;have uU:=fP hid i0 i1 i2 i3 i4 e0 e1 (fP e2 e3 e4 hij' hv ga gh ba (zA bh hRl));refine fJ ?_;apply zN;refine fC ?_;refine dI λ ht=>?_;refine YO [.ret v] ?_;refine cA ?_;refine fC ?_;refine dI λ ht=>?_;refine⟨(h+1,j,f),⟨by simp only;omega,by simp only;omega,hi3,by simp only;omega,hbs⟩,by simp only;omega,?_⟩;simp only;rw[(oO:((h+1:Nat):Int)=(h:Int)+1)];exact gM
 have hij':¬(i:Int)<(j:Int):=oO;rw[XR hij]at hbs;subst hbs;have uU:=xC hid i0 i1 i2 i3 i4 hij';refine fJ ?_;apply zN;refine fC ?_;refine dI λ ht=>?_;refine bY (X:=Nat) rfl [0,1,2,3,4,10,11,12,13,14,15,16,17,18,19,20,21,22,23,24,28,33,50,58,80,85,103,110,140,151,171,185,199,213] k (λ q=>[(17,(m-q:Nat))]) (λ q=>[(id,⟨8,aB,(shL gX l m q).map tR⟩)]) (λ q=>q<=(m-i)) (λ q=>(m-i)-q) 0 ?_ (aZ _) ?_;.rw[show shL gX l m 0=l from rfl,<-eR,iV];refine fJ ?_;apply zN;exact gM
 intro q hq;obtain⟨L,eL⟩:∃L,L=shL gX l m q:=⟨_,rfl⟩;have hL:L.length=N:=by rw[eL,CV,eN]
 have hnx:shL gX l m (q+1)=YJ gX L (m-q) (m-q-1):=by rw[shL,eL]
 rw[<-eL];by_cases hlt:q<(m-i)
 .obtain⟨cur,ec⟩:∃c,c=m-q:=⟨_,rfl⟩;obtain⟨nx,en⟩:∃c,c=m-q-1:=⟨_,rfl⟩;rw[<-en,<-ec]at hnx;rw[<-ec];have g1:=rV (L:=L) (i:=cur) oO;have g2:=rV (L:=L) (i:=nx) oO;have hsw:=FR (L:=L) (i:=cur) (j:=nx);have hSl:(L.map tR).length=N:=by rw[cX,hL]
  obtain⟨S,eS⟩:∃S,S=L.map tR:=⟨_,rfl⟩;obtain⟨x,ex⟩:∃x,x=L.getD cur gX:=⟨_,rfl⟩;obtain⟨y,ey⟩:∃y,y=L.getD nx gX:=⟨_,rfl⟩;rw[<-eS,<-ex]at g1;rw[<-eS,<-ey]at g2;rw[<-eS,<-ex,<-ey]at hsw;rw[<-eS]at hSl⊢
  simp only[tR]at g1 g2 hsw;have g3:=LR (p:=cur) g2;have w1:aL.wrap ((cur:Int)-1)=(nx:Int):=by rw[dP oO oO];omega
  have b1:cur<N:=oO;have b2:nx<N:=oO;have hcond:(i:Int)<(cur:Int):=oO;have uU:=fP hid i0 i1 i2 i3 i4 w1 g1 (rA g2 g3 b1 b2 hSl hcond);refine fJ ?_;apply zN;refine fC ?_;refine dI λ ht=>?_;refine⟨q+1,oO,oO,?_⟩;rw[hnx,<-hsw,(oO:m-(q+1)=nx)];exact gM
 have hqe:q=(m-i):=oO;have hcond:¬(i:Int)<((m-q:Nat):Int):=oO;have uU:=xC hid i0 i1 i2 i3 i4 hcond;refine fJ ?_;apply zN;refine fC ?_;refine dI λ ht=>?_;have uU:=xC hid i0 i1 i2 i3 i4 hcond;refine kJ (zN ?_);rw[eL,hqe];exact⟨rfl,rfl⟩
end Go.Proofs.T
end
