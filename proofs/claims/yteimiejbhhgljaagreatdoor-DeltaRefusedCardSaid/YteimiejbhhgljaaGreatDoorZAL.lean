import Derived.Test.YteimiejbhhgljaaGreatDoorZAK
set_option linter.unusedVariables false
set_option linter.defProp false
set_option linter.unusedSimpArgs false
set_option maxHeartbeats 0
set_option maxRecDepth 100000
open Go.AM.AVal renaming lit->aD
open Bool renaming and_eq_true->aO,and_true->iE,eq_iff_iff->eY,false->aF,false_or->BP,true->aB,true_or->BO
open Int renaming emod_lt_of_pos->BL,fdiv_eq_ediv_of_nonneg->fG,tmod_eq_emod_of_nonneg->dU,toNat_natCast->bW
open Go.IntKind renaming i64->aH,u32->aT,u64->aI,u8->bM
open List renaming all_cons->gI,all_eq_true->aY,append_nil->cX,ext_getElem?->fF,filter_append->OT,filter_cons->bVJ,filter_eq_self->xK,find?_eq_none->a7S,getD->oZ,getD_eq_getElem?_getD->aU,getElem?_eq_none->bE,getElem?_eq_some_iff->aL,getElem?_map->aV,getElem?_range->nD,getElem?_set->dS,getElem_mem->zY,length_append->bT,length_map->dG,length_set->jF,length_take->uB,map->tB,map_append->aQ,map_congr_left->fR,map_cons->bN,map_map->kT,map_nil->bV,map_set->jO,mem_iff_getElem->uP,mem_map->dM,mem_range->dX,range->aR,replicate->bI,take_length->bVG
open Nat renaming add_assoc->gM,add_sub_cancel->a7O,add_sub_cancel_left->kJ,add_zero->kG,eq_zero_or_pos->a7N,le_refl->aJ,lt_succ_self->cY,mul_le_mul_right->bZ,mul_one->JK,not_lt_zero->bU,sub_self->TT,sub_zero->vN,zero_le->bF
open Option renaming map_some->bO,none->aC,some->aA
open Go.Proofs.Tryz renaming func122->bQO,prog->aG
open Go.Value renaming bool->bC,int->aE,slice->aP
section
namespace Go.Proofs.T
open Go Go.AM Go.Proofs
variable{a b:St}
structure Two (a b:St):Prop where
 na:Nrm a
 nb:Nrm b
 ra:dR a=[]
 rb:dR b=[]
 al:SS a b a.ng=aB
def al_iff:SS a b a.ng=aB↔a.cpus=b.cpus/\a.credit=b.credit/\a.ng=b.ng/\∀g,g<a.ng->a.par g=b.par g:=by simp only[SS,dTt]
def Two.swap(h:Two a b):Two b a:=by obtain⟨h1,h2,h3,h4⟩:=al_iff.1 h.al;exact⟨h.nb,h.na,h.rb,h.ra,al_iff.2 ⟨h1.symm,h2.symm,h3.symm,λ g hg=>(h4 g oO).symm⟩⟩
structure Alk (a b:St):Prop where
 cpus:a.cpus=b.cpus
 credit:a.credit=b.credit
 ng:a.ng=b.ng
 par:∀g,a.par g=b.par g
 nk:a.nk=b.nk
 nu:a.nu=a.nk
 nu':b.nu=a.nk
 ns:a.ns=b.ns
 nsp:∀g,a.nsp g=b.nsp g
 K:0<a.nk
 sp:∀g c,¬(g<a.ns/\c<a.nk)->a.sp g c=b.sp g c
def Two.alk(h:Two a b):Alk a b:=by
 obtain⟨h1,h2,h3,h4⟩:=al_iff.1 h.al;obtain⟨⟨a1,a2⟩,a3,_,_,_,a4⟩:=xT h.ra;obtain⟨⟨b1,b2⟩,b3,_,_,_,b4⟩:=xT h.rb;obtain⟨_,s1⟩:=oB (s:=a) (by rw[h.ra];rfl);obtain⟨_,s2⟩:=oB (s:=b) (by rw[h.rb];rfl);obtain⟨k1,_,_,_⟩:=shapes_nil s1;obtain⟨k2,_,_,_⟩:=shapes_nil s2;have hnk:a.nk=b.nk:=oO
 have z:∀g c,¬(g<a.ns/\c<a.nk)->a.sp g c=⟨0,0,0⟩/\b.sp g c=⟨0,0,0⟩:=λ g c hgc=>by
  by_cases hg:g<a.ns;.exact⟨h.na.s g c (by rw[a2 g hg];omega),h.nb.s g c (by rw[b2 g oO];omega)⟩
  exact⟨h.na.s g c (by rw[h.na.n g oO];omega),h.nb.s g c (by rw[h.nb.n g oO];omega)⟩
 refine⟨h1,h2,h3,λ g=>?_,hnk,a1,oO,oO,λ g=>?_,a3,λ g c hgc=>by rw[(z g c hgc).1,(z g c hgc).2]⟩
 .by_cases hg:g<a.ng;.exact h4 g hg
  rw[(h.na.g g oO).1,(h.nb.g g oO).1]
 by_cases hg:g<a.ns;.rw[a2 g hg,b2 g oO,hnk]
 rw[h.na.n g oO,h.nb.n g oO]
def WW{now to:Nat->Int}{N i:Nat}(h:N<=i):upd now (toN (iH (mC now to) N)) i=now i:=
 aAR λ x hx e=>by have:=(OG now to N).ok.lt x hx;omega
def a9L(a b:St){S K g c:Nat}(hg:g<S)(hc:c<K):upS K a.sp (iH (λ g=>iH (qJ a b g) K) S) g c=b.sp g c:=by
 have hK:0<K:=oO;have hlt:g*K+c<S*K:=by have:=bZ K hg;rw[Nat.succ_mul]at this;omega
 obtain⟨h5,h6⟩:=IS (g:=g) hc;rw[aKB (ZB a b S K hK).rng hc,OF,aNG _ hK,aKA (ne:=neS) (λ x y h=>(a2M h).symm) _ _ hlt,JZ,h5,h6]
def a1V(a b:St){S K g c:Nat}(hK:0<K)(h:¬(g<S/\c<K)):upS K a.sp (iH (λ g=>iH (qJ a b g) K) S) g c=a.sp g c:=by unfold upS;rw[a7S.2 λ x hx=>?_];obtain⟨h1,h2,h3,h4⟩:=(ZB a b S K hK).rng x hx;simp only[aO,beq_iff_eq];rintro⟨e1,e2⟩;exact h ⟨oO,oO⟩
def Two.ids(h:Two a b):EC a/\EC b:=⟨(AL (by rw[h.ra];rfl)).st,(AL (by rw[h.rb];rfl)).st⟩
def bCI(h:∀g,a.par g=b.par g)(n:Nat):iH (wK a b) n=iH (mC a.wt b.wt) n:=nG λ i hi=>by rw[wK,mC];congr 1;rw[eY];simp only[decide_eq_true_iff,bne_iff_ne,ne_eq,h i,true_and];exact not_congr eq_comm
def a3Z(h:Two a b):mrg a (GM a b) (sQ b)=b:=by
 obtain⟨h1,h2,h3,h4,h5,h6,h7,h8,h9,h10,h11⟩:=h.alk;refine aJQ h1 h2 h3 (funext h4) (funext λ i=>?_) h5 (funext λ i=>?_) (by show a.nu=b.nu;omega) (funext λ i=>?_) (bEY b) (funext λ i=>?_) h8 (funext h9) (funext λ g=>funext λ c=>?_)
 .show upd a.wt (toN (iH (wK a b) a.ng)) i=b.wt i;rw[bCI h4];by_cases hi:i<a.ng;.exact OV _ _ hi
  rw[WW oO,(h.na.g i oO).2,(h.nb.g i oO).2]
 .show upd a.clk (toN (iH (mC a.clk b.clk) a.nk)) i=b.clk i;by_cases hi:i<a.nk;.exact OV _ _ hi
  rw[WW oO,h.na.k i oO,h.nb.k i oO]
 .show upd a.cur (toN (iH (mC a.cur b.cur) a.nk)) i=b.cur i;by_cases hi:i<a.nk;.exact OV _ _ hi
  rw[WW oO,h.na.u i oO,h.nb.u i oO]
 .exact wI (h.nb.t i)
 show upS a.nk a.sp (iH (λ g=>iH (qJ a b g) a.nk) a.ns) g c=b.sp g c;by_cases hgc:g<a.ns/\c<a.nk;.exact a9L a b hgc.1 hgc.2
 rw[a1V a b h10 hgc];exact h11 g c hgc
def Two.btw(h:Two a b):btw a b=GM a b/\yF a b=0:=by
 have hn:¬uO a b:=by unfold uO;rw[h.ra,h.rb];simp
 unfold T.btw yF;rw[iN hn,iN hn,h.al,iN sS,iN sS];exact⟨rfl,rfl⟩
def aIJ(x:Dl):CG (qP x)=x:=((YZ x (qP x)).1 (aDP _)).symm
def Two.leads(h:Two a b):TQ a (qP (T.btw a b))/\yG a (qP (T.btw a b))=b:=by
 have hd:CG (qP (T.btw a b))=GM a b:=by rw[aIJ,h.btw.1]
 obtain⟨f1,f2⟩:=aEF h.ids.1 h.ids.2 (λ g _=>h.alk.par g) h.alk.K;obtain⟨l1,l2⟩:=bDE (s:=a) (d:=qP (T.btw a b)) (m:=sQ b) h.ra (λ _=>by rw[hd];exact f2);have hm:=a3Z h;have hk:TQ a (qP (T.btw a b)):=l1.2 (by rw[hd];exact⟨f1,by rw[hm];exact h.rb⟩);exact⟨hk,by rw[l2 hk,hd,hm]⟩
def a0D{d:DE}(h:dR a=[])(hk:TQ a d)(n:Nrm a):Two a (yG a d)/\T.btw a (yG a d)=CG d:=
 ⟨⟨n,a7A n (xT h).1,h,aJF h hk,al_iff.2 ⟨rfl,rfl,rfl,λ _ _=>rfl⟩⟩,hk.2⟩
end Go.Proofs.T
end
section
namespace Go.Proofs.T
open Go Go.AM Go.Proofs
variable{Γ:dW}
attribute [local irreducible] jM del
def aMD(k:Nat):Kp [0,1,2,3,6,7,8,9,10,11,12,14,15,17,18,19,33,44,45,46,47,61,62,63,64] (λ i=>i-k):=oR
def aVV(f:Nat->Sm)(nl q i n ng:Nat)(hq:q<=40)(hi:i<=q)(h4:n<=4)(k kx T:Nat)(ekx:kx=k+(26+ng))(eT:T=k+(25+ng))(L0:LSt)(Ls:Nat->LSt)(zsq:Nat->LSt×(Int×Int)×(Nat×Nat))(hR:Runs Γ n ng (k+17) T (kx+2) (λ i=>UO (f i)) L0 Ls zsq)
 (F:Nat->aS) (hF:∀i,F i=MH (k+17) T (Ls i)) (NB:Blk) (CN:List AVal) (hCN:CN.all AM.one=aB) (eNB:NB=⟨13,aB,[CN]⟩) (SA:List AVal) (hAl:SA.length=7) (hA7:SA.take 7=SA) (hA1:SA.all AM.one=aB) (hAc:SA.all clean=aB) (RV:AVal) (eRV:RV= .tup [.agg SA,.agg (Ls q).st.cells,aB]):
 W aG Γ 82 k (gV (gD Tryz.f20) [1,1,1,1,1,1,1]) (AG aG Tryz.f20 λ _ r1 _=>r1=RV) (kx+1) [(15,.ptr kx 0 0),(12,i),(11,(0:Int)),(10,.ptr (k+17) 0 0),(9,.rd 8 q (λ i=>gS (UO (f i)))),(7,.ptr (k+2) 0 0),(6,.ptr (k+1) 0 0)] ((kx,⟨7,aB,[SA]⟩)::(k+2,⟨7,aB,[zst7]⟩)::(k+1,⟨7,aB,[zst7]⟩)::(k,NB)::F i):=by
 have hz7:zst7.length=7:=rfl;have hz8:List.drop 7 zst7=[]:=rfl;have hci:(0<=(i:Int)/\(i:Int)<=(q:Int))=True:=eq_true oO;have hiq:(0<=(i:Int)/\(i:Int)<=(q:Int)/\(q:Int)<=(q:Int))=True:=eq_true oO;obtain⟨hr1,hr2,hr3⟩:=hR.rt i oO;have kp:=aMD k;have uU:=yI hz7 hci hiq hAl hA7 hA1 hAc;refine uV ?_<;>and_intros<;>first|exact iV|(apply zM;(repeat intro ht);apply zM;(repeat intro hg);apply zM)
 refine cD (X:=Nat) rfl [0,1,2,3,6,7,8,9,10,11,12,14,15,17,18,19,33,44,45,46,47,61,62,63,64] (kx+1) (λ j=>[(63,j),(15,.ptr kx 0 0)]) (λ j=>(kx,⟨7,aB,[SA]⟩)::(k+2,⟨7,aB,[zst7]⟩)::(k+1,⟨7,aB,[zst7]⟩)::(k,NB)::F (i+j)) (λ j=>j<=q-i) (λ j=>q-i-j) 0 ?_ (bF _) ?_
 .simp only[kG];rw[eNB,hF];simp only[MH,LH];have uU:=pJ hr3 hA1 hAc hAl;refine mX ?_<;>first|exact iV|apply zN
  exact iC
 intro j hj;have uU:=Go.AM.uU;refine mX ?_<;>first|exact iV|apply zN
 by_cases hj2:j<q-i
 .obtain⟨hd1,hd2,hd3,hd4,hd5,hd6,hd7,hd8,hd9⟩:=hR.did (i+j) oO;rw[<-hR.s (i+j),gM i j 1]at hd9;obtain⟨hr1,hr2,hr3⟩:=hR.rt (i+j) oO;obtain⟨hr4,hr5,hr6⟩:=hR.rt (i+(j+1)) oO;obtain⟨tk',etk⟩:=xE ((zsq (i+j)).2.2.1);obtain⟨kk',ekk⟩:=xE ((zsq (i+j)).2.2.2);obtain⟨ra,era⟩:=xE ((zsq (i+j)).2.1.1);obtain⟨re,ere⟩:=xE ((zsq (i+j)).2.1.2);rw[<-etk]at hd5 hd6 hd7 hd9;rw[<-ekk]at hd6 hd8 hd9;rw[<-era,<-ere]at hd9;simp only[gS,kM]at hd9;have hdel2:del (F (i+j)) (kx+1)=F (i+j):=by rw[hF];simp only[MH,LH];have uU:=hr3;refine mX ?_<;>first|exact iV|apply zN
  have uU:=hdel2;refine uV ?_<;>and_intros<;>first|exact iV|(apply zM;(repeat intro ht);apply zM;(repeat intro hg);apply zM)
  refine mS [.far (kM ra re) kk' [(kx+1,⟨8,aB,[gS (UO (f (i+j)))]⟩),(kx,⟨7,aB,[SA]⟩),(k+2,⟨7,aB,[zst7]⟩),(k+1,⟨7,aB,[zst7]⟩),(k,NB)] (MH (k+17) T (Ls (i+j))) (MH (k+17) tk' (Ls (i+(j+1))))] ?_<;>and_intros<;>first|exact iV|(apply zM;(repeat intro ht);apply zM;(repeat intro hg);apply zM)
  .exact λ q=>by rw[hF]
  .exact λ q hq=>by
    rcases hq with hq|hq;.have:=oT hq;simp only[AM.look];repeat rw[iN oO]
    have:=oT hq;simp only[AM.look];repeat rw[iN oO]
  .exact hd9
  refine uV ?_<;>and_intros<;>first|exact iV|(apply zM;(repeat intro ht);apply zM;(repeat intro hg);apply zM)
  refine⟨j+1,oO,oO,?_⟩;rw[hF];subst eNB;rcases hd7 with h|h
  .rw[h];simp only[MH,LH];have uU:=pJ hr6 hA1 hAc hAl;refine mX ?_<;>first|exact iV|apply zN
   exact iC
  refine Mv.trans (Mv.swap tk' T ⟨oO,oO⟩ ⟨oO,oO⟩) ?_;simp only[MH,LH];have uU:=pJ hr6 hA1 hAc hAl;refine mX ?_<;>first|exact iV|apply zN
  exact iC
 have hjq:q=i+j:=oO;subst hjq;obtain⟨hr1,hr2,hr3⟩:=hR.rt (i+j) oO;have hst':=aVI (Ls (i+j)) n hr1.r0 (k+17) T (kx+1) oO oO (Γ:=Γ);obtain⟨SB,eSB⟩:=xE ((Ls (i+j)).st.cells);have hBl:SB.length=7:=by rw[eSB];rfl
 rw[<-eSB]at hst' eRV;have hB7:SB.take 7=SB:=by rw[eSB];rfl
 have hB1:SB.all AM.one=aB:=by rw[eSB];rfl
 have hBc:SB.all clean=aB:=by rw[eSB];rfl
 have hd0':∀b,kx<=b->del (F (i+j)) b=F (i+j):=λ b hb=>by rw[hF];simp only[MH,LH];have uU:=hr3;refine mX ?_<;>first|exact iV|apply zN
 have hdel2:=hd0' kx (aJ _);have hdel3:=hd0' (kx+1) oO;have hll':decide ((j:Int)<((i+j-i:Nat):Int))=aF:=by simp
 have uU:=fB hll' hAl hA7 hA1 hAc hBl hB7 hB1 (rY hBc hz7 hz8 hdel2 hdel3 @apN);refine uV ?_<;>and_intros<;>first|exact iV|(apply zM;(repeat intro ht);apply zM;(repeat intro hg);apply zM)
 refine mS [.far (.tup [.agg SB,(0:Int)]) (kx+1) [(kx,⟨7,aB,[SA]⟩),(k+2,⟨7,aB,[zst7]⟩),(k+1,⟨7,aB,[zst7]⟩),(k,NB)] (MH (k+17) T (Ls (i+j))) (MH (k+17) T (Ls (i+j)))] ?_<;>and_intros<;>first|exact iV|(apply zM;(repeat intro ht);apply zM;(repeat intro hg);apply zM)
 .exact λ q=>by rw[hF]
 .exact λ q hq=>by
   rcases hq with hq|hq;.have:=oT hq;simp only[AM.look];repeat rw[iN oO]
   have:=oT hq;simp only[AM.look];repeat rw[iN oO]
 refine uV ?_<;>and_intros<;>first|exact iV|(apply zM;(repeat intro ht);apply zM;(repeat intro hg);apply zM)
 rw[eNB];refine gW (nC (k1:=kx+2) (fr1:=[(19,aD (aE aH 0)),(18,.ptr (kx+1) 0 0),(15,.ptr kx 0 0),(11,aD (aE aH 0)),(7,.ptr (k+2) 0 0),(6,.ptr (k+1) 0 0)]) (H1:=[(kx+1,⟨7,aB,[SB]⟩),(kx,⟨7,aB,[SA]⟩),(k+2,⟨7,aB,[zst7]⟩),(k+1,⟨7,aB,[zst7]⟩)]) (sA oO (sW (GX (@hr3) (@hA1) (@hAc) (@hB1) (@hBc))) (by simp only[MH,LH];simp-dsimp-implicitDefEqProofs (disch:=omega)only[go_sem,iO,hr3,hA1,hAc,hB1,hBc,aQ,↓reduceIte]) (sW (GX (@hr3) (@hA1) (@hAc) (@hB1) (@hBc))) (sW (GX (@hr3) (@hA1) (@hAc) (@hB1) (@hBc))))) ?_;have kp:=kpb k kx [0,1,2,3,6,7,8,9,10,11,12,14,15,17,18,19,33,44,45,46,47,61,62,63,64];have uU:=fB hA7 hA1 hAc hAl hB7 hB1 hBc hBl (uT hz7 hz8 @apN);refine uV ?_<;>and_intros<;>first|exact iV|(apply zM;(repeat intro ht);apply zM;(repeat intro hg);apply zM)
 have uU:=fB hA7 hA1 hAc hAl hB7 hB1 hBc hBl (uT hz7 hz8 @apN);refine kX ?_;rw[eRV];first|done|rfl
def aQC(x:Nums)(hx:NumsOk x)(f:Nat->Sm)(hf:∀i,SmOk (f i))(nl q c qg n ng:Nat)(z:Int)(hq:q=min nl 40)(hnl:nl<=9223372036854775807)(hz0:0<=z)(hz1:z<=255)(hc:z%((q:Int)+1)=(c:Int))(hqg:x.g%6=(qg:Int))(hn:1+x.c%4=(n:Int))(hng:ng=qg+1)
 (k:Nat) (Ls:Nat->LSt) (zsq:Nat->LSt×(Int×Int)×(Nat×Nat)) (hR:Runs Γ n ng (k+17) (k+(25+ng)) (k+(28+ng)) (λ i=>UO (f i)) (mF (JA (1+x.c%4) x.cr (kV x qg).1) n) Ls zsq):
 Tr aG Γ 20 k [.agg x.cells,.rd 8 nl (λ i=>smc (f i)),aD (aE bM z)] [] (λ _ r1 _=>r1= .tup [.agg (Ls c).st.cells,.agg (Ls q).st.cells,aB]):=by
 have hmade:=bFR x hx (Γ:=Γ);rw[hqg,bW]at hmade;have hscr:=a4G f hf nl 40 q hq oO oO hnl (Γ:=Γ);obtain⟨s,es⟩:=xE (JA (1+x.c%4) x.cr (kV x qg).1);have hl:=(wA x qg).1;have hc0:=hx.c0;have hg0:=hx.g0;have hsng:s.ng=ng:=by rw[es,hng];exact hl
 have hnew:=bLX s n (by rw[es];exact hn) (by rw[DV,es];exact aZE hx oO) oO oO oO oO (k+3) (Γ:=Γ);rw[hsng]at hnew;rw[<-es]at hmade hR;obtain⟨kx,ekx⟩:=xE (k+(26+ng));obtain⟨T,eT⟩:=xE (k+(25+ng));rw[(oO:k+3+(23+ng)=kx),(oO:k+3+(22+ng)=T),show k+3+14=k+17 from rfl]at hnew;rw[<-eT,(oO:k+(28+ng)=kx+2)]at hR;obtain⟨RV,eRV⟩:=xE (AVal.tup [.agg (Ls c).st.cells,.agg (Ls q).st.cells,.lit (.bool aB)]);rw[<-eRV];have hcq:c<=q:=by have:=BL z (oO:(0:Int)<(q:Int)+1);omega
 refine bR Tryz.func20 rfl 82 rfl bB ?_;simp only[Nums.cells]at hmade;have kp:=aMD k;have uU:= @Nums.cells.eq_1;refine uV ?_<;>and_intros<;>first|exact iV|(apply zM;(repeat intro ht);apply zM;(repeat intro hg);apply zM)
 refine mS [.ret (.rd 8 q (λ i=>gS (UO (f i))))] ?_<;>and_intros<;>first|exact iV|(apply zM;(repeat intro ht);apply zM;(repeat intro hg);apply zM)
 .exact hscr
 refine uV ?_<;>and_intros<;>first|exact iV|(apply zM;(repeat intro ht);apply zM;(repeat intro hg);apply zM)
 refine mS [.ret (.agg [s.cpus,aD (aE aI s.credit),.rd 2 s.ng (gf s)]),.far (.tup [.ptr (k+17) 0 0,(0:Int)]) kx [(k+2,⟨7,aB,[zst7]⟩),(k+1,⟨7,aB,[zst7]⟩),(k,⟨13,aB,[x.cells]⟩)] [] (MH (k+17) T (mF s n))] ?_<;>and_intros<;>first|exact iV|(apply zM;(repeat intro ht);apply zM;(repeat intro hg);apply zM)
 .exact hmade
 .exact λ q=>rfl
 .exact λ q hq=>by
   rcases hq with hq|hq;.simp[fN,AM.look]at hq
   have:=oT hq;simp only[AM.look];repeat rw[iN oO]
 .exact hnew
 have hzi:z.tmod ((q:Int)+1)=(c:Int):=by rw[dU hz0,hc]
 have hz64:aH.wrap z=z:=wrap_i64 oO oO;have hc64:aH.wrap (c:Int)=(c:Int):=wrap_i64 oO oO;have hq1:aH.wrap ((q:Int)+1)=(q:Int)+1:=wrap_i64 oO oO;have hqn:((q:Int)+1=0)=False:=eq_false oO;have hci:(0<=(c:Int)/\(c:Int)<=(q:Int))=True:=eq_true oO;have hz7:zst7.length=7:=rfl;have uU:=fB @Nums.cells.eq_1 hzi hz64 hc64 hq1 hqn hci hz7 @vN;refine uV ?_<;>and_intros<;>first|exact iV|(apply zM;(repeat intro ht);apply zM;(repeat intro hg);apply zM)
 rotate_left 1
 all_goals(try exact absurd trivial ‹¬True›)
 obtain⟨F,hF⟩:∃F:Nat->aS,∀i,F i=MH (k+17) T (Ls i):=⟨_,λ _=>rfl⟩;rw[<-hR.z,<-hF 0];obtain⟨NB,eNB⟩:=xE (⟨13,aB,[[.lit (.int .u8 x.c),.lit (.int .u8 x.g),.lit (.int .u32 x.cr),.lit (.int .u8 (x.p 0)),.lit (.int .u8 (x.p 1)),.lit (.int .u8 (x.p 2)),.lit (.int .u8 (x.p 3)),.lit (.int .u8 (x.p 4)),.lit (.int .u16 (x.w 0)),.lit (.int .u16 (x.w 1)),.lit (.int .u16 (x.w 2)),.lit (.int .u16 (x.w 3)),.lit (.int .u16 (x.w 4))]]⟩:Blk);refine cD (X:=Nat) rfl [0,1,2,3,6,7,8,9,10,11,12,14,15,17,18,19,33,44,45,46,47,61,62,63,64] (kx+1) (λ i=>[(46,i)]) (λ i=>(k+2,⟨7,aB,[zst7]⟩)::(k+1,⟨7,aB,[zst7]⟩)::(k,NB)::F i) (λ i=>i<=c) (λ i=>c-i) 0 ?_ (bF _) ?_
 .have hl0:=(hR.rt 0 oO).2.2;rw[eNB,hF 0];simp only[MH,LH];have uU:=hl0;refine mX ?_<;>first|exact iV|apply zN
  exact iC
 intro i hi;have uU:= @Nums.cells.eq_1;refine mX ?_<;>first|exact iV|apply zN
 by_cases hi2:i<c
 .obtain⟨hd1,hd2,hd3,hd4,hd5,hd6,hd7,hd8,hd9⟩:=hR.did i oO;rw[<-hR.s i]at hd9;obtain⟨hr1,hr2,hr3⟩:=hR.rt i oO;obtain⟨hr4,hr5,hr6⟩:=hR.rt (i+1) oO;obtain⟨tk',etk⟩:=xE ((zsq i).2.2.1);obtain⟨kk',ekk⟩:=xE ((zsq i).2.2.2);obtain⟨ra,era⟩:=xE ((zsq i).2.1.1);obtain⟨re,ere⟩:=xE ((zsq i).2.1.2);rw[<-etk]at hd5 hd6 hd7 hd9;rw[<-ekk]at hd6 hd8 hd9;rw[<-era,<-ere]at hd9;simp only[gS,kM]at hd9;have hdel:del (F i) (kx+1)=F i:=by rw[hF];simp only[MH,LH];have uU:=hr3;refine mX ?_<;>first|exact iV|apply zN
  have uU:=zA @Nums.cells.eq_1 hdel;refine uV ?_<;>and_intros<;>first|exact iV|(apply zM;(repeat intro ht);apply zM;(repeat intro hg);apply zM)
  refine mS [.far (kM ra re) kk' [(kx+1,⟨8,aB,[gS (UO (f i))]⟩),(k+2,⟨7,aB,[zst7]⟩),(k+1,⟨7,aB,[zst7]⟩),(k,NB)] (MH (k+17) T (Ls i)) (MH (k+17) tk' (Ls (i+1)))] ?_<;>and_intros<;>first|exact iV|(apply zM;(repeat intro ht);apply zM;(repeat intro hg);apply zM)
  .exact λ q=>by rw[hF]
  .exact λ q hq=>by
    rcases hq with hq|hq;.have:=oT hq;simp only[AM.look];repeat rw[iN oO]
    have:=oT hq;simp only[AM.look];repeat rw[iN oO]
  .exact hd9
  refine uV ?_<;>and_intros<;>first|exact iV|(apply zM;(repeat intro ht);apply zM;(repeat intro hg);apply zM)
  refine⟨i+1,oO,oO,?_⟩;rw[hF];subst eNB;rcases hd7 with h|h
  .rw[h];simp only[MH,LH];have uU:=hr6;refine mX ?_<;>first|exact iV|apply zN
   exact iC
  refine Mv.trans (Mv.swap tk' T ⟨oO,oO⟩ ⟨oO,oO⟩) ?_;simp only[MH,LH];have uU:=hr6;refine mX ?_<;>first|exact iV|apply zN
  exact iC
 have hil:i=c:=oO;subst hil;obtain⟨hr1,hr2,hr3⟩:=hR.rt i oO;have hst:=aVI (Ls i) n hr1.r0 (k+17) T (kx+1) oO oO (Γ:=Γ);obtain⟨SA,eSA⟩:=xE ((Ls i).st.cells);have hAl:SA.length=7:=by rw[eSA];rfl
 rw[<-eSA]at hst eRV;have hA7:SA.take 7=SA:=by rw[eSA];rfl
 have hA1:SA.all AM.one=aB:=by rw[eSA];rfl
 have hAc:SA.all clean=aB:=by rw[eSA];rfl
 have hz8:List.drop 7 zst7=[]:=rfl;have hd0:∀b,kx<=b->del (F i) b=F i:=λ b hb=>by rw[hF];simp only[MH,LH];have uU:=hr3;refine mX ?_<;>first|exact iV|apply zN
 have hdel:=hd0 kx (aJ _);have hdel1:=hd0 (kx+1) oO;have hll:decide ((i:Int)<(i:Int))=aF:=by simp
 have hiq:(0<=(i:Int)/\(i:Int)<=(q:Int)/\(q:Int)<=(q:Int))=True:=eq_true oO;have uU:=fB hll hAl hA7 hA1 hAc hz7 hz8 hdel (uT hdel1 hci @apN);refine uV ?_<;>and_intros<;>first|exact iV|(apply zM;(repeat intro ht);apply zM;(repeat intro hg);apply zM)
 refine mS [.far (.tup [.agg SA,(0:Int)]) (kx+1) [(k+2,⟨7,aB,[zst7]⟩),(k+1,⟨7,aB,[zst7]⟩),(k,NB)] (MH (k+17) T (Ls i)) (MH (k+17) T (Ls i))] ?_<;>and_intros<;>first|exact iV|(apply zM;(repeat intro ht);apply zM;(repeat intro hg);apply zM)
 .exact λ q=>by rw[hF]
 .exact λ q hq=>by
   rcases hq with hq|hq;.have:=oT hq;simp only[AM.look];repeat rw[iN oO]
   have:=oT hq;simp only[AM.look];repeat rw[iN oO]
 refine gW (FI (kx+1) kx (k1:=kx+1) (fr1:=[(15,.ptr kx 0 0),(12,aD (aE aH (i:Int))),(11,aD (aE aH 0)),(10,.ptr (k+17) 0 0),(9,.rd 8 q (λ i=>gS (UO (f i)))),(7,.ptr (k+2) 0 0),(6,.ptr (k+1) 0 0)]) (H1:=(kx,⟨7,aB,[SA]⟩)::(k+2,⟨7,aB,[zst7]⟩)::(k+1,⟨7,aB,[zst7]⟩)::(k,NB)::F i) (sA oO (sW (fB (@hll) (@hAl) (@hA7) (@hA1) (@hAc) (@hz7) (@hz8) (@hdel) (uT (@hdel1) (@hci) (@apN)))) (by rw[hF,eNB];simp only[MH,LH];simp-dsimp-implicitDefEqProofs (disch:=omega)only[go_sem,iO,hll,hAl,hA7,hA1,hAc,hz7,hz8,hdel,hdel1,hci,cX,aQ,↓reduceIte]) (sW (fB (@hll) (@hAl) (@hA7) (@hA1) (@hAc) (@hz7) (@hz8) (@hdel) (uT (@hdel1) (@hci) (@apN)))) (by rw[hF,eNB];simp only[MH,LH];simp-dsimp-implicitDefEqProofs (disch:=omega)only[go_sem,iO,hll,hAl,hA7,hA1,hAc,hz7,hz8,hdel,hdel1,hci,cX,aQ,↓reduceIte]))) ?_;exact aVV f nl q i n ng oO oO oO k kx T oO oO _ Ls zsq hR F hF NB _ rfl eNB SA hAl hA7 hA1 hAc RV eRV
end Go.Proofs.T
end
section
namespace Go.AM
open Go
variable{fn:FuncId}{cap s:Nat}{Q:Nat->AVal->aS->Prop}{g:Nat->List AVal}{a:Option Addr}{P:Program}{H:aS}
section
variable{P:Program}{Γ:dW}{o:Oper}{ev:Operand->Option AVal}{get:Nat->Option Blk}{k:Nat}
def aGG{x y:Operand}{t ty:Nat}{p:Addr}{m c m' c':Nat}(ho:o.op= .binOp .eql t x y ty)(ht:yQ P t=aA 1)(hx:ev x=aA (.lit (.slice (aA p) m c)))(hy:ev y=aA (.lit (.slice aC m' c'))):Good P Γ o ev get k ⟨.lit (.bool aF),k,[],[]⟩:=by
 refine⟨cL λ w G ρ H A a hr hrd hop=>⟨.bool aF,?_,.lit⟩,λ id hid=>by simp at hid,aJ _⟩;have ex:=iB (hop x pS _ hx);have ey:=iB (hop y pS _ hy)
 obtain⟨e,he⟩:∃e,P.underlying t=aA (.slice e):=by
  unfold yQ at ht;split at ht;.cases ht
  .rename_i e he;exact⟨e,he⟩
  .cases ht
  .cases ht
  cases ht
 obtain⟨h1,_,h3,_⟩:=HU he p m c m' c' w;simp[execOp,ho,ex,ey,h1,h3]
def zW{f:Nat->List AVal}:VLe (.lit (.slice a 0 cap)) (.rd s 0 f):=λ w G ρ A cv hv=>by cases hv;exact .rd0
def a7P{kb:Nat}{fr:Fr}(t s:Nat)(f:Nat->List AVal)(hf:look fr t=aA (.lit (.slice a 0 cap))):Mv kb k fr H k ((t,.rd s 0 f)::del fr t) H:=a1B λ t' v hv=>by
 simp only[look]at hv;split at hv;.rename_i e;subst e;cases hv;exact⟨_,hf,zW⟩
 rw[iK]at hv;split at hv;.cases hv
 exact⟨v,hv,bL _⟩
end
def a7L{Γ:dW}{k:Nat}{cells:List AVal}(j:Nat)(hj:cells[j]? =aA (.rd s 0 g))(h:∀a cap,Tr P Γ fn k [.agg (cells.set j (.lit (.slice a 0 cap)))] H Q):Tr P Γ fn k [.agg cells] H Q:=λ A hA w G ρ cargs hrel hvs=>by
 have hv:=hvs.2 0 _ rfl
 obtain⟨cs,hev⟩:∃cs,cargs.getD 0 undef= .agg cs:=by
  generalize cargs.getD 0 undef=cv at hv
  cases hv with
  |agg h1 h2=>exact⟨_,rfl⟩
 rw[hev]at hv
 cases hv with
 |agg h1 h2=>
  have hc:=h2 j _ hj
  obtain⟨x,cap,hx⟩:∃x cap,cs.getD j undef= .slice x 0 cap:=by
   generalize cs.getD j undef=cv at hc
   cases hc with
   |rd0=>exact⟨_,_,rfl⟩
   |rd=>exact⟨_,_,rfl⟩
  refine h x cap A hA w G ρ cargs hrel ⟨hvs.1,λ i v hi=>?_⟩
  cases i with
  |succ i=>simp at hi
  |zero=>
   cases hi;rw[hev];refine .agg (by rw[jF];exact h1) λ i v hi'=>?_;rw[dS]at hi';split at hi'
   .rename_i e;subst e;split at hi';.cases hi';rw[hx];exact .lit
    cases hi'
   exact h2 i v hi'
end Go.AM
end
section
namespace Go.Proofs.T
open Go Go.AM Go.Proofs
variable{d:DE}{R:List (List AVal)}{L l:List Tk}{a i j m:Nat}{p:Nat->Bool}{t:Tk}
variable{Γ:dW}
def bLP(n:Nat)(f:Nat->List AVal)(k:Nat)(hn0:0<n)(hn2:n<=100000)(hone:(((aR n).map f).all λ row=>row.all AM.one)=aB):
 Tr aG Γ 122 k [.rd 8 n f] [] (λ k1 r1 H1=>k1=k+2/\r1= .sl (k+1) 0 n/\H1=[(k+1,⟨8,aB,(aR n).map f⟩)]):=by
 obtain⟨R,eR⟩:=xE ((aR n).map f);have hl:R.length=n:=by rw[eR];simp
 obtain⟨RH,eRH⟩:=xE ([(k+1,⟨8,aB,R⟩)]:aS);rw[<-eR]at hone⊢
 refine Tr.mono (mO (kk:=k+2) (V:= .sl (k+1) 0 n) (RH:=RH) oO (by simp[bd,MG,iL,kC]) (by rw[eRH];exact jS (by simp only[kC,dTt];omega) rfl) ?_) (λ _ _ _ h=>⟨h.1,h.2.1,h.2.2.trans eRH⟩);have hne:¬n=0:=oO;have eR2:=eR.symm;refine bR bQO rfl 8 rfl bB ?_;have kp:=kN k [0,2,4];have uU:=pJ hone hne hn0 eR2;refine fC λ ht=>?_;have uU:=pJ hone hne hn0 eR2;refine kX ?_;refine⟨rfl,?_⟩;rw[eRH];exact mX iV
def bAP(n:Nat)(f:Nat->List AVal)(k:Nat)(hn0:0<n)(hn2:n<=100000)(hone:(((aR n).map f).all λ row=>row.all AM.one)=aB):
 Tr aG Γ 123 k [.rd 1 n f] [] (λ k1 r1 H1=>k1=k+2/\r1= .sl (k+1) 0 n/\H1=[(k+1,⟨1,aB,(aR n).map f⟩)]):=by
 obtain⟨R,eR⟩:=xE ((aR n).map f);have hl:R.length=n:=by rw[eR];simp
 obtain⟨RH,eRH⟩:=xE ([(k+1,⟨1,aB,R⟩)]:aS);rw[<-eR]at hone⊢
 refine Tr.mono (mO (kk:=k+2) (V:= .sl (k+1) 0 n) (RH:=RH) oO (by simp[bd,MG,iL,kC]) (by rw[eRH];exact jS (by simp only[kC,dTt];omega) rfl) ?_) (λ _ _ _ h=>⟨h.1,h.2.1,h.2.2.trans eRH⟩);have hne:¬n=0:=oO;have eR2:=eR.symm;refine bR Tryz.func123 rfl 8 rfl bB ?_;have kp:=kN k [0,2,4];have uU:=pJ hone hne hn0 eR2;refine fC λ ht=>?_;have uU:=pJ hone hne hn0 eR2;refine kX ?_;refine⟨rfl,?_⟩;rw[eRH];exact mX iV
def bFK(cap:Nat):AM.Pure aG Γ 122 [aD (aP aC 0 cap)] ():=by refine cA bQO rfl 8 rfl bB rfl λ k=>?_;have kp:=kN k [0,2,4];refine fC λ ht=>?_;refine cB rfl ⟨_,rfl,bG ?_⟩;rfl
def bFL(p:Addr)(cap k:Nat):
 Tr aG Γ 122 k [aD (aP (aA p) 0 cap)] [] (λ k1 r1 H1=>k1=k+1/\r1= .sl k 0 0/\H1=[(k,⟨8,aB,[]⟩)]):=by
 obtain⟨RH,eRH⟩:=xE ([(k,⟨8,aB,[]⟩)]:aS);refine Tr.mono (mO (kk:=k+1) (V:= .sl k 0 0) (RH:=RH) oO (by simp[bd,MG,iL,kC]) (by rw[eRH];exact jS (by simp only[kC,dTt];omega) rfl) ?_) (λ _ _ _ h=>⟨h.1,h.2.1,h.2.2.trans eRH⟩);refine bR bQO rfl 8 rfl bB ?_;have kp:=kN k [0,2,4];refine fW ?_;refine mS [.raw (aA 4) ⟨aD (bC aF),k,[],[]⟩] ?_;refine iA ?_ ?_;.exact aGG rfl kRf rfl rfl
 refine fC λ ht=>?_;refine gW (a7P 0 8 (λ _=>[]) (by simp-dsimp-implicitDefEqProofs (disch:=omega)only[go_sem,iO,↓reduceIte];rfl)) ?_;refine fM ?_;refine fW ?_;refine kX ?_;refine⟨rfl,?_⟩;rw[eRH];exact mX iV
attribute [local irreducible] jM del
def cqO(b ns n:Nat)(sF:Nat->Nat->List AVal)(i:Nat):List (List AVal):=(aR ns).map λ j=>if j<i then [.sl (b+j) 0 n]else [.rd 3 n (sF j)]
section
variable{b ns n i:Nat}{sF:Nat->Nat->List AVal}
def OK:(cqO b ns n sF i).length=ns:=by simp[cqO]
def RL:cqO b ns n sF 0=(aR ns).map λ j=>[.rd 3 n (sF j)]:=fR λ j hj=>iN oO
def ZH(h:i<ns):(cqO b ns n sF i)[i]? =aA [.rd 3 n (sF i)]:=by simp[cqO,h]
def RM:cqO b ns n sF ns=uD b ns n ns:=fR λ j hj=>by rw[iP (dX.1 hj),iP (dX.1 hj)]
def aIN{x:Nat}(h:b+ns<=x)(hi:i<ns):((cqO b ns n sF i).set i [.sl x 0 n]).map (λ row=>row.map (BS x (b+i)))=cqO b ns n sF (i+1):=fF λ j=>by
 rw[aV,dS];by_cases e:i=j;.subst e;rw[iP rfl,iP (by rw[OK];exact hi)];simp only[cqO,aV,nD hi,bO,bN,bV,BS,sw];rw[iP trivial,iP oO]
 rw[iN e];by_cases hj:j<ns
 .simp only[cqO,aV,nD hj,bO];by_cases h1:j<i;.rw[iP h1,iP oO];simp only[bN,bV,BS,sw];rw[iN oO,iN oO]
  rw[iN h1,iN oO];rfl
 rw[bE (by rw[OK];omega),bE (by rw[OK];omega)];rfl
def a5Y{kk:Nat}(h:b+ns<=kk):((cqO b ns n sF i).all λ row=>row.all (iL (kC kk)))=aB:=by
 rw[aY];intro row hr;simp only[cqO,dM,dX]at hr;obtain⟨g,hg,rfl⟩:=hr;split;.simp[iL,kC];omega
 rfl
end
attribute [go_sem] OK a5Y
def ET(g:Nat->Nat):Kp [0,1,2,3,28,29,30] g:=oR
def aYU(cpus credit:Int)(ng n ns:Nat)(gF kF uF:Nat->List AVal)(sF:Nat->Nat->List AVal)(nt:Nat)(tF:Nat->List AVal)(h7:0<nt)(h8:nt<=1000)(htone:(((aR nt).map tF).all λ row=>row.all AM.one)=aB)(hgone:(((aR ng).map gF).all λ row=>row.all AM.one)=aB)(hkone:(((aR n).map kF).all λ row=>row.all AM.one)=aB)(huone:(((aR n).map uF).all λ row=>row.all AM.one)=aB)(hsone:∀g,(((aR n).map (sF g)).all λ row=>row.all AM.one)=aB)
 (h1:0<ng) (h2:ng<=1000) (h3:0<n) (h4:n<=1000) (h5:0<ns) (h6:ns<=1000) (k:Nat):
 Tr aG Γ 61 k [.agg [cpus,aD (aE aI credit),.rd 2 ng gF,.rd 1 n kF,.rd 1 n uF,.rd 8 nt tF,.rd 1 ns (λ g=>[.rd 3 n (sF g)])]] []
   (λ k1 r1 H1=>k1=k+(20+ns)/\r1= .agg [cpus,aD (aE aI credit),.sl (k+13) 0 ng,.sl (k+14) 0 n,.sl (k+15) 0 n,.sl (k+16) 0 nt,.sl (k+17) 0 ns]∧
     H1=(k+13,⟨2,aB,(aR ng).map gF⟩)::(k+14,⟨1,aB,(aR n).map kF⟩)::(k+15,⟨1,aB,(aR n).map uF⟩)::(k+16,⟨8,aB,(aR nt).map tF⟩)::(k+17,⟨1,aF,uD (k+18) ns n ns⟩)::nA (k+18) 3 ns (λ g=>(aR n).map (sF g))):=by
 obtain⟨kx,hkx⟩:=xE (k+(20+ns));rw[<-hkx];have cG:=a3I ng gF (k+2) h1 oO hgone (Γ:=Γ);have cK:=aBV n kF (k+4) h3 oO hkone (Γ:=Γ);have cU:=aBV n uF (k+6) h3 oO huone (Γ:=Γ);have cT:=bLP nt tF (k+8) h7 oO htone (Γ:=Γ);obtain⟨oF,eoF⟩:∃o:Nat->List AVal,o=λ g=>[.rd 3 n (sF g)]:=⟨_,rfl⟩;have hoone:(((aR ns).map oF).all λ row=>row.all AM.one)=aB:=by rw[eoF];exact jW _ _ λ _=>rfl
 have cO:=bAP ns oF (k+10) h5 oO hoone (Γ:=Γ);obtain⟨GR,eG⟩:=xE ((aR ng).map gF);obtain⟨KR,eK⟩:=xE ((aR n).map kF);obtain⟨UR,eU⟩:=xE ((aR n).map uF);obtain⟨TR,eT⟩:=xE ((aR nt).map tF);obtain⟨OR,eO⟩:=xE ((aR ns).map oF);have hO0:OR=cqO (k+18) ns n sF 0:=by rw[eO,eoF,RL]
 obtain⟨SR,eS⟩:∃SR:Nat->List (List AVal),SR=λ g=>(aR n).map (sF g):=⟨_,rfl⟩;rw[<-eG]at cG⊢
 rw[<-eK]at cK;rw[<-eU]at cU;rw[<-eK,<-eU,<-eS];rw[<-eT]at cT⊢
 rw[<-eO]at cO;rw[<-eoF];obtain⟨RH,eRH⟩:=xE ((k+13,⟨2,aB,GR⟩)::(k+14,⟨1,aB,KR⟩)::(k+15,⟨1,aB,UR⟩)::(k+16,⟨8,aB,TR⟩)::(k+17,⟨1,aF,uD (k+18) ns n ns⟩)::nA (k+18) 3 ns SR:aS);obtain⟨RV,eRV⟩:=xE (.agg [.lit (.int .i64 cpus),.lit (.int .u64 credit),.sl (k+13) 0 ng,.sl (k+14) 0 n,.sl (k+15) 0 n,.sl (k+16) 0 nt,.sl (k+17) 0 ns]:AVal);refine Tr.mono (mO (kk:=kx) (V:=RV) (RH:=RH) oO ?_ ?_ ?_) (λ _ _ _ h=>⟨h.1,h.2.1.trans eRV,h.2.2.trans eRH⟩);.rw[eRV];simp-dsimp-implicitDefEqProofs (disch:=omega)only[go_sem,iO,TC,ltB_iff,aQ,↓reduceIte];try(simp only[aO,dTt];omega)
 .have hf:=BD (s:=3) (R:=SR) (oO:k+18+ns<=kx);have ho:((uD (k+18) ns n ns).all λ row=>row.all (iL (kC kx)))=aB:=IX oO;rw[eRH];simp only[oU]at hf;simp only[oU,gI,hf,ho,kC,BO,BP,iE,aO,dTt];repeat'(first|(refine And.intro ?_ ?_)|omega|trivial)
 refine bR Tryz.func61 rfl 44 rfl bB ?_;have kp:=kN k [0,1,2,3,28,29,30];refine fW ?_;refine GJ [.gen (.sl (k+3) 0 ng) (k+4) [] [(k+3,⟨2,aB,GR⟩)],.gen (.sl (k+5) 0 n) (k+6) [] [(k+5,⟨1,aB,KR⟩)],.gen (.sl (k+7) 0 n) (k+8) [] [(k+7,⟨1,aB,UR⟩)],.gen (.sl (k+9) 0 nt) (k+10) [] [(k+9,⟨8,aB,TR⟩)],.gen (.sl (k+11) 0 ns) (k+12) [] [(k+11,⟨1,aB,OR⟩)]] ?_;refine fW ?_;refine cD (X:=Nat) rfl [0,1,2,3,28,29,30] kx (λ i=>[(29,i)]) (λ i=>(k,⟨7,aF,[[cpus,aD (aE aI credit),.sl (k+13) 0 ng,.sl (k+14) 0 n,.sl (k+15) 0 n,.sl (k+16) 0 nt,.sl (k+17) 0 ns]]⟩)::(k+1,⟨7,aB,[[(0:Int),aD (aE aI 0),(),(),(),(),()]]⟩)::(k+13,⟨2,aB,GR⟩)::(k+14,⟨1,aB,KR⟩)::(k+15,⟨1,aB,UR⟩)::(k+16,⟨8,aB,TR⟩)::(k+17,⟨1,decide (i=0),cqO (k+18) ns n sF i⟩)::nA (k+18) 3 i SR) (λ i=>i<=ns) (λ i=>ns-i) 0 ?_ (bF _) ?_;.rw[<-hO0];refine Mv.trans (OQ (k2:=kx) oO) (Mv.trans (Mv.swap (k+3) (k+13) ⟨oO,oO⟩ ⟨oO,oO⟩) (Mv.trans (Mv.swap (k+5) (k+14) ⟨oO,oO⟩ ⟨oO,oO⟩) (Mv.trans (Mv.swap (k+7) (k+15) ⟨oO,oO⟩ ⟨oO,oO⟩) (Mv.trans (Mv.swap (k+9) (k+16) ⟨oO,oO⟩ ⟨oO,oO⟩) (Mv.trans (Mv.swap (k+11) (k+17) ⟨oO,oO⟩ ⟨oO,oO⟩) (fM ?_))))));exact iC
 clear hO0;intro i hi;refine fM ?_;by_cases hi2:i<ns;.have cS:=a3H n (sF i) kx h3 oO (hsone i) (Γ:=Γ);rw[show(aR n).map (sF i)=SR i by rw[eS]]at cS;have hcg:=ZH (b:=k+18) (ns:=ns) (n:=n) (i:=i) (sF:=sF) hi2;have kp:=ET (λ i=>if k+18<=i then i-kx+19 else i-k);have uU:=hcg;refine fC λ ht=>?_;refine GJ [.gen (.sl (kx+1) 0 n) (kx+2) [] [(kx+1,⟨3,aB,SR i⟩)]] ?_;refine fW ?_;refine⟨i+1,oO,oO,?_⟩;have hsw:=aIN (b:=k+18) (ns:=ns) (n:=n) (i:=i) (sF:=sF) (x:=kx+1) oO hi2;rw[gM k 18 i]at hsw;refine Mv.trans (Mv.swap (kx+1) (k+(18+i)) ⟨oO,oO⟩ ⟨oO,oO⟩) ?_;have uU:=zA hsw @tN;refine fM ?_;exact iC
 have hil:i=ns:=oO;have hla:=RM (b:=k+18) (ns:=ns) (n:=n) (sF:=sF);subst hil;rw[hla];have hdi:decide (i=0)=aF:=decide_eq_false oO;rw[hdi];have kp:=ET (λ i=>if k+18<=i then i-kx+19 else i-k);refine fC λ ht=>?_;have uU:=Go.AM.uU;refine kX ?_;refine⟨?_,?_⟩;.rw[eRV]
 rw[eRH];exact mX iV
def aYV(cpus credit:Int)(ng n ns:Nat)(gF kF uF:Nat->List AVal)(sF:Nat->Nat->List AVal)(cap:Nat)(hgone:(((aR ng).map gF).all λ row=>row.all AM.one)=aB)(hkone:(((aR n).map kF).all λ row=>row.all AM.one)=aB)(huone:(((aR n).map uF).all λ row=>row.all AM.one)=aB)(hsone:∀g,(((aR n).map (sF g)).all λ row=>row.all AM.one)=aB)
 (h1:0<ng) (h2:ng<=1000) (h3:0<n) (h4:n<=1000) (h5:0<ns) (h6:ns<=1000) (k:Nat):
 Tr aG Γ 61 k [.agg [cpus,aD (aE aI credit),.rd 2 ng gF,.rd 1 n kF,.rd 1 n uF,aD (aP aC 0 cap),.rd 1 ns (λ g=>[.rd 3 n (sF g)])]] []
   (λ k1 r1 H1=>k1=k+(20+ns)/\r1= .agg [cpus,aD (aE aI credit),.sl (k+13) 0 ng,.sl (k+14) 0 n,.sl (k+15) 0 n,.sl (k+16) 0 0,.sl (k+17) 0 ns]∧
     H1=(k+13,⟨2,aB,(aR ng).map gF⟩)::(k+14,⟨1,aB,(aR n).map kF⟩)::(k+15,⟨1,aB,(aR n).map uF⟩)::(k+16,⟨8,aB,[]⟩)::(k+17,⟨1,aF,uD (k+18) ns n ns⟩)::nA (k+18) 3 ns (λ g=>(aR n).map (sF g))):=by
 obtain⟨kx,hkx⟩:=xE (k+(20+ns));rw[<-hkx];have cG:=a3I ng gF (k+2) h1 oO hgone (Γ:=Γ);have cK:=aBV n kF (k+4) h3 oO hkone (Γ:=Γ);have cU:=aBV n uF (k+6) h3 oO huone (Γ:=Γ);have cT:=bFK cap (Γ:=Γ);obtain⟨oF,eoF⟩:∃o:Nat->List AVal,o=λ g=>[.rd 3 n (sF g)]:=⟨_,rfl⟩;have hoone:(((aR ns).map oF).all λ row=>row.all AM.one)=aB:=by rw[eoF];exact jW _ _ λ _=>rfl
 have cO:=bAP ns oF (k+8) h5 oO hoone (Γ:=Γ);obtain⟨GR,eG⟩:=xE ((aR ng).map gF);obtain⟨KR,eK⟩:=xE ((aR n).map kF);obtain⟨UR,eU⟩:=xE ((aR n).map uF);skip
 obtain⟨OR,eO⟩:=xE ((aR ns).map oF);have hO0:OR=cqO (k+18) ns n sF 0:=by rw[eO,eoF,RL]
 obtain⟨SR,eS⟩:∃SR:Nat->List (List AVal),SR=λ g=>(aR n).map (sF g):=⟨_,rfl⟩;rw[<-eG]at cG⊢
 rw[<-eK]at cK;rw[<-eU]at cU;rw[<-eK,<-eU,<-eS];skip
 rw[<-eO]at cO;rw[<-eoF];obtain⟨RH,eRH⟩:=xE ((k+13,⟨2,aB,GR⟩)::(k+14,⟨1,aB,KR⟩)::(k+15,⟨1,aB,UR⟩)::(k+16,⟨8,aB,[]⟩)::(k+17,⟨1,aF,uD (k+18) ns n ns⟩)::nA (k+18) 3 ns SR:aS);obtain⟨RV,eRV⟩:=xE (.agg [.lit (.int .i64 cpus),.lit (.int .u64 credit),.sl (k+13) 0 ng,.sl (k+14) 0 n,.sl (k+15) 0 n,.sl (k+16) 0 0,.sl (k+17) 0 ns]:AVal);refine Tr.mono (mO (kk:=kx) (V:=RV) (RH:=RH) oO ?_ ?_ ?_) (λ _ _ _ h=>⟨h.1,h.2.1.trans eRV,h.2.2.trans eRH⟩);.rw[eRV];simp-dsimp-implicitDefEqProofs (disch:=omega)only[go_sem,iO,TC,ltB_iff,aQ,↓reduceIte];try(simp only[aO,dTt];omega)
 .have hf:=BD (s:=3) (R:=SR) (oO:k+18+ns<=kx);have ho:((uD (k+18) ns n ns).all λ row=>row.all (iL (kC kx)))=aB:=IX oO;rw[eRH];simp only[oU]at hf;simp only[oU,gI,hf,ho,kC,BO,BP,iE,aO,dTt];repeat'(first|(refine And.intro ?_ ?_)|omega|trivial)
 refine bR Tryz.func61 rfl 44 rfl bB ?_;have kp:=kN k [0,1,2,3,28,29,30];refine fW ?_;refine GJ [.gen (.sl (k+3) 0 ng) (k+4) [] [(k+3,⟨2,aB,GR⟩)],.gen (.sl (k+5) 0 n) (k+6) [] [(k+5,⟨1,aB,KR⟩)],.gen (.sl (k+7) 0 n) (k+8) [] [(k+7,⟨1,aB,UR⟩)],.ret (),.gen (.sl (k+9) 0 ns) (k+10) [] [(k+9,⟨1,aB,OR⟩)]] ?_;refine fW ?_;refine cD (X:=Nat) rfl [0,1,2,3,28,29,30] kx (λ i=>[(29,i)]) (λ i=>(k,⟨7,aF,[[cpus,aD (aE aI credit),.sl (k+13) 0 ng,.sl (k+14) 0 n,.sl (k+15) 0 n,(),.sl (k+17) 0 ns]]⟩)::(k+1,⟨7,aB,[[(0:Int),aD (aE aI 0),(),(),(),(),()]]⟩)::(k+13,⟨2,aB,GR⟩)::(k+14,⟨1,aB,KR⟩)::(k+15,⟨1,aB,UR⟩)::(k+17,⟨1,decide (i=0),cqO (k+18) ns n sF i⟩)::nA (k+18) 3 i SR) (λ i=>i<=ns) (λ i=>ns-i) 0 ?_ (bF _) ?_;.rw[<-hO0];refine Mv.trans (OQ (k2:=kx) oO) (Mv.trans (Mv.swap (k+3) (k+13) ⟨oO,oO⟩ ⟨oO,oO⟩) (Mv.trans (Mv.swap (k+5) (k+14) ⟨oO,oO⟩ ⟨oO,oO⟩) (Mv.trans (Mv.swap (k+7) (k+15) ⟨oO,oO⟩ ⟨oO,oO⟩) (Mv.trans (Mv.swap (k+9) (k+17) ⟨oO,oO⟩ ⟨oO,oO⟩) (fM ?_)))));exact iC
 clear hO0;intro i hi;refine fM ?_;by_cases hi2:i<ns;.have cS:=a3H n (sF i) kx h3 oO (hsone i) (Γ:=Γ);rw[show(aR n).map (sF i)=SR i by rw[eS]]at cS;have hcg:=ZH (b:=k+18) (ns:=ns) (n:=n) (i:=i) (sF:=sF) hi2;have kp:=ET (λ i=>if k+18<=i then i-kx+19 else i-k);have uU:=hcg;refine fC λ ht=>?_;refine GJ [.gen (.sl (kx+1) 0 n) (kx+2) [] [(kx+1,⟨3,aB,SR i⟩)]] ?_;refine fW ?_;refine⟨i+1,oO,oO,?_⟩;have hsw:=aIN (b:=k+18) (ns:=ns) (n:=n) (i:=i) (sF:=sF) (x:=kx+1) oO hi2;rw[gM k 18 i]at hsw;refine Mv.trans (Mv.swap (kx+1) (k+(18+i)) ⟨oO,oO⟩ ⟨oO,oO⟩) ?_;have uU:=zA hsw @tN;refine fM ?_;exact iC
 have hil:i=ns:=oO;have hla:=RM (b:=k+18) (ns:=ns) (n:=n) (sF:=sF);subst hil;rw[hla];have hdi:decide (i=0)=aF:=decide_eq_false oO;rw[hdi];have kp:=ET (λ i=>if k+18<=i then i-kx+19 else i-k);refine fC λ ht=>?_;refine gW (WQ k 8 (B:=⟨7,aF,[[cpus,aD (aE aI credit),.sl (k+13) 0 ng,.sl (k+14) 0 n,.sl (k+15) 0 n,(),.sl (k+17) 0 i]]⟩) (by simp(disch:=omega)only[AM.look,iO,↓reduceIte]) oO) ?_;refine fM ?_;refine gW (aFA (k+1) 5 kx 0 0 (B:=⟨7,aF,[[cpus,aD (aE aI credit),.sl (k+13) 0 ng,.sl (k+14) 0 n,.sl (k+15) 0 n,(),.sl (k+17) 0 i]]⟩) (T:=⟨8,aB,[]⟩) (by simp(disch:=omega)only[AM.look,iO,↓reduceIte]) (by simp(disch:=omega)only[AM.look,iO,↓reduceIte]) oO rfl rfl rfl) ?_;refine fM ?_;have hcs:(uD (k+18) i n i).map (λ row=>row.map (BS kx (k+16)))=uD (k+18) i n i:=by rw[tO,kT];refine fR λ g hg=>?_;have:=dX.1 hg;simp only[Function.comp,bN,bV,BS,sw];rw[iN oO,iN oO]
 refine gW (Mv.swap kx (k+16) ⟨oO,oO⟩ ⟨oO,oO⟩) ?_;have uU:=hcs;refine fM ?_;have uU:=hcs;refine kX ?_;refine⟨?_,?_⟩;.rw[eRV]
 rw[eRH];exact mX iV
def aYW(cpus credit:Int)(ng n ns:Nat)(gF kF uF:Nat->List AVal)(sF:Nat->Nat->List AVal)(p:Addr)(cap:Nat)(hgone:(((aR ng).map gF).all λ row=>row.all AM.one)=aB)(hkone:(((aR n).map kF).all λ row=>row.all AM.one)=aB)(huone:(((aR n).map uF).all λ row=>row.all AM.one)=aB)(hsone:∀g,(((aR n).map (sF g)).all λ row=>row.all AM.one)=aB)
 (h1:0<ng) (h2:ng<=1000) (h3:0<n) (h4:n<=1000) (h5:0<ns) (h6:ns<=1000) (k:Nat):
 Tr aG Γ 61 k [.agg [cpus,aD (aE aI credit),.rd 2 ng gF,.rd 1 n kF,.rd 1 n uF,aD (aP (aA p) 0 cap),.rd 1 ns (λ g=>[.rd 3 n (sF g)])]] []
   (λ k1 r1 H1=>k1=k+(20+ns)/\r1= .agg [cpus,aD (aE aI credit),.sl (k+13) 0 ng,.sl (k+14) 0 n,.sl (k+15) 0 n,.sl (k+16) 0 0,.sl (k+17) 0 ns]∧
     H1=(k+13,⟨2,aB,(aR ng).map gF⟩)::(k+14,⟨1,aB,(aR n).map kF⟩)::(k+15,⟨1,aB,(aR n).map uF⟩)::(k+16,⟨8,aB,[]⟩)::(k+17,⟨1,aF,uD (k+18) ns n ns⟩)::nA (k+18) 3 ns (λ g=>(aR n).map (sF g))):=by
 obtain⟨kx,hkx⟩:=xE (k+(20+ns));rw[<-hkx];have cG:=a3I ng gF (k+2) h1 oO hgone (Γ:=Γ);have cK:=aBV n kF (k+4) h3 oO hkone (Γ:=Γ);have cU:=aBV n uF (k+6) h3 oO huone (Γ:=Γ);have cT:=bFL p cap (k+8) (Γ:=Γ);obtain⟨oF,eoF⟩:∃o:Nat->List AVal,o=λ g=>[.rd 3 n (sF g)]:=⟨_,rfl⟩;have hoone:(((aR ns).map oF).all λ row=>row.all AM.one)=aB:=by rw[eoF];exact jW _ _ λ _=>rfl
 have cO:=bAP ns oF (k+9) h5 oO hoone (Γ:=Γ);obtain⟨GR,eG⟩:=xE ((aR ng).map gF);obtain⟨KR,eK⟩:=xE ((aR n).map kF);obtain⟨UR,eU⟩:=xE ((aR n).map uF);skip
 obtain⟨OR,eO⟩:=xE ((aR ns).map oF);have hO0:OR=cqO (k+18) ns n sF 0:=by rw[eO,eoF,RL]
 obtain⟨SR,eS⟩:∃SR:Nat->List (List AVal),SR=λ g=>(aR n).map (sF g):=⟨_,rfl⟩;rw[<-eG]at cG⊢
 rw[<-eK]at cK;rw[<-eU]at cU;rw[<-eK,<-eU,<-eS];skip
 rw[<-eO]at cO;rw[<-eoF];obtain⟨RH,eRH⟩:=xE ((k+13,⟨2,aB,GR⟩)::(k+14,⟨1,aB,KR⟩)::(k+15,⟨1,aB,UR⟩)::(k+16,⟨8,aB,[]⟩)::(k+17,⟨1,aF,uD (k+18) ns n ns⟩)::nA (k+18) 3 ns SR:aS);obtain⟨RV,eRV⟩:=xE (.agg [.lit (.int .i64 cpus),.lit (.int .u64 credit),.sl (k+13) 0 ng,.sl (k+14) 0 n,.sl (k+15) 0 n,.sl (k+16) 0 0,.sl (k+17) 0 ns]:AVal);refine Tr.mono (mO (kk:=kx) (V:=RV) (RH:=RH) oO ?_ ?_ ?_) (λ _ _ _ h=>⟨h.1,h.2.1.trans eRV,h.2.2.trans eRH⟩);.rw[eRV];simp-dsimp-implicitDefEqProofs (disch:=omega)only[go_sem,iO,TC,ltB_iff,aQ,↓reduceIte];try(simp only[aO,dTt];omega)
 .have hf:=BD (s:=3) (R:=SR) (oO:k+18+ns<=kx);have ho:((uD (k+18) ns n ns).all λ row=>row.all (iL (kC kx)))=aB:=IX oO;rw[eRH];simp only[oU]at hf;simp only[oU,gI,hf,ho,kC,BO,BP,iE,aO,dTt];repeat'(first|(refine And.intro ?_ ?_)|omega|trivial)
 refine bR Tryz.func61 rfl 44 rfl bB ?_;have kp:=kN k [0,1,2,3,28,29,30];refine fW ?_;refine GJ [.gen (.sl (k+3) 0 ng) (k+4) [] [(k+3,⟨2,aB,GR⟩)],.gen (.sl (k+5) 0 n) (k+6) [] [(k+5,⟨1,aB,KR⟩)],.gen (.sl (k+7) 0 n) (k+8) [] [(k+7,⟨1,aB,UR⟩)],.gen (.sl (k+8) 0 0) (k+9) [] [(k+8,⟨8,aB,[]⟩)],.gen (.sl (k+10) 0 ns) (k+11) [] [(k+10,⟨1,aB,OR⟩)]] ?_;refine fW ?_;refine cD (X:=Nat) rfl [0,1,2,3,28,29,30] kx (λ i=>[(29,i)]) (λ i=>(k,⟨7,aF,[[cpus,aD (aE aI credit),.sl (k+13) 0 ng,.sl (k+14) 0 n,.sl (k+15) 0 n,.sl (k+16) 0 0,.sl (k+17) 0 ns]]⟩)::(k+1,⟨7,aB,[[(0:Int),aD (aE aI 0),(),(),(),(),()]]⟩)::(k+13,⟨2,aB,GR⟩)::(k+14,⟨1,aB,KR⟩)::(k+15,⟨1,aB,UR⟩)::(k+16,⟨8,aB,[]⟩)::(k+17,⟨1,decide (i=0),cqO (k+18) ns n sF i⟩)::nA (k+18) 3 i SR) (λ i=>i<=ns) (λ i=>ns-i) 0 ?_ (bF _) ?_;.rw[<-hO0];refine Mv.trans (OQ (k2:=kx) oO) (Mv.trans (Mv.swap (k+3) (k+13) ⟨oO,oO⟩ ⟨oO,oO⟩) (Mv.trans (Mv.swap (k+5) (k+14) ⟨oO,oO⟩ ⟨oO,oO⟩) (Mv.trans (Mv.swap (k+7) (k+15) ⟨oO,oO⟩ ⟨oO,oO⟩) (Mv.trans (Mv.swap (k+8) (k+16) ⟨oO,oO⟩ ⟨oO,oO⟩) (Mv.trans (Mv.swap (k+10) (k+17) ⟨oO,oO⟩ ⟨oO,oO⟩) (fM ?_))))));exact iC
 clear hO0;intro i hi;refine fM ?_;by_cases hi2:i<ns;.have cS:=a3H n (sF i) kx h3 oO (hsone i) (Γ:=Γ);rw[show(aR n).map (sF i)=SR i by rw[eS]]at cS;have hcg:=ZH (b:=k+18) (ns:=ns) (n:=n) (i:=i) (sF:=sF) hi2;have kp:=ET (λ i=>if k+18<=i then i-kx+19 else i-k);have uU:=hcg;refine fC λ ht=>?_;refine GJ [.gen (.sl (kx+1) 0 n) (kx+2) [] [(kx+1,⟨3,aB,SR i⟩)]] ?_;refine fW ?_;refine⟨i+1,oO,oO,?_⟩;have hsw:=aIN (b:=k+18) (ns:=ns) (n:=n) (i:=i) (sF:=sF) (x:=kx+1) oO hi2;rw[gM k 18 i]at hsw;refine Mv.trans (Mv.swap (kx+1) (k+(18+i)) ⟨oO,oO⟩ ⟨oO,oO⟩) ?_;have uU:=zA hsw @tN;refine fM ?_;exact iC
 have hil:i=ns:=oO;have hla:=RM (b:=k+18) (ns:=ns) (n:=n) (sF:=sF);subst hil;rw[hla];have hdi:decide (i=0)=aF:=decide_eq_false oO;rw[hdi];have kp:=ET (λ i=>if k+18<=i then i-kx+19 else i-k);refine fC λ ht=>?_;have uU:=Go.AM.uU;refine kX ?_;refine⟨?_,?_⟩;.rw[eRV]
 rw[eRH];exact mX iV
def tD(h:i<L.length):(L.map tR)[i]? =aA (tR (L.getD i iM)):=by simp[h,oZ]
def HE:((L.map tR).set i (tR (L.getD j iM))).set j (tR (L.getD i iM))=(swp iM L i j).map tR:=by simp[swp,jO]
def NG{p q:Nat}{row:List AVal}(h:R[q]? =aA row):(R.set p row)[q]? =aA row:=by
 rw[dS];split;.rename_i e;subst e;rw[iP (aL.1 h).1]
 exact h
def aNI(x y:Tk):AM.Pure aG Γ 69 [.agg (tR x),.agg (tR y)] (aH.wrap (x.id-y.id):Int):=by unfold tR;refine cA Tryz.func69 rfl 10 rfl bB rfl λ k=>?_;have kp:=kN k [0,1,2,3,4];refine gO ?_;refine cB rfl ⟨_,rfl,bG ?_⟩;rfl
def WY(l:List Tk)(a b n:Nat)(h1:a+n<=l.length)(h2:b+n<=l.length)(hl:l.length<=100000)(cmp:AVal)(k id:Nat)(hid:id<k):
 AM.Tr aG Γ 285 k [.sl id 0 l.length,a,b,n,cmp] [(id,⟨8,aB,l.map tR⟩)]
  (λ k1 r1 H1=>k1=k/\r1= .tup []/\H1=[(id,⟨8,aB,(swR iM l a b n).map tR⟩)]):=by
 have i0:¬id=k:=oO;have i4:∀q,id<k+q:=λ q=>oO;have i1:∀q,¬id=k+q:=λ q=>oO;have i2:¬k=id:=oO;have i3:∀q,¬k+q=id:=λ q=>oO;obtain⟨N,eN⟩:=xE l.length;rw[<-eN];refine bR Tryz.func285 rfl 38 rfl bB ?_;have kp:=kN k [0,1,2,3,10,13];have uU:=rY hid i0 i1 i2 i3 i4;refine gO ?_;refine cD (X:=Nat) rfl [0,1,2,3,10,13] k (λ i=>[(10,i)]) (λ i=>[(id,⟨8,aB,(swR iM l a b i).map tR⟩)]) (λ i=>i<=n) (λ i=>n-i) 0 ?_ (bF _) ?_;.rw[show swR iM l a b 0=l from rfl];refine cZ ?_;exact iC
 intro i hi;obtain⟨L,eL⟩:=xE (swR iM l a b i);have hL:L.length=N:=by rw[eL,pX,eN]
 have hnx:swR iM l a b (i+1)=swp iM L (a+i) (b+i):=by rw[swR,eL]
 rw[<-eL];by_cases hlt:i<n
 .have g1:=tD (L:=L) (i:=a+i) oO;have g2:=tD (L:=L) (i:=b+i) oO;have hsw:=HE (L:=L) (i:=a+i) (j:=b+i);have hRl:(L.map tR).length=N:=by rw[dG,hL]
  obtain⟨R,eR⟩:=xE (L.map tR);obtain⟨x,ex⟩:=xE (L.getD (a+i) iM);obtain⟨y,ey⟩:=xE (L.getD (b+i) iM);rw[<-eR,<-ex]at g1;rw[<-eR,<-ey]at g2;rw[<-eR,<-ex,<-ey]at hsw;rw[<-eR]at hRl⊢
  simp only[tR]at g1 g2 hsw;have w1:aH.wrap ((a:Int)+(i:Int))=((a+i:Nat):Int):=by rw[fD oO oO];omega
  have w2:aH.wrap ((b:Int)+(i:Int))=((b+i:Nat):Int):=by rw[fD oO oO];omega
  have g3:=NG (p:=a+i) g2;have b1:a+i<N:=oO;have b2:b+i<N:=oO;have uU:=fB hid i0 i1 i2 i3 i4 g1 g2 (rY g3 w1 w2 b1 b2 hRl);refine cZ ?_;have kp:Kp [0,1,2,3,10,13] (λ i=>if k<=i then i-k+1 else 0):=oR;refine gJ λ ht=>?_;refine⟨i+1,oO,oO,?_⟩;rw[hnx,<-hsw,(oO:((i+1:Nat):Int)=(i:Int)+1)];exact iC
 have hin:i=n:=oO;subst hin;refine cZ ?_;have kp:Kp [0,1,2,3,10,13] (λ i=>if k<=i then i-k+1 else 0):=oR;refine gJ λ ht=>?_;refine⟨_,rfl,rfl,?_⟩;rw[eL]
def aWZ(l:List Tk)(hl:l.length<=100000)(d:DE)(hd:d.size<=100000)(k id:Nat)(hid:id<k):
 AM.Tr aG Γ 125 k [.sl id 0 l.length,.fn 64 [.rp d.cells]] [(id,⟨8,aB,l.map tR⟩)]
  (λ k1 r1 H1=>k1=k/\r1=aD (aE aH (idx (λ i=>uN d (l.getD i iM)) l.length))/\H1=[(id,⟨8,aB,l.map tR⟩)]):=by
 have i0:¬id=k:=oO;have i4:∀q,id<k+q:=λ q=>oO;have i1:∀q,¬id=k+q:=λ q=>oO;have i2:¬k=id:=oO;have i3:∀q,¬k+q=id:=λ q=>oO;obtain⟨N,eN⟩:=xE l.length;rw[<-eN];obtain⟨z,ez⟩:=xE (idx (λ i=>uN d (l.getD i iM)) N);rw[<-ez];obtain⟨R,eR⟩:=xE (l.map tR);have hRl:R.length=N:=by rw[eR,dG,eN]
 rw[<-eR];obtain⟨dc,edc⟩:=xE d.cells;rw[<-edc];refine bR Tryz.func125 rfl 19 rfl bB ?_;have kp:Kp [0,1,4,5,7,8,9,16] (λ i=>if k<=i then i-k+1 else 0):=oR;have uU:=rY hid i0 i1 i2 i3 i4;refine gO ?_;refine cD (X:=Nat) rfl [0,1,4,5,7,8,9,16] k (λ i=>[(8,i)]) (λ i=>[(id,⟨8,aB,R⟩)]) (λ i=>i<=N/\∀j,j<i->uN d (l.getD j iM)=aF) (λ i=>N-i) 0 ?_ ⟨bF _,λ j hj=>absurd hj (bU _)⟩ ?_;.refine cZ ?_;exact iC
 rintro i ⟨hi,hall⟩;by_cases hlt:i<N
 .obtain⟨t,et⟩:=xE (l.getD i iM);have hc:=a8Y (Γ:=Γ) d hd t;obtain⟨y,ey⟩:=xE (uN d t);rw[<-ey,<-edc]at hc;have g1:=tD (L:=l) (i:=i) oO;rw[<-eR,<-et]at g1;simp only[tR]at hc g1;have uU:=fB hid i0 i1 i2 i3 i4 hlt g1 hRl;refine cZ ?_;refine gJ λ ht=>?_;refine sK [.ret y] ?_
  cases y with
  |true=>
   have hz:z=(i:Int):=by rw[ez,idx,AT hall (by rw[<-et];exact ey.symm) hlt]
   refine gJ λ ht=>?_;have uU:=fB hid i0 i1 i2 i3 i4 hlt g1 hRl;refine kX ?_;rw[hz]
  |false=>
   refine gJ λ ht=>?_;refine⟨i+1,⟨oO,λ j hj=>?_⟩,oO,?_⟩
   .by_cases hj2:j=i;.subst hj2;rw[<-et];exact ey.symm
    exact hall j oO
   rw[(oO:((i+1:Nat):Int)=(i:Int)+1)];exact iC
 have hin:i=N:=oO;have hz:z= -1:=by rw[ez,idx,xZ (by rw[<-hin];exact hall)]
 have hlt':¬(i:Int)<(N:Int):=oO;have uU:=yI hid i0 i1 i2 i3 i4 hlt';refine cZ ?_;refine gJ λ ht=>?_;have uU:=yI hid i0 i1 i2 i3 i4 hlt';refine kX ?_;rw[hz]
def aCP{f:Nat->Bool}:∀ {N:Nat},¬(∀i,i<N->f i=aF)->∃i,i<N/\f i=aB/\∀j,j<i->f j=aF
 |0,h=>absurd (λ i hi=>absurd hi (bU _)) h
 |N+1,h=>by
  by_cases h1:∀i,i<N->f i=aF
  .refine⟨N,cY _,?_,h1⟩
   cases h2:f N with
   |true=>rfl
   |false=>
    exact absurd (λ i hi=>by by_cases e:i=N;· subst e;exact h2
                             · exact h1 i oO) h
  obtain⟨i,h2,h3,h4⟩:=aCP h1;exact⟨i,oO,h3,h4⟩
def YG(d:DE)(l:List Tk)(j:Nat):List Tk:=(l.take j).filter λ t=> !uN d t
def a4N(hj:j<l.length)(h:uN d (l.getD j iM)=aF):YG d l (j+1)=YG d l j++[l.getD j iM]:=by unfold YG;rw[JV (z:=iM) hj,OT,show List.filter (λ t=> !uN d t) [l.getD j iM]=[l.getD j iM]by rw[bVJ,h];rfl]
def aWQ(hj:j<l.length)(h:uN d (l.getD j iM)=aB):YG d l (j+1)=YG d l j:=by unfold YG;rw[JV (z:=iM) hj,OT,show List.filter (λ t=> !uN d t) [l.getD j iM]=[]by rw[bVJ,h];rfl,cX]
def aMF(hj:j<=l.length)(h:∀i,i<j->uN d (l.getD i iM)=aF):YG d l j=l.take j:=by unfold YG;refine xK.2 λ t ht=>?_;obtain⟨i,hi,e⟩:=uP.1 ht;rw[uB]at hi;have:=h i oO;rw[AP oO]at this;rw[List.getElem_take]at e;rw[<-e,this];rfl
def aSV(h:m<L.length):(L.set m t).take (m+1)=L.take m++[t]:=by rw[JV (z:=iM) (by rw[jF];exact h),List.take_set_of_le (aJ _),EU,iP ⟨rfl,h⟩]
def aGS:(L.map tR).set m (tR t)=(L.set m t).map tR:=by rw[jO]
def aQZ(l:List Tk)(hl:l.length<=100000)(d:DE)(hd:d.size<=100000)(k id:Nat)(hid:id<k):
 AM.Tr aG Γ 63 k [.sl id 0 l.length,.fn 64 [.rp d.cells]] [(id,⟨8,aB,l.map tR⟩)]
  (λ k1 r1 H1=>k1=k/\r1= .sl id 0 (l.filter λ t=> !uN d t).length/\H1=[(id,⟨8,aB,(l.filter λ t=> !uN d t).map tR⟩)]):=by
 have i0:¬id=k:=oO;have i4:∀q,id<k+q:=λ q=>oO;have i1:∀q,¬id=k+q:=λ q=>oO;have i2:¬k=id:=oO;have i3:∀q,¬k+q=id:=λ q=>oO;have hT:=aWZ (Γ:=Γ) l hl d hd k id hid;obtain⟨N,eN⟩:=xE l.length;have hkl:(l.filter λ t=> !uN d t)=YG d l N:=by rw[YG,eN,bVG]
 rw[hkl];rw[<-eN]at hT⊢
 obtain⟨z,ez⟩:=xE (idx (λ i=>uN d (l.getD i iM)) N);rw[<-ez]at hT;obtain⟨dc,edc⟩:=xE d.cells;have hdel:∀t,AM.Pure aG Γ 64 [.agg (tR t),.rp dc] (uN d t):=λ t=>by rw[edc];exact a8Y d hd t
 rw[<-edc]at hT⊢
 obtain⟨KN,eKN⟩:=xE (YG d l N);rw[<-eKN];refine bR Tryz.func63 rfl 42 rfl bB ?_;have kp:Kp [0,1,4,5,6,7,12,19,29] (λ i=>if k<=i then i-k+1 else 0):=oR;have uU:=rY hid i0 i1 i2 i3 i4;refine gO ?_;refine sK [.gen (aD (aE aH z)) k [(id,⟨8,aB,l.map tR⟩)] [(id,⟨8,aB,l.map tR⟩)]] ?_;by_cases hno:∀i,i<N->uN d (l.getD i iM)=aF
 .have hz:z= -1:=by rw[ez,idx,xZ hno]
  have hK:KN=l:=by rw[eKN,aMF oO hno,eN,bVG]
  rw[hz];refine gJ λ ht=>?_;have uU:=rY hid i0 i1 i2 i3 i4;refine kX ?_;rw[hK,eN];exact⟨rfl,rfl⟩
 obtain⟨i,hi,hfi,hlo⟩:∃i,i<N/\uN d (l.getD i iM)=aB/\∀j,j<i->uN d (l.getD j iM)=aF:=by exact aCP hno
 have hz:z=(i:Int):=by rw[ez,idx,AT hlo hfi hi]
 have hzi:¬(i:Int)= -1:=oO;have wi:aH.wrap ((i:Int)+1)=(i:Int)+1:=wrap_i64 oO oO;rw[hz];have uU:=xG hid i0 i1 i2 i3 i4 hzi wi;refine gJ λ ht=>?_;have hki:YG d l (i+1)=l.take i:=by rw[aWQ oO hfi,aMF oO hlo]
 have hkil:(YG d l (i+1)).length=i:=by rw[hki,uB];omega
 refine cD (X:=Nat×List Tk) rfl [0,1,4,5,6,7,12,19,29] k (λ x=>[(5,((YG d l x.1).length:Int)),(6,x.1)]) (λ x=>[(id,⟨8,aB,x.2.map tR⟩)]) (λ x=>x.1<=N/\x.2.length=N/\x.2.take (YG d l x.1).length=YG d l x.1/\(∀q,x.1<=q->x.2.getD q iM=l.getD q iM)/\(YG d l x.1).length<x.1) (λ x=>N-x.1) (i+1,l) ?_ ⟨by simp only;omega,eN.symm,by simp only;rw[hkil,hki],λ _ _=>rfl,by simp only;rw[hkil];omega⟩ ?_;.simp only;rw[hkil,(oO:((i+1:Nat):Int)=(i:Int)+1)];exact iC
 rintro⟨j,L⟩ ⟨hj,hL,htk,hsm,hm⟩;simp only at hj hL htk hsm hm;simp only;obtain⟨m,em⟩:=xE ((YG d l j).length);rw[<-em]at htk hm⊢
 have hRl:(L.map tR).length=N:=by rw[dG,hL]
 by_cases hlt:j<N
 .obtain⟨t,et⟩:=xE (l.getD j iM);have g1:=tD (L:=L) (i:=j) oO;have g2:=tD (L:=L) (i:=m) oO;rw[hsm j (aJ _),<-et]at g1;obtain⟨u,eu⟩:=xE (L.getD m iM);rw[<-eu]at g2;have hst:=aGS (L:=L) (m:=m) (t:=t);obtain⟨R,eR⟩:=xE (L.map tR);rw[<-eR]at g1 g2 hst hRl⊢
  have hc:=hdel t;obtain⟨y,ey⟩:=xE (uN d t);rw[<-ey]at hc;simp only[tR]at g1 g2 hst hc;have b1:m<N:=oO;have wm:aH.wrap ((m:Int)+1)=(m:Int)+1:=wrap_i64 oO oO;have wj:aH.wrap ((j:Int)+1)=(j:Int)+1:=wrap_i64 oO oO;have uU:=fB hid i0 i1 i2 i3 i4 hlt g1 (GX g2 b1 hRl wm wj);refine cZ ?_;refine gJ λ ht=>?_;refine sK [.ret y] ?_
  cases y with
  |true=>have hk1:=aWQ (d:=d) (l:=l) (j:=j) oO (by rw[<-et];exact ey.symm);refine gJ λ ht=>?_;refine⟨(j+1,L),⟨by simp only;omega,hL,by simp only;rw[hk1,<-em];exact htk,λ q hq=>hsm q (by simp only at hq;omega),by simp only;rw[hk1,<-em];omega⟩,by simp only;omega,?_⟩;simp only;rw[hk1,<-em,<-eR,(oO:((j+1:Nat):Int)=(j:Int)+1)];exact iC
  |false=>
   have hk1:=a4N (d:=d) (l:=l) (j:=j) oO (by rw[<-et];exact ey.symm);rw[<-et]at hk1;have hk2:(YG d l (j+1)).length=m+1:=by rw[hk1,bT,<-em];rfl
   refine gJ λ ht=>?_;refine⟨(j+1,L.set m t),⟨by simp only;omega,by simp only;rw[jF];exact hL,by simp only;rw[hk2,hk1,aSV oO,htk],λ q hq=>?_,by simp only;rw[hk2];omega⟩,by simp only;omega,?_⟩
   .simp only at hq⊢
    rw[EU,iN oO];exact hsm q oO
   simp only;rw[hk2,<-hst,(oO:((j+1:Nat):Int)=(j:Int)+1),(oO:((m+1:Nat):Int)=(m:Int)+1)];exact iC
 have hjn:j=N:=oO;subst hjn;rw[<-eKN]at em htk;have uU:=rY hid i0 i1 i2 i3 i4;refine cZ ?_;refine gJ λ ht=>?_;refine aNT 0 (by simp-dsimp-implicitDefEqProofs (disch:=omega)only[go_sem,iO,hid,i0,i1,i2,i3,i4,↓reduceIte];rfl) (by simp-dsimp-implicitDefEqProofs (disch:=omega)only[go_sem,iO,hid,i0,i1,i2,i3,i4,↓reduceIte];rfl) (λ h=>oO) (λ cap hc1 hc2=>?_);refine cZ ?_;obtain⟨nz,enz⟩:=xE (j-m);obtain⟨c2,ec2⟩:=xE (cap-m);have hcut:=HJ (rows:=L.map tR) (new:=bI nz ztk) (r:=m) oO;rw[<-List.map_take,htk]at hcut;obtain⟨R,eR⟩:=xE (L.map tR);rw[<-eR]at hRl hcut⊢
 refine gO ?_;refine xJ [.raw (aA 38) ⟨.slc id m nz c2,k,[],[id]⟩,.raw aC ⟨.junk,k,[(id,aA ⟨8,aB,gH R (bI nz ztk) m⟩)],[id]⟩] ?_;refine kS (zs ?_) (zs ?_) (zs ?_);.exact kP rfl (fI) kRf rfl rfl rfl oO oO oO oO oO oO
 .exact DS (n:=nz) rfl y7 rfl rfl (fI) rfl oO (by show m+nz<=R.length;omega) rfl
 refine gO ?_;refine xJ [.raw (aA 41) ⟨.slc id 0 m cap,k,[],[id]⟩] ?_;refine iA ?_ ?_;.exact kP rfl (fI) kRf rfl rfl rfl oO oO oO oO oO oO
 refine gO ?_;refine gW (a1C id m (fI)) (gW (PC 4 rfl) (cZ ?_));rw[hcut];have uU:=rY hid i0 i1 i2 i3 i4;refine kX ?_;rw[em]
def uS(n:Nat)(f g:Nat->Int):List (List AVal):=(aR n).map λ i=>[aD (aE aH (f i)),aD (aE aH (g i))]
def qX(n:Nat)(f:Nat->Sp):List (List AVal):=(aR n).map λ i=>[aD (aE aI (f i).v),aD (aE aT (f i).r),aD (aE aI (f i).floor)]
def OH(k ng n ns:Nat)(par wt clk cur:Nat->Int)(l:List Tk)(sp:Nat->Nat->Sp):aS:=
 (k+13,⟨2,aB,uS ng par wt⟩)::(k+14,⟨1,aB,kL n clk⟩)::(k+15,⟨1,aB,kL n cur⟩)::(k+16,⟨8,aB,l.map tR⟩)::(k+17,⟨1,aF,uD (k+18) ns n ns⟩)::nA (k+18) 3 ns (λ g=>qX n (sp g))
def OC(k ng n ns nt:Nat)(cpus credit:Int):List AVal:=[aD (aE aH cpus),aD (aE aI credit),.sl (k+13) 0 ng,.sl (k+14) 0 n,.sl (k+15) 0 n,.sl (k+16) 0 nt,.sl (k+17) 0 ns]
def aAV(s:St):(sQ s).map tR=(aR s.nt).map (tf s):=by unfold sQ;rw[kT];rfl
def NF(s:St):(sQ s).length=s.nt:=by simp[sQ]
def aYT(s:St)(n:Nat)(hn:0<n)(hn2:n<=1000)(e1:s.nk=n)(e2:s.nu=n)(e3:∀g,g<s.ns->s.nsp g=n)(h1:0<s.ng)(h2:s.ng<=1000)(h5:0<s.ns)(h6:s.ns<=1000)(h8:s.nt<=1000)(k:Nat):
 AM.Tr aG Γ 61 k [.agg s.cells] [] (λ k1 r1 H1=>k1=k+(20+s.ns)/\r1= .agg (OC k s.ng n s.ns s.nt s.cpus s.credit)/\H1=OH k s.ng n s.ns s.par s.wt s.clk s.cur (sQ s) s.sp):=by
 have hle:VLes [.agg s.cells] [.agg [s.cpus,aD (aE aI s.credit),.rd 2 s.ng (gf s),.rd 1 n (kf s),.rd 1 n (uf s),.rd 8 s.nt (tf s),.rd 1 s.ns (λ g=>[.rd 3 n (sf s g)])]]:=by
  refine .cons (BH (.cons (bL _) (.cons (bL _) (.cons (bL _) (.cons ?_ (.cons ?_ (.cons (bL _) (.cons ?_ .nil)))))))) .nil;.rw[e1];exact bL _
  .rw[e2];exact bL _
  refine VLe.rds λ g hg=> .cons ?_ .nil;rw[e3 g hg];exact bL _
 refine bDK ?_ hle;have o2:∀(m:Nat) (f:Nat->List AVal),(∀i,(f i).all AM.one=aB)->(((aR m).map f).all λ row=>row.all AM.one)=aB:=λ m f h=>jW _ _ h;have g1:=o2 s.ng (gf s) λ _=>rfl;have g2:=o2 n (kf s) λ _=>rfl;have g3:=o2 n (uf s) λ _=>rfl;have g4:∀g,(((aR n).map (sf s g)).all λ row=>row.all AM.one)=aB:=λ g=>o2 n (sf s g) λ _=>rfl;unfold OC OH;rw[aAV];rcases a7N s.nt with h0|h0
 .rw[h0,List.range_zero,bV];refine a7L 5 rfl λ a cap=>?_
  cases a with
  |none=>exact aYV s.cpus s.credit s.ng n s.ns (gf s) (kf s) (uf s) (sf s) cap g1 g2 g3 g4 h1 h2 hn hn2 h5 h6 k
  |some p=>exact aYW s.cpus s.credit s.ng n s.ns (gf s) (kf s) (uf s) (sf s) p cap g1 g2 g3 g4 h1 h2 hn hn2 h5 h6 k
 exact aYU s.cpus s.credit s.ng n s.ns (gf s) (kf s) (uf s) (sf s) s.nt (tf s) h0 h8 (o2 s.nt (tf s) λ _=>rfl) g1 g2 g3 g4 h1 h2 hn hn2 h5 h6 k
def aHD(h:j<=a):rW iM jB a j l=l:=by
 cases j with
 |zero=>rfl
 |succ j=>rw[rW,iN oO]
def aQH(h:jB (l.getD (j+1) iM) (l.getD j iM)=aF):rW iM jB a (j+1) l=l:=by rw[rW,iN (by rw[h];simp)]
def aWY(h0:a<j+1)(h:jB (l.getD (j+1) iM) (l.getD j iM)=aB):rW iM jB a (j+1) l=rW iM jB a j (swp iM l (j+1) j):=by rw[rW,iP ⟨h0,h⟩]
def YB(k:Nat):Kp [0,1,2,3,8,9,14,34] (λ i=>if k<=i then i-k+1 else 0):=oR
def aWU(l:List Tk)(a b:Nat)(h1:a<=b)(h2:b<=l.length)(hl:l.length<=100000)(k id:Nat)(hid:id<k):
 AM.Tr aG Γ 208 k [.sl id 0 l.length,a,b,.fn 69 []] [(id,⟨8,aB,l.map tR⟩)]
  (λ k1 r1 H1=>k1=k/\r1= .tup []/\H1=[(id,⟨8,aB,(GC iM jB l a b).map tR⟩)]):=by
 have i0:¬id=k:=oO;have i4:∀q,id<k+q:=λ q=>oO;have i1:∀q,¬id=k+q:=λ q=>oO;have i2:¬k=id:=oO;have i3:∀q,¬k+q=id:=λ q=>oO;obtain⟨N,eN⟩:=xE l.length;rw[<-eN];refine bR Tryz.func208 rfl 53 rfl bB ?_;have wa:aH.wrap ((a:Int)+1)=(a:Int)+1:=fD oO oO;have kp:=kN k [0,1,2,3,8,9,14,34];have uU:=yI hid i0 i1 i2 i3 i4 wa;refine gO ?_;refine cD (X:=Nat) rfl [0,1,2,3,8,9,14,34] k (λ q=>[(8,(a+1+q:Nat))]) (λ q=>[(id,⟨8,aB,(DL iM jB a l q).map tR⟩)]) (λ q=>q<=b-a-1) (λ q=>b-a-1-q) 0 ?_ (bF _) ?_;.rw[show DL iM jB a l 0=l from rfl,(oO:((a+1+0:Nat):Int)=(a:Int)+1)];refine cZ ?_;exact iC
 intro q hq;obtain⟨L,eL⟩:=xE (DL iM jB a l q);have hL:L.length=N:=by rw[eL,(AK oO).length_eq,eN]
 have hnx:DL iM jB a l (q+1)=rW iM jB a (a+q+1) L:=by rw[DL,eL]
 rw[<-eL];obtain⟨i,ei⟩:=xE (a+1+q);rw[<-ei];have wi:aH.wrap ((i:Int)+1)=(i:Int)+1:=fD oO oO;by_cases hlt:i<b
 .have hib:(i:Int)<(b:Int):=oO;have uU:=xG hid i0 i1 i2 i3 i4 wi hib;refine cZ ?_;refine gJ λ ht=>?_;refine cD (X:=Nat×List Tk) rfl [0,1,2,3,8,9,14,34] k (λ x=>[(9,x.1)]) (λ x=>[(id,⟨8,aB,x.2.map tR⟩)]) (λ x=>x.2.length=N/\a<=x.1/\x.1<=i/\rW iM jB a x.1 x.2=rW iM jB a i L) (λ x=>x.1) (i,L) ?_ ⟨hL,by simp only;omega,aJ _,rfl⟩ ?_;.refine cZ ?_;exact iC
  rintro⟨j,M⟩ ⟨hM,hj1,hj2,hin⟩;simp only at hM hj1 hj2 hin;simp only;by_cases haj:a<j
  .obtain⟨j',rfl⟩:∃j',j=j'+1:=⟨j-1,oO⟩;have g1:=tD (L:=M) (i:=j'+1) oO;have g2:=tD (L:=M) (i:=j') oO;have hsw:=HE (L:=M) (i:=j'+1) (j:=j');have hRl:(M.map tR).length=N:=by rw[dG,hM]
   have hend:=aQH (a:=a) (j:=j') (l:=M);have hgo:=aWY (a:=a) (j:=j') (l:=M) haj;have hsl:(swp iM M (j'+1) j').length=N:=by rw[AB,hM]
   obtain⟨R,eR⟩:=xE (M.map tR);obtain⟨x,ex⟩:=xE (M.getD (j'+1) iM);obtain⟨y,ey⟩:=xE (M.getD j' iM);rw[<-eR,<-ex]at g1;rw[<-eR,<-ey]at g2;rw[<-eR,<-ex,<-ey]at hsw;rw[<-ex,<-ey]at hend hgo;rw[<-eR]at hRl⊢
   have hcc:=aNI (Γ:=Γ) x y;obtain⟨v,ev⟩:=xE (aH.wrap (x.id-y.id));rw[<-ev]at hcc;have hlv:jB x y=decide (v<0):=by rw[jB,ev]
   rw[hlv]at hend hgo;simp only[tR]at g1 g2 hsw hcc;have haj':(a:Int)<(j':Int)+1:=oO;have htn:((j':Int)+1).toNat=j'+1:=oO;have hp0:(0:Int)<=(j':Int)+1:=oO;have wj:aH.wrap ((j':Int)+1-1)=(j':Int):=by rw[fD oO oO];omega
   have wj2:aH.wrap (j':Int)=(j':Int):=fD oO oO;have b1:j'+1<N:=oO;have b2:j'<N:=oO;have g3:=NG (p:=j'+1) g2;by_cases hv:v<0;.have hgo':=hgo (decide_eq_true hv);have uU:=fB hid i0 i1 i2 i3 i4 g1 g2 (fB g3 wj wj2 htn hp0 b1 b2 hRl (uT haj' wi hv));refine cZ ?_;have kp:=YB k;refine gO ?_;refine RE [.ret v] ?_;refine gJ λ ht=>?_;refine⟨(j',swp iM M (j'+1) j'),⟨hsl,by simp only;omega,by simp only;omega,by simp only;rw[<-hgo'];exact hin⟩,by simp only;omega,?_⟩;simp only;rw[<-hsw];exact iC
   have hend':=hend (decide_eq_false hv);have uU:=fB hid i0 i1 i2 i3 i4 g1 g2 (fB g3 wj wj2 htn hp0 b1 b2 hRl (uT haj' wi hv));refine cZ ?_;have kp:=YB k;refine gO ?_;refine RE [.ret v] ?_;refine gJ λ ht=>?_;refine⟨q+1,oO,oO,?_⟩;rw[hnx,(oO:a+q+1=i),<-hin,hend',eR,(oO:a+(1+(q+1))=i+1),(oO:((i+1:Nat):Int)=(i:Int)+1)];exact iC
  have hst:=aHD (l:=M) (oO:j<=a);have haj':¬(a:Int)<(j:Int):=oO;have uU:=xG hid i0 i1 i2 i3 i4 wi haj';refine cZ ?_;have kp:=YB k;refine gO ?_;refine RE [] ?_;refine gJ λ ht=>?_;refine⟨q+1,oO,oO,?_⟩;rw[hnx,(oO:a+q+1=i),<-hin,hst,(oO:a+(1+(q+1))=i+1),(oO:((i+1:Nat):Int)=(i:Int)+1)];exact iC
 have hq':q=b-a-1:=oO;have uU:=rY hid i0 i1 i2 i3 i4;refine cZ ?_;have kp:=YB k;refine gJ λ ht=>?_;refine⟨_,rfl,rfl,?_⟩;rw[eL,hq',GC]
def bFH(l:List Tk)(a m b:Nat)(h1:a<m)(h2:m<b)(h3:b<=l.length)(hl:l.length<=100000)(k id:Nat)(hid:id<k):
 AM.Tr aG Γ 253 k [.sl id 0 l.length,a,m,b,.fn 69 []] [(id,⟨8,aB,l.map tR⟩)]
  (λ k1 r1 H1=>k1=k/\r1= .tup []/\H1=[(id,⟨8,aB,(rot iM l a m b).map tR⟩)]):=by
 have i0:¬id=k:=oO;have i4:∀q,id<k+q:=λ q=>oO;have i1:∀q,¬id=k+q:=λ q=>oO;have i2:¬k=id:=oO;have i3:∀q,¬k+q=id:=λ q=>oO;obtain⟨N,eN⟩:=xE l.length;rw[<-eN];refine bR Tryz.func253 rfl 58 rfl bB ?_;have wa:aH.wrap ((m:Int)-(a:Int))=((m-a:Nat):Int):=by rw[fD oO oO];omega
 have wb:aH.wrap ((b:Int)-(m:Int))=((b-m:Nat):Int):=by rw[fD oO oO];omega
 have kp:Kp [0,1,2,3,4,10,11,20,23] (λ i=>if k<=i then i-k+1 else 0):=oR;have uU:=xG hid i0 i1 i2 i3 i4 wa wb;refine gO ?_;refine cD (X:=Nat×Nat×Nat×List Tk) rfl [0,1,2,3,4,10,11,20,23] k (λ x=>[(10,x.1),(11,x.2.1)]) (λ x=>[(id,⟨8,aB,x.2.2.2.map tR⟩)]) (λ x=>x.2.2.2.length=N/\0<x.1/\0<x.2.1/\x.1+x.2.1<=x.2.2.1/\x.1<=m/\m+x.2.1<=N/\PK iM m x.2.2.1 x.1 x.2.1 x.2.2.2=rot iM l a m b) (λ x=>x.1+x.2.1) (m-a,b-m,b-a,l) ?_ ⟨eN.symm,by simp only;omega,by simp only;omega,by simp only;omega,by simp only;omega,by simp only;omega,rfl⟩ ?_;.refine cZ ?_;exact iC
 rintro⟨i,j,f,L⟩ ⟨hL,hi,hj,hf,him,hjm,hrot⟩;simp only at hL hi hj hf him hjm hrot;simp only;obtain⟨f,rfl⟩:∃f',f=f'+1:=⟨f-1,oO⟩;have w1:aH.wrap ((m:Int)-(i:Int))=((m-i:Nat):Int):=by rw[fD oO oO];omega
 by_cases hij:i=j;.subst hij;have hT:=WY (Γ:=Γ) L (m-i) m i oO oO oO (.fn 69 []) k id hid;rw[PK,iP rfl]at hrot;rw[hrot,hL]at hT;have uU:=yI hid i0 i1 i2 i3 i4 w1;refine cZ ?_;refine gJ λ ht=>?_;refine sK [.gen (.tup []) k [(id,⟨8,aB,L.map tR⟩)] [(id,⟨8,aB,(rot iM l a m b).map tR⟩)]] ?_;exact⟨_,rfl,rfl⟩
 by_cases hlt:j<i
 .have hlt':(j:Int)<(i:Int):=oO;have hij':¬(i:Int)=(j:Int):=oO;have w2:aH.wrap ((i:Int)-(j:Int))=((i-j:Nat):Int):=by rw[fD oO oO];omega
  have hT:=WY (Γ:=Γ) L (m-i) m j oO oO oO (.fn 69 []) k id hid;rw[PK,iN hij,iP hlt]at hrot;obtain⟨M,eM⟩:=xE (swR iM L (m-i) m j);have hM:M.length=N:=by rw[eM,pX,hL]
  rw[<-eM]at hT hrot;rw[hL]at hT;have uU:=fB hid i0 i1 i2 i3 i4 w1 w2 (zA hij' hlt');refine cZ ?_;refine vI ?_;refine kB (gB λ ht ht=>sK [.gen (.tup []) k [(id,⟨8,aB,L.map tR⟩)] [(id,⟨8,aB,M.map tR⟩)]] ?_);refine gO ?_;refine⟨(i-j,j,f,M),⟨hM,by simp only;omega,by simp only;omega,by simp only;omega,by simp only;omega,by simp only;omega,hrot⟩,by simp only;omega,?_⟩;simp only;exact iC
 have hlt':¬(j:Int)<(i:Int):=oO;have hij':¬(i:Int)=(j:Int):=oO;have w2:aH.wrap ((j:Int)-(i:Int))=((j-i:Nat):Int):=by rw[fD oO oO];omega
 have w3:aH.wrap ((m:Int)+(j:Int))=((m+j:Nat):Int):=by rw[fD oO oO];omega
 have w4:aH.wrap (((m+j:Nat):Int)-(i:Int))=((m+j-i:Nat):Int):=by rw[fD oO oO];omega
 have hT:=WY (Γ:=Γ) L (m-i) (m+j-i) i oO oO oO (.fn 69 []) k id hid;rw[PK,iN hij,iN hlt]at hrot;obtain⟨M,eM⟩:=xE (swR iM L (m-i) (m+j-i) i);have hM:M.length=N:=by rw[eM,pX,hL]
 rw[<-eM]at hT hrot;rw[hL]at hT;have uU:=fB hid i0 i1 i2 i3 i4 w1 w2 (pJ w3 w4 hij' hlt');refine cZ ?_;refine vI ?_;refine kB (gB λ ht ht=>sK [.gen (.tup []) k [(id,⟨8,aB,L.map tR⟩)] [(id,⟨8,aB,M.map tR⟩)]] ?_);refine gO ?_;refine⟨(i,j-i,f,M),⟨hM,by simp only;omega,by simp only;omega,by simp only;omega,by simp only;omega,by simp only;omega,hrot⟩,by simp only;omega,?_⟩;simp only;exact iC
def ZN{f:Nat}(h:¬i<j):FH p f i j=i:=by
 cases f with
 |zero=>rfl
 |succ f=>rw[FH,iN h]
def aIV{f h:Nat}(hij:i<j)(e:h=(i+j)/2)(hp:p h=aB):FH p (f+1) i j=FH p f (h+1) j:=by rw[FH,iP hij,<-e,iP hp]
def aIW{f h:Nat}(hij:i<j)(e:h=(i+j)/2)(hp:p h=aF):FH p (f+1) i j=FH p f i h:=by rw[FH,iP hij,<-e,iN (by rw[hp];simp)]
def aWO(k:Nat):Kp [0,1,2,3,4,10,11,12,13,14,15,16,17,18,19,20,21,22,23,24,28,33,50,58,80,85,103,110,140,151,171,185,199,213] (λ i=>if k<=i then i-k+1 else 0):=oR
def a9U(l:List Tk)(a m b:Nat)(h1:m=a+1)(h2:m<b)(h3:b<=l.length)(hl:l.length<=100000)(k id:Nat)(hid:id<k):
 AM.Tr aG Γ 209 k [.sl id 0 l.length,a,m,b,.fn 69 []] [(id,⟨8,aB,l.map tR⟩)]
  (λ k1 r1 H1=>k1=k/\r1= .tup []/\H1=[(id,⟨8,aB,(shR iM l a (FH (λ h=>jB (l.getD h iM) (l.getD a iM)) (b-m) m b-1-a)).map tR⟩)]):=by
 have i0:¬id=k:=oO;have i4:∀q,id<k+q:=λ q=>oO;have i1:∀q,¬id=k+q:=λ q=>oO;have i2:¬k=id:=oO;have i3:∀q,¬k+q=id:=λ q=>oO;obtain⟨N,eN⟩:=xE l.length;rw[<-eN];refine bR Tryz.func209 rfl 220 rfl bB ?_;obtain⟨R,eR⟩:=xE (l.map tR);have hRl:R.length=N:=by rw[eR,dG,eN]
 obtain⟨p,ep⟩:∃p:Nat->Bool,p=λ h=>jB (l.getD h iM) (l.getD a iM):=⟨_,rfl⟩;rw[<-ep];obtain⟨B,eB⟩:=xE (FH p (b-m) m b);have hBr:=sY (p:=p) (f:=b-m) (i:=m) (j:=b) oO;rw[<-eB]at hBr⊢
 rw[<-eR];have wma:aH.wrap ((m:Int)-(a:Int))=1:=by rw[fD oO oO];omega
 have ga:=tD (L:=l) (i:=a) oO;obtain⟨x,ex⟩:=xE (l.getD a iM);rw[<-eR,<-ex]at ga;rw[<-ex]at ep;simp only[tR]at ga;have ba:a<N:=oO;have kp:=aWO k;have uU:=yI hid i0 i1 i2 i3 i4 wma;refine gJ λ ht=>?_;refine cD (X:=Nat×Nat×Nat) rfl [0,1,2,3,4,10,11,12,13,14,15,16,17,18,19,20,21,22,23,24,28,33,50,58,80,85,103,110,140,151,171,185,199,213] k (λ x=>[(10,x.1),(11,x.2.1)]) (λ x=>[(id,⟨8,aB,R⟩)]) (λ x=>m<=x.1/\x.1<=x.2.1/\x.2.1<=b/\x.2.1-x.1<=x.2.2/\FH p x.2.2 x.1 x.2.1=B) (λ x=>x.2.1-x.1) (m,b,b-m) ?_ ⟨by simp only;omega,by simp only;omega,by simp only;omega,by simp only;omega,eB.symm⟩ ?_;.refine cZ ?_;exact iC
 rintro⟨i,j,f⟩ ⟨hi1,hi2,hi3,hf,hbs⟩;simp only at hi1 hi2 hi3 hf hbs;simp only;by_cases hij:i<j
 .obtain⟨f,rfl⟩:∃f',f=f'+1:=⟨f-1,oO⟩;have e1:aI.wrap ((i:Int)+(j:Int))=(i:Int)+(j:Int):=wrap_u64 oO oO;have e0:aH.wrap ((i:Int)+(j:Int))=(i:Int)+(j:Int):=wrap_i64 oO oO;have e2:((i:Int)+(j:Int)).fdiv (2^min 1 64)=(((i+j)/2:Nat):Int):=by rw[show(2:Int)^min 1 64=2 from rfl,fG _ oO];omega
  obtain⟨h,eh⟩:=xE ((i+j)/2);rw[<-eh]at e2;have e3:aH.wrap (h:Int)=(h:Int):=wrap_i64 oO oO;have e4:aH.wrap ((h:Int)+1)=(h:Int)+1:=wrap_i64 oO oO;have hij':(i:Int)<(j:Int):=oO;have gh:=tD (L:=l) (i:=h) oO;obtain⟨y,ey⟩:=xE (l.getD h iM);rw[<-eR,<-ey]at gh;simp only[tR]at gh;have bh:h<N:=oO;have hcc:=aNI (Γ:=Γ) y x;obtain⟨v,ev⟩:=xE (aH.wrap (Tk.id y-Tk.id x));rw[<-ev]at hcc;have hlv:jB y x=decide (v<0):=by rw[jB,ev]
  simp only[tR]at hcc;by_cases hv:v<0
  .have hp:p h=aB:=by rw[ep];simp only;rw[<-ey,hlv];simp[hv]
   rw[aIV hij eh hp]at hbs;have uU:=fB hid i0 i1 i2 i3 i4 e0 e1 (fB e2 e3 e4 hij' hv ga gh ba (zA bh hRl));refine cZ ?_;refine gJ λ ht=>?_;refine RE [.ret v] ?_;refine gJ λ ht=>?_;refine⟨(h+1,j,f),⟨by simp only;omega,by simp only;omega,hi3,by simp only;omega,hbs⟩,by simp only;omega,?_⟩;simp only;rw[(oO:((h+1:Nat):Int)=(h:Int)+1)];exact iC
  have hp:p h=aF:=by rw[ep];simp only;rw[<-ey,hlv];simp[hv]
  rw[aIW hij eh hp]at hbs;have uU:=fB hid i0 i1 i2 i3 i4 e0 e1 (fB e2 e3 e4 hij' hv ga gh ba (zA bh hRl));refine cZ ?_;refine gJ λ ht=>?_;refine RE [.ret v] ?_;refine gJ λ ht=>?_;refine⟨(i,h,f),⟨hi1,by simp only;omega,by simp only;omega,by simp only;omega,hbs⟩,by simp only;omega,?_⟩;simp only;exact iC
 have hij':¬(i:Int)<(j:Int):=oO;rw[ZN hij]at hbs;subst hbs;have uU:=yI hid i0 i1 i2 i3 i4 hij';refine cZ ?_;refine gJ λ ht=>?_;have wB:aH.wrap ((i:Int)-1)=((i-1:Nat):Int):=by rw[fD oO oO];omega
 refine cD (X:=Nat) rfl [0,1,2,3,4,10,11,12,13,14,15,16,17,18,19,20,21,22,23,24,28,33,50,58,80,85,103,110,140,151,171,185,199,213] k (λ q=>[(13,(a+q:Nat))]) (λ q=>[(id,⟨8,aB,(shR iM l a q).map tR⟩)]) (λ q=>q<=(i-1-a)) (λ q=>(i-1-a)-q) 0 ?_ (bF _) ?_;.rw[show shR iM l a 0=l from rfl,<-eR];refine cZ ?_;exact iC
 intro q hq;obtain⟨L,eL⟩:=xE (shR iM l a q);have hL:L.length=N:=by rw[eL,EJ,eN]
 have hnx:shR iM l a (q+1)=swp iM L (a+q) (a+q+1):=by rw[shR,eL]
 rw[<-eL];by_cases hlt:q<(i-1-a)
 .obtain⟨cur,ec⟩:=xE (a+q);obtain⟨nx,en⟩:=xE (a+q+1);rw[<-en,<-ec]at hnx;rw[<-ec];have g1:=tD (L:=L) (i:=cur) oO;have g2:=tD (L:=L) (i:=nx) oO;have hsw:=HE (L:=L) (i:=cur) (j:=nx);have hSl:(L.map tR).length=N:=by rw[dG,hL]
  obtain⟨S,eS⟩:=xE (L.map tR);obtain⟨x,ex⟩:=xE (L.getD cur iM);obtain⟨y,ey⟩:=xE (L.getD nx iM);rw[<-eS,<-ex]at g1;rw[<-eS,<-ey]at g2;rw[<-eS,<-ex,<-ey]at hsw;rw[<-eS]at hSl⊢
  simp only[tR]at g1 g2 hsw;have g3:=NG (p:=cur) g2;have w1:aH.wrap ((cur:Int)+1)=(nx:Int):=by rw[fD oO oO];omega
  have b1:cur<N:=oO;have b2:nx<N:=oO;have hcond:(cur:Int)<((i-1:Nat):Int):=oO;have uU:=fB hid i0 i1 i2 i3 i4 wB w1 (yI g1 g2 g3 b1 b2 hSl hcond);refine cZ ?_;refine gJ λ ht=>?_;refine⟨q+1,oO,oO,?_⟩;rw[hnx,<-hsw,(oO:a+(q+1)=nx)];exact iC
 have hqe:q=(i-1-a):=oO;have hcond:¬((a+q:Nat):Int)<((i-1:Nat):Int):=oO;have uU:=xG hid i0 i1 i2 i3 i4 wB hcond;refine cZ ?_;refine gJ λ ht=>?_;have uU:=xG hid i0 i1 i2 i3 i4 wB hcond;refine kX ?_;rw[eL,hqe];exact⟨rfl,rfl⟩
def a9T(l:List Tk)(a m b:Nat)(h1:a+1<m)(h2:b=m+1)(h3:b<=l.length)(hl:l.length<=100000)(k id:Nat)(hid:id<k):
 AM.Tr aG Γ 209 k [.sl id 0 l.length,a,m,b,.fn 69 []] [(id,⟨8,aB,l.map tR⟩)]
  (λ k1 r1 H1=>k1=k/\r1= .tup []/\H1=[(id,⟨8,aB,(shL iM l m (m-FH (λ h=> !(jB (l.getD m iM) (l.getD h iM))) (m-a) a m)).map tR⟩)]):=by
 have i0:¬id=k:=oO;have i4:∀q,id<k+q:=λ q=>oO;have i1:∀q,¬id=k+q:=λ q=>oO;have i2:¬k=id:=oO;have i3:∀q,¬k+q=id:=λ q=>oO;obtain⟨N,eN⟩:=xE l.length;rw[<-eN];refine bR Tryz.func209 rfl 220 rfl bB ?_;obtain⟨R,eR⟩:=xE (l.map tR);have hRl:R.length=N:=by rw[eR,dG,eN]
 obtain⟨p,ep⟩:∃p:Nat->Bool,p=λ h=> !(jB (l.getD m iM) (l.getD h iM)):=⟨_,rfl⟩;rw[<-ep];obtain⟨B,eB⟩:=xE (FH p (m-a) a m);have hBr:=sY (p:=p) (f:=m-a) (i:=a) (j:=m) oO;rw[<-eB]at hBr⊢
 rw[<-eR];have wma:aH.wrap ((m:Int)-(a:Int))=((m-a:Nat):Int):=by rw[fD oO oO];omega
 have wbm:aH.wrap ((b:Int)-(m:Int))=1:=by rw[fD oO oO];omega
 have hne:¬((m-a:Nat):Int)=1:=oO;have ga:=tD (L:=l) (i:=m) oO;obtain⟨x,ex⟩:=xE (l.getD m iM);rw[<-eR,<-ex]at ga;rw[<-ex]at ep;simp only[tR]at ga;have ba:m<N:=oO;have kp:=aWO k;have uU:=fB hid i0 i1 i2 i3 i4 wma wbm hne;refine vI ?_;refine kB (gB λ ht ht=>cD (X:=Nat×Nat×Nat) rfl [0,1,2,3,4,10,11,12,13,14,15,16,17,18,19,20,21,22,23,24,28,33,50,58,80,85,103,110,140,151,171,185,199,213] k (λ x=>[(14,x.1),(15,x.2.1)]) (λ x=>[(id,⟨8,aB,R⟩)]) (λ x=>a<=x.1/\x.1<=x.2.1/\x.2.1<=m/\x.2.1-x.1<=x.2.2/\FH p x.2.2 x.1 x.2.1=B) (λ x=>x.2.1-x.1) (a,m,m-a) ?_ ⟨by simp only;omega,by simp only;omega,by simp only;omega,by simp only;omega,eB.symm⟩ ?_);.refine cZ ?_;exact iC
 rintro⟨i,j,f⟩ ⟨hi1,hi2,hi3,hf,hbs⟩;simp only at hi1 hi2 hi3 hf hbs;simp only;by_cases hij:i<j
 .obtain⟨f,rfl⟩:∃f',f=f'+1:=⟨f-1,oO⟩;have e1:aI.wrap ((i:Int)+(j:Int))=(i:Int)+(j:Int):=wrap_u64 oO oO;have e0:aH.wrap ((i:Int)+(j:Int))=(i:Int)+(j:Int):=wrap_i64 oO oO;have e2:((i:Int)+(j:Int)).fdiv (2^min 1 64)=(((i+j)/2:Nat):Int):=by rw[show(2:Int)^min 1 64=2 from rfl,fG _ oO];omega
  obtain⟨h,eh⟩:=xE ((i+j)/2);rw[<-eh]at e2;have e3:aH.wrap (h:Int)=(h:Int):=wrap_i64 oO oO;have e4:aH.wrap ((h:Int)+1)=(h:Int)+1:=wrap_i64 oO oO;have hij':(i:Int)<(j:Int):=oO;have gh:=tD (L:=l) (i:=h) oO;obtain⟨y,ey⟩:=xE (l.getD h iM);rw[<-eR,<-ey]at gh;simp only[tR]at gh;have bh:h<N:=oO;have hcc:=aNI (Γ:=Γ) x y;obtain⟨v,ev⟩:=xE (aH.wrap (Tk.id x-Tk.id y));rw[<-ev]at hcc;have hlv:jB x y=decide (v<0):=by rw[jB,ev]
  simp only[tR]at hcc;by_cases hv:v<0
  .have hp:p h=aF:=by rw[ep];simp only;rw[<-ey,hlv];simp[hv]
   rw[aIW hij eh hp]at hbs;have uU:=fB hid i0 i1 i2 i3 i4 e0 e1 (fB e2 e3 e4 hij' hv ga gh ba (zA bh hRl));refine cZ ?_;refine gJ λ ht=>?_;refine RE [.ret v] ?_;refine gJ λ ht=>?_;refine⟨(i,h,f),⟨hi1,by simp only;omega,by simp only;omega,by simp only;omega,hbs⟩,by simp only;omega,?_⟩;simp only;exact iC
  have hp:p h=aB:=by rw[ep];simp only;rw[<-ey,hlv];simp[hv]
  rw[aIV hij eh hp]at hbs;have uU:=fB hid i0 i1 i2 i3 i4 e0 e1 (fB e2 e3 e4 hij' hv ga gh ba (zA bh hRl));refine cZ ?_;refine gJ λ ht=>?_;refine RE [.ret v] ?_;refine gJ λ ht=>?_;refine⟨(h+1,j,f),⟨by simp only;omega,by simp only;omega,hi3,by simp only;omega,hbs⟩,by simp only;omega,?_⟩;simp only;rw[(oO:((h+1:Nat):Int)=(h:Int)+1)];exact iC
 have hij':¬(i:Int)<(j:Int):=oO;rw[ZN hij]at hbs;subst hbs;have uU:=yI hid i0 i1 i2 i3 i4 hij';refine cZ ?_;refine gJ λ ht=>?_;refine cD (X:=Nat) rfl [0,1,2,3,4,10,11,12,13,14,15,16,17,18,19,20,21,22,23,24,28,33,50,58,80,85,103,110,140,151,171,185,199,213] k (λ q=>[(17,(m-q:Nat))]) (λ q=>[(id,⟨8,aB,(shL iM l m q).map tR⟩)]) (λ q=>q<=(m-i)) (λ q=>(m-i)-q) 0 ?_ (bF _) ?_;.rw[show shL iM l m 0=l from rfl,<-eR,vN];refine cZ ?_;exact iC
 intro q hq;obtain⟨L,eL⟩:=xE (shL iM l m q);have hL:L.length=N:=by rw[eL,EK,eN]
 have hnx:shL iM l m (q+1)=swp iM L (m-q) (m-q-1):=by rw[shL,eL]
 rw[<-eL];by_cases hlt:q<(m-i)
 .obtain⟨cur,ec⟩:=xE (m-q);obtain⟨nx,en⟩:=xE (m-q-1);rw[<-en,<-ec]at hnx;rw[<-ec];have g1:=tD (L:=L) (i:=cur) oO;have g2:=tD (L:=L) (i:=nx) oO;have hsw:=HE (L:=L) (i:=cur) (j:=nx);have hSl:(L.map tR).length=N:=by rw[dG,hL]
  obtain⟨S,eS⟩:=xE (L.map tR);obtain⟨x,ex⟩:=xE (L.getD cur iM);obtain⟨y,ey⟩:=xE (L.getD nx iM);rw[<-eS,<-ex]at g1;rw[<-eS,<-ey]at g2;rw[<-eS,<-ex,<-ey]at hsw;rw[<-eS]at hSl⊢
  simp only[tR]at g1 g2 hsw;have g3:=NG (p:=cur) g2;have w1:aH.wrap ((cur:Int)-1)=(nx:Int):=by rw[fD oO oO];omega
  have b1:cur<N:=oO;have b2:nx<N:=oO;have hcond:(i:Int)<(cur:Int):=oO;have uU:=fB hid i0 i1 i2 i3 i4 w1 g1 (rY g2 g3 b1 b2 hSl hcond);refine cZ ?_;refine gJ λ ht=>?_;refine⟨q+1,oO,oO,?_⟩;rw[hnx,<-hsw,(oO:m-(q+1)=nx)];exact iC
 have hqe:q=(m-i):=oO;have hcond:¬(i:Int)<((m-q:Nat):Int):=oO;have uU:=yI hid i0 i1 i2 i3 i4 hcond;refine cZ ?_;refine gJ λ ht=>?_;have uU:=yI hid i0 i1 i2 i3 i4 hcond;refine kX ?_;rw[eL,hqe];exact⟨rfl,rfl⟩
end Go.Proofs.T
end
