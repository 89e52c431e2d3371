import Derived.Test.YteimiejbhhgljaaGreatDoorZAE
set_option linter.unusedVariables false
set_option linter.defProp false
set_option linter.unusedSimpArgs false
set_option maxHeartbeats 0
set_option maxRecDepth 100000
open Go.AM.AVal renaming lit->aD
open Bool renaming and_eq_true->aO,and_true->iE,eq_iff_iff->eY,false->aF,false_or->BP,or_eq_true->gQ,true->aB,true_or->BO
open Int renaming ediv_nonneg->a7U,fdiv_eq_ediv_of_nonneg->fG,le_refl->bY,natCast_nonneg->tC,pow_nonneg->CJ,toNat_natCast->bW
open Go.IntKind renaming i64->aH,u32->aT,u64->aI,u8->bM
open List renaming all_cons->gI,all_eq_true->aY,append_assoc->dA,append_nil->cX,cons_append->bA,ext_getElem?->fF,getD->oZ,getD_eq_getElem?_getD->aU,getElem?_cons_zero->lY,getElem?_eq_getElem->aN,getElem?_eq_none->bE,getElem?_map->aV,getElem?_range->nD,getElem?_set->dS,getElem?_set_self->cE,getElem_mem->zY,length_append->bT,length_cons->iI,length_nil->FM,length_set->jF,map->tB,map_append->aQ,map_congr_left->fR,map_cons->bN,map_map->kT,map_nil->bV,map_set->jO,mem_cons->fO,mem_cons_of_mem->dZ,mem_map->dM,mem_range->dX,mem_singleton->tA,nil_append->aZ,range->aR,replicate->bI,take_of_length_le->gU
open Nat renaming add_assoc->gM,add_sub_cancel->a7O,add_sub_cancel_left->kJ,le_refl->aJ,le_succ->mG,lt_trichotomy->kR,mod_eq_of_lt->LC,mul_one->JK,not_lt_zero->bU,sub_self->TT,zero_add->eQ,zero_le->bF
open Option renaming map_eq_none_iff->dL,map_eq_some_iff->aK,map_some->bO,none->aC,some->aA
open Or renaming inl->dE,inr->dP
open Go.Proofs.Tryz renaming func122->bQO,func95->bJE,prog->aG
open Go.Value renaming bool->bC,int->aE,slice->aP
section
namespace Go.Proofs.T
open Go Go.AM Go.Proofs
variable{args:Array Operand}{ty:Array TypeId}{B:Blk}{fr:Fr}{x:Int}{L:LSt}{l:List (List AVal)}{vs:List AVal}{NM:List Nat}{a b c g i k kb m n s tk:Nat}{p q:Nat->Bool}{R:Nat->List (List AVal)}{F:Nat->List AVal}{y:Option AVal}{P:Program}{t:Tk}{H Hc X Y loc:aS}
variable{Γ:dW}
def BA{R:List (List AVal)}{f:Nat->List AVal}(hn:R.length=n)(hf:∀i,i<n->R[i]? =aA (f i)):R=(aR n).map f:=fF λ i=>by
 by_cases h:i<n;.rw[hf i h];simp[h]
 rw[bE oO,bE sO]
def aZA(R:List (List AVal))(n:Nat)(f:Nat->List AVal)(id k:Nat)(hn:R.length=n)(hn0:0<n)(hn2:n<=100000)(hone:(R.all λ row=>row.all AM.one)=aB)(hf:∀i,i<n->R[i]? =aA (f i))(hk:id<k):
 Tr aG Γ 121 k [.sl id 0 n] [(id,⟨1,aB,R⟩)] (λ k1 r1 H1=>k1=k+2/\r1= .rd 1 n f/\H1=[(id,⟨1,aB,R⟩)]):=by have hR:R=(aR n).map f:=BA hn hf;obtain⟨RH,eRH⟩:=xE ([(id,⟨1,aB,R⟩)]:aS);refine Tr.mono (mO (kk:=k+2) (V:= .rd 1 n f) (RH:=RH) oO rfl (by rw[eRH];exact jS (by simp only[kC,dTt];omega) rfl) ?_) (λ _ _ _ h=>⟨h.1,h.2.1,h.2.2.trans eRH⟩);have hle:(n<=R.length)=True:=eq_true oO;have htk:List.take n R=R:=gU oO;have hne:¬n=0:=oO;refine bR Tryz.func121 rfl 8 rfl bB ?_;have kp:=kN k [0,2,4];have uU:=GX hle htk hone hne hn0;refine gJ λ ht=>?_;refine gW (gT (k+1) (B:=⟨1,aB,R⟩) (by simp(disch:=omega)only[AM.look,iO,↓reduceIte]) rfl) ?_;simp-dsimp-implicitDefEqProofs only[qO,jR,go_sem,hle,htk,hone,hne,hn0,eq_self,↓reduceIte];refine gW (LD 2 rfl (by rw[hR];exact xF _ _ _)) ?_;refine cZ ?_;have uU:=GX hle htk hone hne hn0;refine kX ?_;refine⟨rfl,?_⟩;rw[eRH];exact SX iV
def bCR(R:List (List AVal))(n:Nat)(f:Nat->List AVal)(id k:Nat)(hn:R.length=n)(hn0:0<n)(hn2:n<=100000)(hone:(R.all λ row=>row.all AM.one)=aB)(hf:∀i,i<n->R[i]? =aA (f i))(hk:id<k):
 Tr aG Γ 120 k [.sl id 0 n] [(id,⟨2,aB,R⟩)] (λ k1 r1 H1=>k1=k+2/\r1= .rd 2 n f/\H1=[(id,⟨2,aB,R⟩)]):=by have hR:R=(aR n).map f:=BA hn hf;obtain⟨RH,eRH⟩:=xE ([(id,⟨2,aB,R⟩)]:aS);refine Tr.mono (mO (kk:=k+2) (V:= .rd 2 n f) (RH:=RH) oO rfl (by rw[eRH];exact jS (by simp only[kC,dTt];omega) rfl) ?_) (λ _ _ _ h=>⟨h.1,h.2.1,h.2.2.trans eRH⟩);have hle:(n<=R.length)=True:=eq_true oO;have htk:List.take n R=R:=gU oO;have hne:¬n=0:=oO;refine bR Tryz.func120 rfl 8 rfl bB ?_;have kp:=kN k [0,2,4];have uU:=GX hle htk hone hne hn0;refine gJ λ ht=>?_;refine gW (gT (k+1) (B:=⟨2,aB,R⟩) (by simp(disch:=omega)only[AM.look,iO,↓reduceIte]) rfl) ?_;simp-dsimp-implicitDefEqProofs only[qO,jR,go_sem,hle,htk,hone,hne,hn0,eq_self,↓reduceIte];refine gW (LD 2 rfl (by rw[hR];exact xF _ _ _)) ?_;refine cZ ?_;have uU:=GX hle htk hone hne hn0;refine kX ?_;refine⟨rfl,?_⟩;rw[eRH];exact SX iV
def bCP(R:List (List AVal))(n:Nat)(f:Nat->List AVal)(id k:Nat)(hn:R.length=n)(hn0:0<n)(hn2:n<=100000)(hone:(R.all λ row=>row.all AM.one)=aB)(hf:∀i,i<n->R[i]? =aA (f i))(hk:id<k):
 Tr aG Γ 122 k [.sl id 0 n] [(id,⟨8,aB,R⟩)] (λ k1 r1 H1=>k1=k+2/\r1= .rd 8 n f/\H1=[(id,⟨8,aB,R⟩)]):=by have hR:R=(aR n).map f:=BA hn hf;obtain⟨RH,eRH⟩:=xE ([(id,⟨8,aB,R⟩)]:aS);refine Tr.mono (mO (kk:=k+2) (V:= .rd 8 n f) (RH:=RH) oO rfl (by rw[eRH];exact jS (by simp only[kC,dTt];omega) rfl) ?_) (λ _ _ _ h=>⟨h.1,h.2.1,h.2.2.trans eRH⟩);have hle:(n<=R.length)=True:=eq_true oO;have htk:List.take n R=R:=gU oO;have hne:¬n=0:=oO;refine bR bQO rfl 8 rfl bB ?_;have kp:=kN k [0,2,4];have uU:=GX hle htk hone hne hn0;refine gJ λ ht=>?_;refine gW (gT (k+1) (B:=⟨8,aB,R⟩) (by simp(disch:=omega)only[AM.look,iO,↓reduceIte]) rfl) ?_;simp-dsimp-implicitDefEqProofs only[qO,jR,go_sem,hle,htk,hone,hne,hn0,eq_self,↓reduceIte];refine gW (LD 2 rfl (by rw[hR];exact xF _ _ _)) ?_;refine cZ ?_;have uU:=GX hle htk hone hne hn0;refine kX ?_;refine⟨rfl,?_⟩;rw[eRH];exact SX iV
def a6F(R:List (List AVal))(f:Nat->List AVal)(id k:Nat)(hk:id<k):
 Tr aG Γ 122 k [.sl id 0 0] [(id,⟨8,aB,R⟩)] (λ k1 r1 H1=>k1=k+2/\r1= .rd 8 0 f/\H1=[(id,⟨8,aB,R⟩)]):=by
 obtain⟨RH,eRH⟩:=xE ([(id,⟨8,aB,R⟩)]:aS);refine Tr.mono (mO (kk:=k+2) (V:= .rd 8 0 f) (RH:=RH) oO rfl (by rw[eRH];exact jS (by simp only[kC,dTt];omega) rfl) ?_) (λ _ _ _ h=>⟨h.1,h.2.1,h.2.2.trans eRH⟩);refine bR bQO rfl 8 rfl bB (aNT 0 rfl fI (λ _=>?_) (λ cap hc1 hc2=>?_));.refine cZ ?_;have kp:=kN k [0,2,4];refine gJ λ ht=>?_;refine gW (LD 2 rfl (VLe.nil 8 f)) (cZ ?_);refine kX ?_;refine⟨rfl,?_⟩;rw[eRH];exact SX iV
 refine cZ ?_;have kp:=kN k [0,2,4];refine gO ?_;refine xJ [.raw (aA 4) ⟨aD (bC aF),k,[],[id]⟩] ?_;refine iA ?_ ?_;.exact LI (e:=89) rfl kRf rfl fI rfl
 refine gJ λ ht=>?_;refine gW (PC 0 rfl) (cZ ?_);refine gO ?_;refine gW (gT k (B:=⟨8,aB,[]⟩) (by simp(disch:=omega)only[AM.look,iO,↓reduceIte]) rfl) ?_;simp-dsimp-implicitDefEqProofs only[qO,jR,go_sem,eq_self,↓reduceIte];refine gW (LD (v:= .rd 8 0 f) 2 rfl (VLe.rd λ i hi=>absurd hi (bU _))) (cZ ?_);refine kX ?_;refine⟨rfl,?_⟩;rw[eRH];exact SX iV
def a5F{f:Nat}{id:Nat}:(nA f s n R).map (λ x=>(x.1,MW id B x.2))=nA f s n R:=by
 induction n generalizing f R with
 |zero=>rfl
 |succ n ih=>simp only[nA,bN];rw[ih];rfl
def aXH{f:Nat}{id:Nat}(h:id<f\/f+n<=id):AR id B (nA f s n R)=nA f s n R:=by unfold AR;rw[RI h,a5F]
def a3L(h:m+6+L.sl.length<=a):(HT m L).map (λ row=>row.map (kY a B))=HT m L:=by unfold HT;rw[kT];refine fR λ g hg=>?_;have:=dX.1 hg;simp only[Function.comp,ouF,bN,bV,kY];rw[iN oO]
attribute [go_sem] aXH a3L
def a2P(L:LSt)(g:Nat):((CP L g).all λ row=>row.all AM.one)=aB:=by rw[aY];intro row h;simp only[CP,dM]at h;obtain⟨t,_,rfl⟩:=h;rfl
def bCQ(L:LSt)(g n:Nat)(m tk k:Nat)(hm:m+6+L.sl.length<=tk)(hk:tk<k)(hg:g<L.sl.length)(hn:(L.sl.getD g []).length=n)(hn0:0<n)(hn2:n<=1000):
 Tr aG Γ 124 k [.sl (m+(6+g)) 0 n] (MH m tk L) (λ k1 r1 H1=>k1=k+2/\r1= .rd 3 n (sf L.st g)/\H1=MH m tk L):=by
 obtain⟨RH,eRH⟩:=xE (MH m tk L:aS);refine Tr.mono (mO (kk:=k+2) (V:= .rd 3 n (sf L.st g)) (RH:=RH) oO rfl (by rw[eRH];exact fX oO oO) ?_) (λ _ _ _ h=>⟨h.1,h.2.1,h.2.2.trans eRH⟩);have hl:(CP L g).length=n:=by rw[EG,hn]
 have hR:CP L g=(aR n).map (sf L.st g):=BA hl (λ i hi=>by rw[XE (by rw[hn];exact hi)];rfl);obtain⟨R,eR⟩:=xE (CP L g);have hle:(n<=(CP L g).length)=True:=eq_true oO;have htk:List.take n (CP L g)=CP L g:=gU oO;have hone:=a2P L g;have hne:¬n=0:=oO;refine bR Tryz.func124 rfl 8 rfl bB ?_;simp only[MH,LH];have kp:=kN k [0,2,4];have uU:=rY hn hle htk hone hne hn0;refine gJ λ ht=>?_;refine gW (gT (k+1) (B:=⟨3,aB,CP L g⟩) (by simp(disch:=omega)only[AM.look,iO,↓reduceIte]) rfl) ?_;simp-dsimp-implicitDefEqProofs only[qO,jR,go_sem,hn,hle,htk,hone,hne,hn0,eq_self,↓reduceIte];refine gW (LD 2 rfl (by rw[hR];exact xF _ _ _)) ?_;refine cZ ?_;have uU:=rY hn hle htk hone hne hn0;refine kX ?_;refine⟨rfl,?_⟩;rw[eRH];simp only[MH,LH];exact SX iV
def SG{id s:Nat}{l:List (List AVal)}{H:aS}:cM id s l []++H=cM id s l H:=by cases l<;>rfl
def aQU{id t f:Nat}(h:id<f\/f+n<=id):zD (cM id t l H) f s n R=zD H f s n R:=by
 cases l with
 |nil=>rfl
 |cons a r=>exact QZ h
attribute [go_sem] aQU
def bIY{id:Nat}{A:Blk}(h1:a≠id)(h2:b≠id)(hid:id<k):
 kZ aG (AM.look ((a,A)::(b,B)::cM id 1 l H)) k 26 (aA (dI id l)) y=appR 1 8 k id l (y.bind (EA (AM.look ((a,A)::(b,B)::cM id 1 l H)))):=
 BE y5 (by rw[GS h1,GS h2,SF];trivial) hid
def aFH{id t:Nat}{B0 B1 B2 B3 B5 B6:Blk}(h1:tk<id)(h2:m+6+n<=tk):
 mE (cM id s l ((m,B0)::(m+1,B1)::(m+2,B2)::(m+3,B3)::(m+5,B5)::(tk,B6)::nA (m+6) t n R)) (xD id l)=(m,B0)::(m+1,B1)::(m+2,B2)::(m+3,B3)::(m+5,B5)::(tk,B6)::nA (m+6) t n R:=by
 refine aAS ?_;simp only[del];repeat rw[iN oO]
 rw[RI oO]
def bAQ(h1:m+6+L.sl.length<=a)(h2:m+6+L.sl.length<=b):(HT m L).map (λ row=>row.map (BS a b))=HT m L:=by unfold HT;rw[kT];refine fR λ g hg=>?_;have:=dX.1 hg;simp only[Function.comp,ouF,bN,bV,BS,sw];rw[iN oO,iN oO]
attribute [go_sem] bIY aFH bAQ
def wgD{k1:Nat}{fr1:Fr}{H1:aS}(hb:kb<=k1:=by omega)(hf:leF fr fr1:=by simp-dsimp-implicitDefEqProofs (disch:=omega)only[go_sem,iO,aQ,↓reduceIte])(hH:IA H H1:=by simp-dsimp-implicitDefEqProofs (disch:=omega)only[go_sem,iO,aQ,↓reduceIte])(h:bdF (kC k1) fr1=aB:=by simp-dsimp-implicitDefEqProofs (disch:=omega)only[go_sem,iO,TC,ltB_iff,aQ,↓reduceIte])(h':oU (kC k1) H1=aB:=by simp-dsimp-implicitDefEqProofs (disch:=omega)only[go_sem,iO,TC,ltB_iff,aQ,↓reduceIte]):WkG kb k fr H k1 fr1 H1:=
 sA hb hf hH h h'
def uM(L:LSt):Nat->Nat->Nat->List Nat
 |0,_,_=>[]
 |f+1,g,c=>if g=0 then []else if(GY L g c).isSome=aB then []else g::uM L f (L.par g).toNat c
def AW{L:LSt}{n c:Nat}(h:Rt0 L n):∀ {f g:Nat},g<L.sl.length->∀x,x∈uM L f g c->0<x/\x<L.sl.length
 |0,_,_,x,hx=>by simp[uM]at hx
 |f+1,g,hg,x,hx=>by
  rw[uM]at hx;split at hx;.simp at hx
  split at hx;.simp at hx
  rcases fO.1 hx with rfl|hx;.exact⟨oO,hg⟩
  have:=h.par g oO hg;exact AW h oO x hx
def AX{L:LSt}{n c:Nat}(h:Rt0 L n):∀ {f g:Nat},g<L.sl.length->(uM L f g c).length<=g
 |0,_,_=>bF _
 |f+1,g,hg=>by
  rw[uM];split;.exact bF _
  split;.exact bF _
  have:=h.par g oO hg;have:=AX h (f:=f) (g:=(L.par g).toNat) (c:=c) oO;simp only[iI];omega
def bBN{l:List Nat}:gR (l++[g])=gR l++[[aD (aE aH (g:Int))]]:=by simp[gR]
def empty(L:LSt)(n c g0:Nat)(hS:Rt0 L n)(hc:c<n)(hg0:g0<L.sl.length)(E:List Nat)(hE:E=uM L L.sl.length g0 c)(m tk k:Nat)(hm:m+6+L.sl.length<=tk)(hk:tk<k):
 Tr aG Γ 161 k [.ptr m 0 0,g0,c] (MH m tk L) (λ k1 r1 H1=>k1=k+1/\r1=dI k (gR E)/\H1=cM k 1 (gR E) (MH m tk L)):=by
 obtain⟨RH,eRH⟩:=xE (cM k 1 (gR E) (MH m tk L):aS);obtain⟨RV,eRV⟩:=xE (dI k (gR E):AVal);refine Tr.mono (mO (kk:=k+1) (V:=RV) (RH:=RH) oO (by rw[eRV];exact aJA (by simp only[kC,dTt];omega)) (by rw[eRH,ON (by simp only[kC,dTt];omega)];exact fX oO oO) ?_) (λ _ _ _ h=>⟨h.1,h.2.1.trans eRV,h.2.2.trans eRH⟩);obtain⟨F,hF⟩:∃F:List Nat->aS,∀l,F l=cM k 1 (gR l) (MH m tk L):=⟨_,λ _=>rfl⟩;have hS2:=hS.shp;have hns:=hS.ns;refine bR Tryz.func161 rfl 35 rfl bB ?_;have kp:=kN k [0,1,2,6,7,9,11,29];refine gO ?_;refine cD (X:=Nat×Nat×List Nat) rfl [0,1,2,6,7,9,11,29] (k+1) (λ x=>[(1,x.1),(7,dI k (gR x.2.2))]) (λ x=>F x.2.2) (λ x=>x.1<L.sl.length/\x.1<x.2.1/\E=x.2.2++uM L x.2.1 x.1 c/\x.2.2.length+x.1<=256) (λ x=>x.2.1) (g0,L.sl.length,[]) ?_ ⟨hg0,hg0,hE,by show 0+g0<=256;omega⟩ ?_;.rw[hF,show gR []=[]from rfl];simp only[MH,LH];refine cZ ?_;exact iC
 rintro⟨g,f,l⟩ ⟨h1,h2,h3,h4⟩;simp only[]at h1 h2 h3 h4;obtain⟨f,rfl⟩:∃f',f=f'+1:=⟨f-1,oO⟩;rw[uM]at h3;rw[hF];have hap:rO (cM k 1 (gR l) []) (MH m tk L) (MH m tk L):=mQ (λ i hi=>by rw[HZ oO];rfl) rfl;simp only[MH,LH];refine cZ ?_;refine vI ?_;refine pN (λ ht=>?_) λ ht=>?_
 .have hg0:g≠0:=oO;rw[iN hg0]at h3;have hng:=hS.ng;obtain⟨hp0,hp1⟩:=hS.par g oO h1;obtain⟨p,hp⟩:∃p:Nat,L.par g=(p:Int):=⟨(L.par g).toNat,oO⟩
  cases hl:GY L g c with
  |some x=>
   rw[hl,iP (show(aA x).isSome=aB from rfl),cX]at h3;have uU:= @SG;refine xJ [.far (.tup [.agg [aD (aE aI x.v),aD (aE aI x.b),aD (aE aI x.x)],aB]) (k+1) (cM k 1 (gR l) []) (MH m tk L) (MH m tk L)] ?_;refine kS (zs ?_) (zs ?_) (zs ?_);.exact λ _=>rfl
   .have:=aGV L n c hS2 hc m tk hm g h1 (k+1) oO (Γ:=Γ);rw[hl]at this;exact this
   simp only[MH,LH];refine cZ ?_;refine gJ λ ht=>?_;have uU:= @SG;refine kX ?_;refine⟨?_,?_⟩;.rw[eRV,h3]
   rw[eRH,h3];simp only[MH,LH];exact SX iV
  |none=>
   rw[hl,iN sS,hp,bW]at h3;have uU:=zA @SG hp;refine xJ [.far (.tup [.agg [aD (aE aI 18446744073709551615),aD (aE aI 18446744073709551615),aD (aE aI 18446744073709551615)],aF]) (k+1) (cM k 1 (gR l) []) (MH m tk L) (MH m tk L)] ?_;refine kS (zs ?_) (zs ?_) (zs ?_);.exact λ _=>rfl
   .have:=aGV L n c hS2 hc m tk hm g h1 (k+1) oO (Γ:=Γ);rw[hl]at this;exact this
   simp only[MH,LH];refine cZ ?_;refine gJ λ ht=>?_;refine⟨(p,f,l++[g]),⟨by show p<L.sl.length;omega,by show p<f;omega,by rw[h3,dA];rfl,by simp only[bT,iI,FM];omega⟩,by show f<f+1;omega,?_⟩;rw[hF,bBN];simp only[MH,LH];refine cZ ?_;exact FI (k+3) k wgD
 have hg0:g=0:=oO;rw[iP hg0,cX]at h3;have uU:=Go.AM.uU;refine kX ?_;refine⟨?_,?_⟩;.rw[eRV,h3]
 rw[eRH,h3];simp only[MH,LH];exact SX iV
def aLK(a b c:Int):Pure aG Γ 78 [.agg [aD (aE aI a),aD (aE aI b),aD (aE aI c)]] (aD (aE aI a)):=by refine cA Tryz.func78 rfl 5 rfl bB rfl λ k=>?_;have kp:=kN k [0,1,2];refine gO ?_;refine cB rfl ⟨_,rfl,bG ?_⟩;rfl
def MV(a b:Int):Int:=if b>a then b else a
def rise1(L:LSt)(g c:Nat):LSt:=match GY L g c with
 |none=>L
 |some x=>L.setS g c {L.sp g c with floor:=MV (L.sp g c).floor x.v}
def aPJ:(rise1 L g c).sl.length=L.sl.length:=by
 unfold rise1;split;.rfl
 exact tH
def bFP{x:Mb}(h:Rt0 L n)(hg:g<L.sl.length)(hc:c<n)(hl:GY L g c=aA x):0<=x.v/\x.v<=18446744073709551615:=by
 rcases XY hg hl with⟨j,h1,h2,rfl⟩|⟨j,h1,h2,h3,h4,rfl⟩;.have:=h.tk j h1;exact⟨this.v0,this.v1⟩
 have:=h.sp j c h2 hc;exact⟨this.2.1,this.2.2.1⟩
def Rt0.rise1(h:Rt0 L n)(hg:g<L.sl.length)(hc:c<n):Rt0 (rise1 L g c) n:=by
 unfold T.rise1;split;.exact h
 rename_i x hl;have hv:=bFP h hg hc hl;obtain⟨a1,a2,a3,a4,a5,a6⟩:=h.sp g c hg hc;refine h.setS hg hc ⟨a1,a2,a3,a4,?_,?_⟩ (λ e=>by subst e;exact h.root c hc);.show 0<=MV _ _;unfold MV;split<;>omega
 show MV _ _<=_;unfold MV;split<;>omega
def UI(L:LSt)(g:Nat):Nat->LSt
 |0=>L
 |j+1=>rise1 (UI L g j) g j
def rgN(L:LSt)(n:Nat):Nat->LSt
 |0=>L
 |i+1=>UI (rgN L n i) i n
def yP(L:LSt)(n:Nat):LSt:=rgN L n L.sl.length
def XM{L:LSt}{n g:Nat}(h:Rt0 L n)(hg:g<L.sl.length):∀ {j:Nat},j<=n->Rt0 (UI L g j) n/\(UI L g j).sl.length=L.sl.length
 |0,_=>⟨h,rfl⟩
 |j+1,hj=>by obtain⟨h1,h2⟩:=XM h hg (j:=j) oO;exact⟨h1.rise1 oO oO,by rw[UI,aPJ,h2]⟩
def PL{L:LSt}{n:Nat}(h:Rt0 L n):∀ {i:Nat},i<=L.sl.length->Rt0 (rgN L n i) n/\(rgN L n i).sl.length=L.sl.length
 |0,_=>⟨h,rfl⟩
 |i+1,hi=>by obtain⟨h1,h2⟩:=PL h (i:=i) oO;obtain⟨h3,h4⟩:=XM h1 (g:=i) oO (aJ n);exact⟨h3,by rw[rgN,h4,h2]⟩
def YD(k:Nat):Kp [0,2,3,4,5,6,11,12,13,14,19,20,21,30] (λ i=>if k<=i then i-k+1 else 0):=oR
def bLL(L:LSt)(n:Nat)(hS:Rt0 L n)(m tk k:Nat)(hm:m+6+L.sl.length<=tk)(hk:tk<k):
 Tr aG Γ 97 k [.ptr m 0 0] (MH m tk L) (λ k1 r1 H1=>k1=k/\r1= .tup []/\H1=MH m tk (yP L n)):=by
 have hR:Rt0 (yP L n) n/\(yP L n).sl.length=L.sl.length:=PL hS (aJ _);have hR2:=hR.2;obtain⟨RH,eRH⟩:=xE (MH m tk (yP L n):aS);refine Tr.mono (mO (kk:=k) (V:= .tup []) (RH:=RH) oO rfl (by rw[eRH];exact fX oO oO) ?_) (λ _ _ _ h=>⟨h.1,h.2.1,h.2.2.trans eRH⟩);obtain⟨F,hF⟩:∃F:Nat->aS,∀i,F i=MH m tk (rgN L n i):=⟨_,λ _=>rfl⟩;refine bR Tryz.func97 rfl 45 rfl bB ?_;simp only[MH,LH];have kp:=kN k [0,2,3,4,5,6,11,12,13,14,19,20,21,30];refine gO ?_;refine cD (X:=Nat) rfl [0,2,3,4,5,6,11,12,13,14,19,20,21,30] k (λ i=>[(13,i)]) (λ i=>F i) (λ i=>i<=L.sl.length) (λ i=>L.sl.length-i) 0 ?_ (bF _) ?_;.rw[hF,rgN];simp only[MH,LH];refine cZ ?_;exact iC
 intro i hi;obtain⟨hM,hMl⟩:=PL hS hi;have hsucc:rgN L n (i+1)=UI (rgN L n i) i n:=rfl;have hlast:i=L.sl.length->yP L n=rgN L n i:=λ e=>by rw[e];rfl
 rw[hF i];obtain⟨M,eM⟩:=xE (rgN L n i);rw[<-eM]at hM hMl hsucc hlast⊢
 have hns:=hS.ns;have hn64:=hS.n64;obtain⟨nl,enl⟩:=xE L.sl.length;rw[<-enl]at hi hlast hMl hm hns⊢
 simp only[MH,LH];have uU:=hMl;refine cZ ?_;by_cases hi2:i<nl
 .have hrow:=hM.rows i oO;have uU:=zA hMl hrow;refine gJ λ ht=>?_;obtain⟨F2,hF2⟩:∃F2:Nat->aS,∀j,F2 j=MH m tk (UI M i j):=⟨_,λ _=>rfl⟩;refine cD (X:=Nat) rfl [0,2,3,4,5,6,11,12,13,14,19,20,21,30] k (λ j=>[(20,j)]) (λ j=>F2 j) (λ j=>j<=n) (λ j=>n-j) 0 ?_ (bF _) ?_;.rw[hF2,UI];simp only[MH,LH];refine cZ ?_;exact iC
  intro j hj;obtain⟨hN,hNl⟩:=XM hM (g:=i) oO hj;rw[hMl]at hNl;have hsucc2:UI M i (j+1)=rise1 (UI M i j) i j:=rfl;have hlast2:j=n->UI M i n=UI M i j:=λ e=>by rw[e]
  rw[hF2 j];obtain⟨N,eN⟩:=xE (UI M i j);rw[<-eN]at hN hNl hsucc2 hlast2⊢
  have hrow2:=hN.rows i oO;simp only[MH,LH];have uU:=zA hNl hrow2;refine cZ ?_;by_cases hj2:j<n
  .have hlst:=aGV N n j hN.shp hj2 m tk oO i oO k hk (Γ:=Γ)
   cases hl:GY N i j with
   |none=>
    rw[hl]at hlst;rw[show rise1 N i j=N by rw[rise1,hl]]at hsucc2;refine gJ λ ht=>?_;refine xJ [.far (.tup [.agg [aD (aE aI 18446744073709551615),aD (aE aI 18446744073709551615),aD (aE aI 18446744073709551615)],aF]) k [] (MH m tk N) (MH m tk N)] ?_;refine FN (zs ?_) (zs ?_) (zs ?_) (zs ?_);.intro q;simp only[MH,LH,fS,hNl]
    .exact hY rfl
    .exact hlst
    simp only[MH,LH];refine cZ ?_;refine gJ λ ht=>?_;refine⟨j+1,oO,oO,?_⟩;rw[hF2,hsucc2];simp only[MH,LH];refine cZ ?_;exact iC
   |some x=>
    rw[hl]at hlst;rw[show rise1 N i j=N.setS i j {N.sp i j with floor:=MV (N.sp i j).floor x.v}by rw[rise1,hl]]at hsucc2;refine gJ λ ht=>?_;refine xJ [.far (.tup [.agg [aD (aE aI x.v),aD (aE aI x.b),aD (aE aI x.x)],aB]) k [] (MH m tk N) (MH m tk N)] ?_;refine FN (zs ?_) (zs ?_) (zs ?_) (zs ?_);.intro q;simp only[MH,LH,fS,hNl]
    .exact hY rfl
    .exact hlst
    simp only[MH,LH];refine cZ ?_;have kp:=YD k;refine gJ λ ht=>?_;refine dlD [.ret (aD (aE aI x.v))] ?_;refine iA ?_ ?_;.exact aLK _ _ _
    refine gO ?_;refine⟨j+1,oO,oO,?_⟩;rw[hF2,hsucc2,OS oO];simp only[fS,spc,MV,hNl];refine cZ ?_;exact iC
  have hj3:j=n:=oO;have kp:=YD k;refine gJ λ ht=>?_;refine⟨i+1,oO,oO,?_⟩;rw[hF,hsucc,hlast2 hj3];simp only[MH,LH];refine cZ ?_;exact iC
 have hi3:i=nl:=oO;rw[hlast hi3]at eRH;have kp:=YD k;refine gJ λ ht=>?_;refine⟨_,rfl,rfl,?_⟩;rw[eRH];simp only[MH,LH];exact SX iV
def mce(s:St):List AVal:=[aD (aE aH s.cpus),aD (aE aI s.credit),.rd 2 s.ng (gf s),.rd 1 s.nk (kf s),.rd 1 s.nu (uf s),.rd 8 s.nt (tf s),.rd 1 s.ns (ssf s),aD (bC aB)]
attribute [go_sem] mce
def Bor.lit{u:Value}:Bor Γ Hc (.lit u) (.lit u):=λ w G ρ H A cv _ _ hv=>by have e:=iB hv;rw[e];exact .lit
def sM{id:Nat}(hB:AM.look Hc id=aA B)(hn:n<=B.rows.length)(hF:∀i,i<n->(F i).length=B.sz)
 (h:∀i,i<n->∃row,B.rows[i]? =aA row/\∀(j:Nat) v v',row[j]? =aA v->(F i)[j]? =aA v'->Bor Γ Hc v v'):Bor Γ Hc (.sl id 0 n) (.rd B.sz n F):=
 Bor.sl hB oO hF λ i row j v v' hi hr hv hv'=>by obtain⟨row',h1,h2⟩:=h i hi;rw[eQ]at hr;rw[h1]at hr;cases hr;exact h2 j v v' hv hv'
def nB{row:List AVal}(h:row.all (λ v=>match v with| .lit _=>aB|_=>aF)=aB):∀(j:Nat) v v',row[j]? =aA v->row[j]? =aA v'->Bor Γ Hc v v':=λ j v v' h1 h2=>by
 rw[h1]at h2;cases h2;have:=iR h h1
 cases v with
 |lit u=>exact Bor.lit
 |_=>cases this
def bDR(hm:m+6+L.sl.length<=tk):Bor Γ (MH m tk L) (.ptr m 0 0) (.rp (mce L.st)):=by
 have l0:AM.look (MH m tk L) m=aA ⟨8,aF,[fS m tk L]⟩:=aLQ;have l1:AM.look (MH m tk L) (m+1)=aA ⟨2,aB,SP L⟩:=by simp only[MH,LH,AM.look];repeat(first|rw[iN oO]|rw[iP trivial])
 have l2:AM.look (MH m tk L) (m+2)=aA ⟨1,aB,TE L⟩:=by simp only[MH,LH,AM.look];repeat(first|rw[iN oO]|rw[iP trivial])
 have l3:AM.look (MH m tk L) (m+3)=aA ⟨1,aB,MP L⟩:=by simp only[MH,LH,AM.look];repeat(first|rw[iN oO]|rw[iP trivial])
 have l5:AM.look (MH m tk L) (m+5)=aA ⟨1,aF,HT m L⟩:=by simp only[MH,LH,AM.look];repeat(first|rw[iN oO]|rw[iP trivial])
 have l4:AM.look (MH m tk L) tk=aA ⟨8,aB,pB L⟩:=by simp only[MH,LH,AM.look];repeat(first|rw[iN oO]|rw[iP trivial])
 have l6:∀g,g<L.sl.length->AM.look (MH m tk L) (m+6+g)=aA ⟨3,aB,CP L g⟩:=λ g hg=>by
  simp only[MH,LH,AM.look];repeat rw[iN oO]
  exact wE hg
 refine Bor.ptr l0 rfl rfl λ j v v' h1 h2=>?_;have b2:Bor Γ (MH m tk L) (.sl (m+1) 0 L.gl.length) (.rd 2 L.gl.length (gf L.st)):=sM l1 (by rw[OB];omega) (λ i _=>rfl) λ i hi=>⟨_,YP hi,nB rfl⟩;have b3:Bor Γ (MH m tk L) (.sl (m+2) 0 L.kl.length) (.rd 1 L.kl.length (kf L.st)):=sM l2 (by rw[NY];omega) (λ i _=>rfl) λ i hi=>⟨_,YH hi,nB rfl⟩;have b4:Bor Γ (MH m tk L) (.sl (m+3) 0 L.ul.length) (.rd 1 L.ul.length (uf L.st)):=sM l3 (by rw[HB];omega) (λ i _=>rfl) λ i hi=>⟨_,NC hi,nB rfl⟩;have b5:Bor Γ (MH m tk L) (.sl tk 0 L.tl.length) (.rd 8 L.tl.length (tf L.st)):=sM l4 (by rw[uX];omega) (λ i _=>rfl) λ i hi=>⟨_,xN hi,nB rfl⟩
 have b6:Bor Γ (MH m tk L) (.sl (m+5) 0 L.sl.length) (.rd 1 L.sl.length (ssf L.st)):=sM l5 (by rw[aKW];omega) (λ i _=>rfl) λ i hi=>⟨_,aKX hi,λ j v v' h1 h2=>by
  match j with
  | 0=>
    simp only[lY,aA.injEq,ssf]at h1 h2
    subst h1;subst h2
    exact sM (l6 i hi) (by rw[EG];exact aJ _) (λ c _=>rfl) λ c hc=>⟨_,XE hc,nB rfl⟩
  |j+1=>simp[ssf]at h1⟩
 match j with
 |0=>cases h1;cases h2;exact Bor.lit
 |1=>cases h1;cases h2;exact Bor.lit
 |2=>cases h1;cases h2;exact b2
 |3=>cases h1;cases h2;exact b3
 |4=>cases h1;cases h2;exact b4
 |5=>cases h1;cases h2;exact b5
 |6=>cases h1;cases h2;exact b6
 |7=>cases h1;cases h2;exact Bor.lit
 |j+8=>simp[fS]at h1
def tfL(L:LSt)(i:Nat):List AVal:=tkc (L.tsk i)
def gfL(L:LSt)(i:Nat):List AVal:=[aD (aE aH (L.par i)),aD (aE aH (L.wt i))]
def kfL(L:LSt)(i:Nat):List AVal:=[aD (aE aH (L.clk i))]
def ufL(L:LSt)(i:Nat):List AVal:=[aD (aE aH (L.cur i))]
def ssL(L:LSt)(g:Nat):List AVal:=[.rd 3 (L.sl.getD g []).length (λ c=>spc (L.sp g c))]
def mcL(L:LSt):List AVal:=[aD (aE aH L.cpus),aD (aE aI L.credit),.rd 2 L.gl.length (gfL L),.rd 1 L.kl.length (kfL L),.rd 1 L.ul.length (ufL L),.rd 8 L.tl.length (tfL L),.rd 1 L.sl.length (ssL L),aD (bC aB)]
attribute [go_sem] tfL gfL kfL ufL ssL mcL
def aZO(L:LSt)(id:Int)(p:Nat)(hp:a0Z L id p)(hso:BJ L)(hnt:L.tl.length<=100000):
 Pure aG Γ 136 [.rd 8 L.tl.length (tfL L),id,.fn 137 []] (.tup [p,(decide (p<L.tl.length/\(L.tsk p).id=id))]):=by
 refine cA Tryz.func136 rfl 49 rfl bB rfl λ k=>?_;have kp:=kN k [0,1,2,6,7,8,9,10,11,17,31];refine gO ?_;refine cD (X:=Nat×Nat) rfl [0,1,2,6,7,8,9,10,11,17,31] k (λ x=>[(9,x.1),(10,x.2)]) (λ x=>[]) (λ x=>x.1<=x.2/\x.2<=L.tl.length/\x.1<=p/\p<=x.2) (λ x=>x.2-x.1) (0,L.tl.length) ?_ ⟨bF _,aJ _,bF _,hp.1⟩ ?_;.refine cZ ?_;exact iC
 rintro⟨i,j⟩ ⟨h1,h2,h3,h4⟩;simp only[]at h1 h2 h3 h4;have e1:aI.wrap ((i:Int)+(j:Int))=(i:Int)+(j:Int):=wrap_u64 oO oO;have e2:((i:Int)+(j:Int)).fdiv (2^min 1 64)=(((i+j)/2:Nat):Int):=by rw[show(2:Int)^min 1 64=2 from rfl,fG _ oO];omega
 obtain⟨h,eh⟩:=xE ((i+j)/2);rw[<-eh]at e2;have e3:aH.wrap (h:Int)=(h:Int):=wrap_i64 oO oO;refine cZ ?_;have uU:=uT e1 e2 e3;refine vI ?_;refine pN (λ ht=>?_) λ ht=>?_
 .refine xJ [.ret (rS (L.tsk h).id id)] ?_;refine iA ?_ ?_;.exact aMS (L.tsk h) id
  refine vI ?_;refine pN (λ ht=>?_) λ ht=>?_
  .have hc:=cmpZ_neg.1 ht;have:h<p:=Nat.lt_of_not_le λ e=>by have:=hp.2.2 h e oO;omega
   refine⟨(h+1,j),⟨by show h+1<=j;omega,h2,by show h+1<=p;omega,h4⟩,by show j-(h+1)<j-i;omega,?_⟩;refine cZ ?_;exact iC
  have hc:¬(L.tsk h).id<id:=λ e=>by have:=cmpZ_neg.2 e;omega
  have:p<=h:=Nat.le_of_not_lt λ e=>hc (hp.2.1 h e);refine⟨(i,h),⟨by show i<=h;omega,by show h<=L.tl.length;omega,h3,this⟩,by show h-i<j-i;omega,?_⟩;refine cZ ?_;exact iC
 have hi:i=p:=oO;subst hi;refine xJ [.ret (rS (L.tsk i).id id)] ?_;refine kS (gZ λ hg=>?_) (gZ λ hg=>?_) (gZ λ hg=>?_);.exact aMS (L.tsk i) id
 .refine cB rfl ⟨_,rfl,bG ?_⟩
  rw[show(rS (L.tsk i).id id==0)=decide (i<L.tl.length/\(L.tsk i).id=id)by
   rw[eY,beq_iff_eq,dTt,WA];constructor;.intro h;exact⟨oO,h⟩
   exact λ h=>h.2]
 refine cB rfl ⟨_,rfl,bG ?_⟩;rw[decide_eq_false (by rintro⟨h,_⟩;omega)]
def a8U(L:LSt)(id r:Int)(hr:GV L id r)(hso:BJ L)(hnt:L.tl.length<=100000):
 Pure aG Γ 76 [.rp (mcL L),id] r:=by
 obtain⟨p,hp⟩:=aFY L hso id
 have hrp:r=if p<L.tl.length/\(L.tsk p).id=id then(p:Int)else-1:=by
  rcases hr with⟨rfl,h⟩|⟨i,h1,rfl,h2⟩;.rw[iN (λ e=>h p e.1 e.2)]
  have:p=i:=by
   rcases kR p i with hc|hc|hc;.have:=hp.2.2 p (aJ _) oO;have:=hso p i hc h1;omega
   .exact hc
   have:=hp.2.1 i hc;omega
  subst this;rw[iP ⟨h1,h2⟩]
 refine cA Tryz.func76 rfl 20 rfl bB rfl λ k=>?_;have kp:=kN k [0,1,4,5,6,18];refine gO ?_;refine xJ [.ret (.tup [p,(decide (p<L.tl.length/\(L.tsk p).id=id))])] ?_;refine iA ?_ ?_;.exact aZO L id p hp hso hnt
 refine vI ?_;refine pN (λ ht=>?_) λ ht=>?_;.refine cB rfl ⟨_,rfl,bG ?_⟩;rw[hrp,iN oO]
 refine cB rfl ⟨_,rfl,bG ?_⟩;rw[hrp,iP oO]
def aWK(L:LSt)(n c:Nat)(hS:Shp L n)(hc:c<n):∀(f g:Nat),g<L.sl.length->L.sl.length-g<=f→
 Pure aG Γ 77 [.rp (mcL L),g,c] (resL (iU L f g c)):=by
 obtain⟨hng,hrw,hnt,hns,htid,hspv⟩:=id hS;intro f
 induction f with
 |zero=>intro g hgS hf;omega
 |succ f ih=>
 intro g hgS hf;obtain⟨RV,eRV⟩:=xE (resL (iU L (f+1) g c));rw[<-eRV];refine cA Tryz.func77 rfl 102 rfl bB (by rw[eRV];exact aKN _) λ k=>?_;have kp:=kN k [0,1,2,6,7,8,9,10,12,13,15,22,23,24,25,41,60,74,82];refine gO ?_;refine cD (X:=Nat) rfl [0,1,2,6,7,8,9,10,12,13,15,22,23,24,25,41,60,74,82] (k+3) (λ i=>[(24,i)]) (λ i=>[(k+2,smb (lT L g c i)),(k+1,bst (lT L g c i)),(k,MU 0 0 0)]) (λ i=>i<=L.tl.length) (λ i=>L.tl.length-i) 0 ?_ (bF _) ?_;.rw[show lT L g c 0=aC from rfl];have uU:=zA @bst.eq_1 @smb.eq_1;refine cZ ?_;exact iC
 intro i hi;refine cZ ?_;have e1:i<L.tl.length->aI.wrap (L.tsk i).id=(L.tsk i).id:=λ h=>by have:=htid i h;exact wrap_u64 oO oO
 refine vI ?_;refine zq5 (aOC λ ht ht hg hg=>?_) (aOC λ ht ht hg hg=>?_) (aOC λ ht ht hg hg=>?_) (qS λ ht ht hg=>?_) (rX λ ht=>?_)
 .have e1':=e1 oO;have hx:=htid i oO;have uU:=e1';refine xJ [.gen (.tup []) (k+5) [(k+1,bst (lT L g c i)),(k+2,smb (lT L g c i))] [(k+1,bst (GZ (lT L g c i) (tmb (L.tsk i)))),(k+2,smb (GZ (lT L g c i) (tmb (L.tsk i))))]] ?_;refine iA ?_ ?_;.exact YA (k+4) (k+1) (k+2) (lT L g c i) (tmb (L.tsk i)) oO oO oO hx.2.2 (by show(0:Int)<=1;omega)
  have uU:=Go.AM.uU;refine gO ?_;refine⟨i+1,oO,oO,?_⟩;rw[aLW (takes_iff.2 ⟨by assumption,by assumption,by assumption⟩)];refine cZ ?_;exact iC
 iterate 3
  · refine⟨i+1,oO,oO,?_⟩
    rw[aLX (by rw[takes_iff];rintro⟨a1,a2,a3⟩;first|omega|(simp_all;done))]
    refine cZ ?_
    exact iC
 have hi':i=L.tl.length:=oO;subst hi';clear hi e1;refine cD (X:=Nat) rfl [0,1,2,6,7,8,9,10,12,13,15,22,23,24,25,41,60,74,82] (k+3) (λ h=>[(13,h)]) (λ h=>[(k+2,smb (lS L (λ h=>iU L f h c) g c (h-(g+1)))),(k+1,bst (lS L (λ h=>iU L f h c) g c (h-(g+1)))),(k,MU 0 0 0)]) (λ h=>g+1<=h/\h<=L.sl.length) (λ h=>L.sl.length-h) (g+1) ?_ ⟨aJ _,hgS⟩ ?_;.rw[TT,lS];refine cZ ?_;exact iC
 rintro h ⟨h1,h2⟩;obtain⟨o,eo⟩:=xE (lS L (λ h=>iU L f h c) g c (h-(g+1)));rw[<-eo];refine cZ ?_;refine vI ?_;refine kS (gB λ ht ht=>?_) (gB λ ht ht=>?_) (rX λ ht=>?_);.refine⟨h+1,⟨oO,oO⟩,oO,?_⟩;rw[NO h1 (by rintro⟨a1,_⟩;omega),<-eo];refine cZ ?_;exact iC
 .have hr:=hrw h oO;have e2:aI.wrap (h:Int)=(h:Int):=wrap_u64 oO oO;obtain⟨q,eq⟩:=xE (iU L f h c);obtain⟨q0,q1,q2,hq⟩:∃q0 q1 q2,mbc q=[.lit (.int .u64 q0),.lit (.int .u64 q1),.lit (.int .u64 q2)]:=⟨_,_,_,NL q⟩;have uU:=zA @resL.eq_1 hq;refine xJ [.ret (resL q)] ?_;refine iA ?_ ?_;.have:=ih h oO oO;rw[<-eq]at this;unfold resL at this;rw[hq]at this;exact this
  have uU:=zA e2 hr;refine vI ?_;refine pN (λ ht=>?_) λ ht=>?_
  .refine xJ [.gen (.tup []) (k+5) [(k+1,bst o),(k+2,smb o)] [(k+1,bst (GZ o ⟨(L.sp h c).v,1,(h:Int)⟩)),(k+2,smb (GZ o ⟨(L.sp h c).v,1,(h:Int)⟩))]] ?_;refine iA ?_ ?_;.exact YA (k+4) (k+1) (k+2) o ⟨(L.sp h c).v,1,(h:Int)⟩ oO oO oO (hspv h c oO hc) (bY _)
   have uU:=Go.AM.uU;refine gO ?_;refine⟨h+1,⟨oO,oO⟩,oO,?_⟩;rw[aLZ h1 oO (by rw[<-eq];assumption),<-eo];refine cZ ?_;exact iC
  refine⟨h+1,⟨oO,oO⟩,oO,?_⟩;rw[NO h1 (by rw[<-eq];rintro⟨_,a1⟩;simp_all),<-eo];have uU:=Go.AM.uU;refine cZ ?_;exact iC
 have hh:h=L.sl.length:=oO;have eo':o=iU L (f+1) g c:=by rw[eo,hh];rfl
 rw[<-eo']at eRV;clear eo eo';obtain⟨q0,q1,q2,hq,hq'⟩:∃q0 q1 q2,bst o=MU q0 q1 q2/\mbc o=[.lit (.int .u64 q0),.lit (.int .u64 q1),.lit (.int .u64 q2)]:=⟨_,_,_,aNM o,NL o⟩;rw[hq];have uU:= @smb.eq_1;refine RE [] ?_;have uU:= @smb.eq_1;refine kX ?_;exact bG (by rw[eRV,resL,hq'])
def bFQ(L:LSt)(n c g:Nat)(hS:Shp L n)(hc:c<n)(hg:g<L.sl.length):
 Pure aG Γ 77 [.rp (mcL L),g,c] (resL (GY L g c)):=
 aWK L n c hS hc L.sl.length g hg oO
def bBP(L:LSt)(n c:Nat)(hS:Shp L n)(hc:c<n)(h0:0<L.sl.length):
 Pure aG Γ 170 [.rp (mcL L),c] (yE L L.sl.length 0 c):=by
 obtain⟨RV,eRV⟩:=xE (aD (.int .i64 (yE L L.sl.length 0 c)));rw[<-eRV];refine cA Tryz.func170 rfl 28 rfl bB (by rw[eRV];rfl) λ k=>?_;have kp:=kN k [0,1,4,5,6,7,15,18];refine gO ?_;refine cD (X:=Nat×Nat) rfl [0,1,4,5,6,7,15,18] k (λ x=>[(5,x.1)]) (λ x=>[]) (λ x=>x.1<L.sl.length/\L.sl.length-x.1<=x.2/\yE L x.2 x.1 c=yE L L.sl.length 0 c) (λ x=>x.2) (0,L.sl.length) ?_ ⟨h0,aJ _,rfl⟩ ?_;.refine cZ ?_;exact iC
 rintro⟨g,f⟩ ⟨h1,h2,h3⟩;simp only[]at h1 h2 h3;obtain⟨f,rfl⟩:∃f',f=f'+1:=⟨f-1,oO⟩;rw[yE]at h3;rw[<-h3]at eRV;refine cZ ?_
 cases hl:GY L g c with
 |none=>
  rw[hl]at eRV;simp only[]at eRV;refine gO ?_;refine xJ [.ret (.tup [.agg [aD (aE aI 18446744073709551615),aD (aE aI 18446744073709551615),aD (aE aI 18446744073709551615)],aF])] ?_;refine iA ?_ ?_;.have:=bFQ L n c g hS hc h1 (Γ:=Γ);rw[hl]at this;exact this
  refine gJ λ ht=>?_;refine kX ?_;exact bG (by rw[eRV])
 |some x=>
  rw[hl]at eRV;simp only[]at eRV;have hx:=XY h1 hl
  have hxx:0<=x.x/\x.x<=65535:=by
   rcases hx with⟨j,h4,h5,rfl⟩|⟨h,h4,h5,h6,h7,rfl⟩;.have:=hS.tid j h4;exact⟨this.1,this.2.1⟩
   have:=hS.ns;exact⟨by show(0:Int)<=(h:Int);omega,by show(h:Int)<=65535;omega⟩
  have e1:aH.wrap x.x=x.x:=wrap_i64 oO oO;have uU:=e1;refine gO ?_;refine xJ [.ret (.tup [.agg [aD (aE aI x.v),aD (aE aI x.b),aD (aE aI x.x)],aB])] ?_;refine iA ?_ ?_;.have:=bFQ L n c g hS hc h1 (Γ:=Γ);rw[hl]at this;exact this
  refine vI ?_;refine WS (gB λ ht ht=>?_) (gB λ ht ht=>?_);.have uU:=e1;refine kX ?_;exact bG (by rw[eRV,iP oO])
  rcases hx with⟨j,h4,h5,rfl⟩|⟨h,h4,h5,h6,h7,rfl⟩;.exact absurd rfl (by assumption)
  refine⟨(h,f),⟨h5,oO,?_⟩,by show f<f+1;omega,?_⟩;.rw[<-h3,hl];rfl
  refine cZ ?_;exact iC
def a1R(L:LSt)(c:Int)(hnt:L.tl.length<=100000):Pure aG Γ 173 [.rp (mcL L),c] (JR L c L.tl.length):=by
 obtain⟨RV,eRV⟩:=xE (aD (.int .i64 (JR L c L.tl.length)));rw[<-eRV];refine cA Tryz.func173 rfl 32 rfl bB (by rw[eRV];rfl) λ k=>?_;have kp:=kN k [0,1,4,5,7,12,13,14,15,25];refine gO ?_;refine cD (X:=Nat) rfl [0,1,4,5,7,12,13,14,15,25] k (λ i=>[(14,i),(5,(JR L c i))]) (λ i=>[]) (λ i=>i<=L.tl.length) (λ i=>L.tl.length-i) 0 ?_ (bF _) ?_;.rw[JR];refine cZ ?_;exact iC
 intro i hi;have hw1:(L.tsk i).ready=aB/\(L.tsk i).cpu=c->JR L c (i+1)=aH.wrap (JR L c i+(L.tsk i).weight):=λ h=>by rw[JR,iP h]
 have hw2:¬((L.tsk i).ready=aB/\(L.tsk i).cpu=c)->JR L c (i+1)=JR L c i:=λ h=>by rw[JR,iN h]
 obtain⟨w,ew⟩:=xE (JR L c i);rw[<-ew]at hw1 hw2;rw[<-ew];refine cZ ?_;refine vI ?_;refine FN (qS λ ht ht hg=>?_) (qS λ ht ht hg=>?_) (qS λ ht ht hg=>?_) (rX λ ht=>?_);.refine⟨i+1,oO,oO,?_⟩;rw[hw1 ⟨by assumption,by assumption⟩];refine cZ ?_;exact iC
 iterate 2
  · refine⟨i+1,oO,oO,?_⟩
    rw[hw2 (by rintro⟨a1,a2⟩;first|omega|(simp_all;done))]
    refine cZ ?_
    exact iC
 have hi':i=L.tl.length:=oO;subst hi';refine kX ?_;exact bG (by rw[eRV,ew])
structure Opn where
 kind:Int
 cpu:Int
 task:Int
 group:Int
 weight:Int
 to:Int
 ticks:Int
 mask:Int
def gS(o:Opn):List AVal:=[aD (aE bM o.kind),aD (aE aH o.cpu),aD (aE aH o.task),aD (aE aH o.group),aD (aE aH o.weight),aD (aE aH o.to),aD (aE aH o.ticks),aD (aE aI o.mask)]
attribute [go_sem] gS
def UD:MP {L with ul:=L.ul.set c x}=(MP L).set c [x]:=by simp[MP,jO,inc]
def LSt.setU (L:LSt)(c:Nat)(x:Int):LSt:={L with ul:=L.ul.set c x}
def a7R:MH m tk (L.setU c x)=(m,⟨8,aF,[fS m tk L]⟩)::(m+1,⟨2,aB,SP L⟩)::(m+2,⟨1,aB,TE L⟩)::(m+3,⟨1,aB,(MP L).set c [x]⟩)::(m+5,⟨1,aF,HT m L⟩)::(tk,⟨8,aB,pB L⟩)::nA (m+6) 3 L.sl.length (CP L):=by
 rw[MH,LH,LSt.setU,UD];have e:fS m tk {L with ul:=L.ul.set c x}=fS m tk L:=by simp[fS]
 rw[e];rfl
def aBG{d:Nat}(hc:c<L.ul.length):(L.setU c x).cur d=if d=c then x else L.cur d:=by
 unfold LSt.setU LSt.cur;simp only[aU,dS];by_cases h:d=c;.subst h;simp[hc]
 rw[iN (Ne.symm h),iN h]
def Rt0.setU(h:Rt0 L n)(hc:c<n)(hx:x=0\/∃j,j<L.tl.length/\(L.tsk j).ready=aB/\(L.tsk j).cpu=c/\(L.tsk j).id=x):Rt0 (L.setU c x) n:=by
 refine⟨h.n1,h.n64,h.cpus,h.cr0,h.cr,h.ng,h.ns1,h.ns,h.nk,by show(L.ul.set c x).length=n;rw[jF];exact h.nu,h.rows,h.nt,h.par,h.par0,h.wt,h.clk,h.sp,h.root,λ i hi=>by have t:=h.tk i hi;exact⟨t.id1,t.id2,t.g0,t.g1,t.c0,t.c1,t.e,t.v0,t.v1,t.r0,t.m0,t.m1,t.m2,t.m3⟩,h.sorted,λ d hd=>?_⟩;rw[aBG (by rw[h.nu];exact hc)];by_cases e:d=c;.subst e;rw[iP rfl];exact hx
 rw[iN e];exact h.cur d hd
def kM(a e:Int):AVal:= .tup [aD (aE aH a),aD (aE aH e)]
def aLU{m tk:Nat}{L:LSt}(hm:m+6+L.sl.length<=tk):∀(loc:aS),(∀x,x∈loc->tk<x.1)->∀id B,AM.look (MH m tk L) id=aA B->AM.look (loc++MH m tk L) id=aA B
 |[],_,id,B,h=>h
 |(j,B0)::r,hl,id,B,h=>by have h1:=oT (show fN (MH m tk L) id=aB by simp[fN,h]);have h2:=hl (j,B0) (List.mem_cons_self ..);simp only[bA,AM.look];rw[iN (by simp only at h2;omega)];exact aLU hm r (λ x hx=>hl x (dZ _ hx)) id B h
def tZ(hm:m+6+L.sl.length<=tk)(hk:tk<k){g:Nat->Nat}(hg:∀i,i<k->g i=0):nub (((MH m tk L).map (·.1)).map g)=[0]:=
 aBZ (by simp[MH]) λ x hx=>hg x (by simp only[dM]at hx;obtain⟨y,hy,rfl⟩:=hx;obtain⟨B,hB⟩:=DF hy;have:=oT (show fN (MH m tk L) y.1=aB by simp[fN,hB]);omega)
def TD{o:Oper}{ev:Operand->Option AVal}{f:Operand}{g:FuncId}{v:Value}(hm:m+6+L.sl.length<=tk)
 (ho:o.op= .call {callee:= .value f,args:=args,argTypes:=ty}) (hg:aX P g=aB) (hf:ev f=aA (.fn g [])) (ha:qH ev args.toList=aA (.ptr m 0 0::vs)) (hv:(vs.all λ v=>match v with| .lit _=>aB|_=>aF)=aB)
 (hl:∀x,x∈loc->tk<x.1) (hp:Pure P Γ g (.rp (mcL L)::vs) (.lit v)) (hN:NM=(MH m tk L).map (·.1)):AM.Good P Γ o ev (AM.look (loc++MH m tk L)) k ⟨.lit v,k,[],NM⟩:=by
 subst hN
 have hb:BorL Γ (MH m tk L) vs vs:=by
  clear ha hp
  induction vs with
  |nil=>exact .nil
  |cons x r ih=>
   simp only[gI,aO]at hv;refine .cons ?_ (ih hv.2)
   cases x with
   |lit u=>exact Bor.lit
   |_=>cases hv.1
 exact aKK ho hg hf ha (.cons (bDR hm) hb) (aLU hm loc hl) rfl hp
structure Fwd (L L':LSt):Prop where
 cpus:L'.cpus=L.cpus
 credit:L'.credit=L.credit
 ns:L'.sl.length=L.sl.length
 par:∀g,L'.par g=L.par g
 clk:∀c,L.clk c<=L'.clk c
 fl:∀g c,(L.sp g c).floor<=(L'.sp g c).floor
 nt:L'.tl.length<=L.tl.length+1
 w0:L'.wt 0=L.wt 0
def fZ (L:LSt):Fwd L L:=⟨rfl,rfl,rfl,λ _=>rfl,λ _=>bY _,λ _ _=>bY _,oO,rfl⟩
def OpOk(Γ:dW)(f:FuncId)(L:LSt)(n:Nat)(o:Opn)(m tk k:Nat):Prop:=
 ∃ L' a e tk' k',Rt0 L' n/\(Fwd L L'/\(e=0\/L'=L))/\m+6+L.sl.length<=tk'/\(tk'<k'/\(tk'=tk\/k<=tk'))/\k<=k'∧
   Tr aG Γ f k [.ptr m 0 0,.agg (gS o)] (MH m tk L) (λ k1 r1 H1=>k1=k'/\r1=kM a e/\H1=MH m tk' L')
def pick(L:LSt)(n:Nat)(hS:Rt0 L n)(o:Opn)(m tk k:Nat)(hm:m+6+L.sl.length<=tk)(hk:tk<k):
 OpOk Γ 92 L n o m tk k:=by
 by_cases hc:0<=o.cpu/\o.cpu<L.cpus
 .obtain⟨c,hcc⟩:∃c:Nat,o.cpu=(c:Int):=⟨o.cpu.toNat,oO⟩;have hcp:=hS.cpus;have hcn:c<n:=oO;obtain⟨F,hF⟩:=xE (yE L L.sl.length 0 c);have hfm:=QV (L:=L) (c:=c) (f:=L.sl.length) (g:=0) (by have:=hS.ns1;omega);rw[<-hF]at hfm;refine⟨L.setU c F,F,0,tk,k,hS.setU hcn (by rcases hfm with h|⟨j,h1,h2,h3,h4⟩;exact .inl h;exact .inr ⟨j,h1,h2,h3,h4.symm⟩),⟨⟨rfl,rfl,rfl,λ _=>rfl,λ _=>bY _,λ _ _=>bY _,mG _,rfl⟩,.inl rfl⟩,hm,⟨hk,.inl rfl⟩,aJ _,?_⟩;have hfp:=bBP L n c hS.shp hcn hS.ns1 (Γ:=Γ);rw[<-hF]at hfp;have hLs:(L.setU c F).sl.length=L.sl.length:=rfl;obtain⟨RH,eRH⟩:=xE (MH m tk (L.setU c F):aS);obtain⟨RV,eRV⟩:=xE (kM F 0:AVal);refine uG (k:=k) eRV eRH rfl (fX oO oO) (bR Tryz.func92 rfl 32 rfl bB ?_);simp only[MH,LH];have hnu:=hS.nu;obtain⟨NM,eNM⟩:=xE ((MH m tk L).map (·.1));have hNM:nub (NM.map (λ i=>if k<=i then i-k+1 else 0))=[0]:=by rw[eNM];exact tZ hm hk (λ i hi=>iN oO)
  have hcpu:=cpu L o.cpu m tk (k+1) hm oO (Γ:=Γ);rw[decide_eq_true hc,hcc]at hcpu;have kp:Kp [0,1,3,4,5,10] (λ i=>if k<=i then i-k+1 else 0):=oR;have uU:=hcc;refine fW ?_;refine mS [.far (aD (bC aB)) (k+1) [(k,⟨8,aB,[gS o]⟩)] (MH m tk L) (MH m tk L)] ?_;refine kS (zs ?_) (zs ?_) (zs ?_);.intro i;simp only[MH,LH,fS,gS,hcc,bA,aZ]
  .exact hY rfl
  simp only[MH,LH];refine fM ?_;have uU:=zA hcc hNM;refine fC λ ht=>?_;refine RD [.raw (aA 21) ⟨aD (aE aH F),k+1,[],NM⟩] ?_;refine iA ?_ ?_;.exact TD (loc:=[(k,⟨8,aB,_⟩)]) hm rfl kRf rfl rfl rfl (λ x hx=>by rw[tA.1 hx];exact hk) hfp eNM
  have hset:((MP L).set c [F])[c]? =aA [aD (aE aH F)]:=cE (by rw[HB];omega);have uU:=zA hcc hset;refine fW ?_;have uU:=zA hcc hset;refine kX ?_;refine⟨?_,?_⟩;.rw[eRV];rfl
  rw[eRH,a7R];simp only[fS];exact mX iV
 refine⟨L,0,300,tk,k,hS,⟨fZ L,dP rfl⟩,hm,⟨hk,dE rfl⟩,aJ _,?_⟩;obtain⟨RH,eRH⟩:=xE (MH m tk L:aS);obtain⟨RV,eRV⟩:=xE (kM 0 300:AVal);refine uG (k:=k) eRV eRH rfl (fX oO oO) (bR Tryz.func92 rfl 32 rfl bB ?_);simp only[MH,LH];have hcpu:=cpu L o.cpu m tk (k+1) hm oO (Γ:=Γ);rw[decide_eq_false hc]at hcpu;have kp:Kp [0,1,3,4,5,10] (λ i=>if k<=i then i-k+1 else 0):=oR;refine fW ?_;refine mS [.far (aD (bC aF)) (k+1) [(k,⟨8,aB,[gS o]⟩)] (MH m tk L) (MH m tk L)] ?_;refine kS (zs ?_) (zs ?_) (zs ?_);.intro i;simp only[MH,LH,fS,gS,bA,aZ]
 .exact hY rfl
 simp only[MH,LH];refine fM ?_;refine fC λ ht=>?_;have uU:=Go.AM.uU;refine kX ?_;refine⟨?_,?_⟩;.rw[eRV];rfl
 rw[eRH];simp only[MH,LH];exact mX iV
def Rt0.setT(h:Rt0 L n)(hi:i<L.tl.length)(ht:TkOk L n t)(hid:t.id=(L.tsk i).id)(hcur:∀c,c<n->L.cur c=t.id->(L.tsk i).ready=aB->(L.tsk i).cpu=c->t.ready=aB/\t.cpu=c):Rt0 (L.setT i t) n:=by
 refine⟨h.n1,h.n64,h.cpus,h.cr0,h.cr,h.ng,h.ns1,h.ns,h.nk,h.nu,h.rows,by rw[qV];exact h.nt,h.par,h.par0,h.wt,h.clk,h.sp,h.root,λ j hj=>?_,λ a b hab hb=>?_,λ c hc=>?_⟩
 .rw[qV]at hj;rw[HI hi];have key:∀x,TkOk L n x->TkOk (L.setT i t) n x:=λ x q=>⟨q.id1,q.id2,q.g0,q.g1,q.c0,q.c1,q.e,q.v0,q.v1,q.r0,q.m0,q.m1,q.m2,q.m3⟩;split;.exact key _ ht
  exact key _ (h.tk j hj)
 .rw[qV]at hb
  have key:∀j,j<L.tl.length->((L.setT i t).tsk j).id=(L.tsk j).id:=λ j hj=>by
   rw[HI hi];split;.rename_i e;rw[e,hid]
   rfl
  rw[key a oO,key b hb];exact h.sorted a b hab hb
 rcases h.cur c hc with h1|⟨j,h1,h2,h3,h4⟩;.exact dE h1
 refine dP ⟨j,by rw[qV];exact h1,?_⟩;rw[HI hi];by_cases e:j=i;.subst e;rw[iP rfl];have:=hcur c hc (by rw[<-h4,hid]) h2 h3;exact⟨this.1,this.2,by rw[hid];exact h4⟩
 rw[iN e];exact⟨h2,h3,h4⟩
def Fwd.setT:Fwd L (L.setT i t):=⟨rfl,rfl,rfl,λ _=>rfl,λ _=>bY _,λ _ _=>bY _,by rw[qV];omega,rfl⟩
def Tk.run (t:Tk)(v r w:Int):Tk:={t with v:=v,r:=r,weight:=w}
def AS(h:Rt0 L n)(d:Int):(GV L d (-1))\/∃i:Nat,i<L.tl.length/\(L.tsk i).id=d/\GV L d (i:Int):=by
 obtain⟨r,hr⟩:=aMR L d;rcases id hr with⟨h1,h2⟩|⟨i,h1,h2,h3⟩;.exact dE (dE ⟨rfl,h2⟩)
 exact dP ⟨i,h1,h3,dP ⟨i,h1,rfl,h3⟩⟩
def NX(k:Nat):Kp [0,1,3,4,5,6,7,8,10,15,25] (λ i=>i-k):=oR
def aUJ(L:LSt)(n:Nat)(hS:Rt0 L n)(o:Opn)(m tk k:Nat)(hm:m+6+L.sl.length<=tk)(hk:tk<k):OpOk Γ 93 L n o m tk k:=by
 have hnt:=hS.nt;by_cases h1:1<=o.task/\o.task<=65535;rotate_left
 .refine⟨L,0,301,tk,k,hS,⟨fZ L,dP rfl⟩,hm,⟨hk,dE rfl⟩,aJ _,?_⟩;obtain⟨RH,eRH⟩:=xE (MH m tk L:aS);obtain⟨RV,eRV⟩:=xE (kM 0 301:AVal);refine uG (k:=k) eRV eRH rfl (fX oO oO) (bR Tryz.func93 rfl 55 rfl bB ?_);simp only[MH,LH];have kp:=NX k;refine fW ?_;refine mS [.ret aF] ?_;refine iA ?_ ?_;.have:=LQ o.task (Γ:=Γ);rw[decide_eq_false h1]at this;exact this
  refine fC λ ht=>?_;refine kX ?_;refine⟨?_,?_⟩;.rw[eRV];rfl
  rw[eRH];simp only[MH,LH];exact mX iV
 by_cases h2:1<=o.weight/\o.weight<=65536;rotate_left
 .refine⟨L,0,2,tk,k,hS,⟨fZ L,dP rfl⟩,hm,⟨hk,dE rfl⟩,aJ _,?_⟩;obtain⟨RH,eRH⟩:=xE (MH m tk L:aS);obtain⟨RV,eRV⟩:=xE (kM 0 2:AVal);refine uG (k:=k) eRV eRH rfl (fX oO oO) (bR Tryz.func93 rfl 55 rfl bB ?_);simp only[MH,LH];have kp:=NX k;refine fW ?_;refine mS [.ret aB] ?_;refine iA ?_ ?_;.have:=LQ o.task (Γ:=Γ);rw[decide_eq_true h1]at this;exact this
  refine fC λ ht=>?_;refine mS [.ret aF] ?_;refine iA ?_ ?_;.have:=xU o.weight (Γ:=Γ);rw[decide_eq_false h2]at this;exact this
  refine fC λ ht=>?_;refine kX ?_;refine⟨?_,?_⟩;.rw[eRV];rfl
  rw[eRH];simp only[MH,LH];exact mX iV
 have hf:∀r,GV L o.task r->_:=λ r hr=>find L o.task r hr hS.sorted oO m tk (k+1) hm oO (Γ:=Γ);rcases AS hS o.task with hr|⟨i,hi,hid,hr⟩
 .refine⟨L,0,6,tk,k,hS,⟨fZ L,dP rfl⟩,hm,⟨hk,dE rfl⟩,aJ _,?_⟩;obtain⟨RH,eRH⟩:=xE (MH m tk L:aS);obtain⟨RV,eRV⟩:=xE (kM 0 6:AVal);refine uG (k:=k) eRV eRH rfl (fX oO oO) (bR Tryz.func93 rfl 55 rfl bB ?_);simp only[MH,LH];have kp:=NX k;refine fW ?_;refine mS [.ret aB] ?_;refine iA ?_ ?_;.have:=LQ o.task (Γ:=Γ);rw[decide_eq_true h1]at this;exact this
  refine fC λ ht=>?_;refine mS [.ret aB] ?_;refine iA ?_ ?_;.have:=xU o.weight (Γ:=Γ);rw[decide_eq_true h2]at this;exact this
  refine fC λ ht=>?_;have hfc:=hf (-1) hr;refine mS [.far (aD (aE aH (-1))) (k+1) [(k,⟨8,aB,[gS o]⟩)] (MH m tk L) (MH m tk L)] ?_;refine kS (zs ?_) (zs ?_) (zs ?_);.intro i;simp only[MH,LH,fS,gS,bA,aZ]
  .exact hY rfl
  simp only[MH,LH];refine fM ?_;refine fC λ ht=>?_;refine kX ?_;refine⟨?_,?_⟩;.rw[eRV];rfl
  rw[eRH];simp only[MH,LH];exact mX iV
 have hfc:=hf i hr;have hT:=hS.tk i hi;have hTe:=hT.e;simp only[qI,dTt]at hTe;refine⟨L.setT i ((L.tsk i).run (L.tsk i).v 0 o.weight),0,0,tk,k,hS.setT hi ⟨hT.id1,hT.id2,hT.g0,hT.g1,hT.c0,hT.c1,by simp[qI,Tk.run];omega,hT.v0,hT.v1,bY _,hT.m0,hT.m1,hT.m2,hT.m3⟩ rfl (λ c _ _ h3 h4=>⟨h3,h4⟩),⟨Fwd.setT,dE rfl⟩,hm,⟨hk,dE rfl⟩,aJ _,?_⟩;have hLs:(L.setT i ((L.tsk i).run (L.tsk i).v 0 o.weight)).sl.length=L.sl.length:=rfl;obtain⟨RH,eRH⟩:=xE (MH m tk (L.setT i ((L.tsk i).run (L.tsk i).v 0 o.weight)):aS);obtain⟨RV,eRV⟩:=xE (kM 0 0:AVal);refine uG (k:=k) eRV eRH rfl (fX oO oO) (bR Tryz.func93 rfl 55 rfl bB ?_);simp only[MH,LH];have kp:=NX k;refine fW ?_;refine mS [.ret aB] ?_;refine iA ?_ ?_;.have:=LQ o.task (Γ:=Γ);rw[decide_eq_true h1]at this;exact this
 refine fC λ ht=>?_;refine mS [.ret aB] ?_;refine iA ?_ ?_;.have:=xU o.weight (Γ:=Γ);rw[decide_eq_true h2]at this;exact this
 refine fC λ ht=>?_;refine mS [.far (aD (aE aH (i:Int))) (k+1) [(k,⟨8,aB,[gS o]⟩)] (MH m tk L) (MH m tk L)] ?_;refine kS (zs ?_) (zs ?_) (zs ?_);.intro i;simp only[MH,LH,fS,gS,bA,aZ]
 .exact hY rfl
 simp only[MH,LH];refine fM ?_;have kp:Kp [0,1,3,4,5,6,7,8,10,15,25] (λ i=>if k<=i then i-k+1 else 0):=oR;refine fC λ ht=>?_;refine RD [.ret (enc (L.tsk i).v (L.tsk i).r (L.tsk i).weight),.ret (.tup [enc (L.tsk i).v 0 o.weight,(0:Int)])] ?_;refine kS (zs ?_) (zs ?_) (zs ?_);.exact qZ _ _ _ oO oO
 .exact ME _ _ _ _ hT.e h2.1 h2.2
 refine fW ?_;refine mS [.gen (.tup []) (k+2) [(tk,⟨8,aB,pB L⟩)] [(tk,⟨8,aB,(pB L).set i (tkc ((L.tsk i).run (L.tsk i).v 0 o.weight))⟩)]] ?_;refine iA ?_ ?_;.exact aPW (L.tsk i) (L.tsk i).v 0 o.weight (pB L) tk i (xN hi) oO oO (k+2) oO
 refine fW ?_;refine kX ?_;refine⟨?_,?_⟩;.rw[eRV];rfl
 rw[eRH,FD];simp only[fS];exact mX iV
def Fwd.trans {A B C:LSt}(h:Fwd A B)(g:Fwd B C)(hn:C.tl.length=B.tl.length\/B.tl.length<=A.tl.length):Fwd A C:=
 ⟨g.cpus.trans h.cpus,g.credit.trans h.credit,g.ns.trans h.ns,λ x=>(g.par x).trans (h.par x),λ c=>Int.le_trans (h.clk c) (g.clk c),λ a c=>Int.le_trans (h.fl a c) (g.fl a c),by have:=h.nt;have:=g.nt;omega,g.w0.trans h.w0⟩
def Fwd.setS{s:Sp}(hg:g<L.sl.length)(hc:c<(L.sl.getD g []).length)(hf:(L.sp g c).floor<=s.floor):Fwd L (L.setS g c s):=
 ⟨rfl,rfl,tH,λ _=>rfl,λ _=>bY _,λ a b=>by
  rw[AD hg hc];split;.rename_i e;rw[e.1,e.2];exact hf
  exact bY _,mG _,rfl⟩
def aJZ{L:LSt}{n c:Nat}{l:List Nat}(h:Rt0 L n)(hc:c<n)(hl:∀g,g∈l->0<g/\g<L.sl.length):∀ {j:Nat},j<=l.length->Fwd L (wkN L c l j)/\(wkN L c l j).tl=L.tl
 |0,_=>⟨fZ L,rfl⟩
 |j+1,hj=>by obtain⟨h1,h2⟩:=aJZ h hc hl (j:=j) oO;obtain⟨h3,h4⟩:=OU h hc hl (j:=j) oO;have:=hl (l.getD j 0) (by simp only[aU];rw[aN oO];exact zY _);have hg:l.getD j 0<(wkN L c l j).sl.length:=oO;have e:(wkN L c l (j+1)).tl=(wkN L c l j).tl:=rfl;exact⟨h1.trans (Fwd.setS hg (by rw[h3.rows _ hg];exact hc) (bY _)) (dE (by rw[e])),e.trans h2⟩
def Rt0.wake{l:List Nat}(h:Rt0 L n)(hc:c<n)(hl:∀g,g∈l->0<g/\g<L.sl.length):Rt0 (pA L c l) n/\Fwd L (pA L c l)/\(pA L c l).tl=L.tl:=
 ⟨(OU h hc hl (aJ _)).1,aJZ h hc hl (aJ _)⟩
def bER(L:LSt)(c:Int)(m tk k:Nat)(hm:m+6+L.sl.length<=tk)(hk:tk<k):
 Tr aG Γ 166 k [.ptr m 0 0,(),c] (MH m tk L) (λ k1 r1 H1=>k1=k/\r1= .tup []/\H1=MH m tk L):=by
 obtain⟨RH,eRH⟩:=xE (MH m tk L:aS);obtain⟨RV,eRV⟩:=xE (.tup []:AVal);refine uG (k:=k) eRV eRH rfl (fX oO oO) ?_;obtain⟨F,hF⟩:=xE (MH m tk L:aS);refine bR Tryz.func166 rfl 82 rfl bB ?_;simp only[MH,LH];have kp:=kN k [0,1,2,7,8,9,10,12,13,14,15];refine fW ?_;refine cD (X:=Nat) rfl [0,1,2,7,8,9,10,12,13,14,15] k (λ j=>[(14,j)]) (λ j=>F) (λ j=>j=0) (λ j=>0) 0 ?_ rfl ?_;.rw[hF];simp only[MH,LH];refine fM ?_;exact iC
 rintro j rfl;rw[hF];simp only[MH,LH];refine fM ?_;refine fC λ ht=>?_;refine⟨_,rfl,by rw[eRV],?_⟩;rw[eRH];simp only[MH,LH];exact mX iV
def wake(L:LSt)(n c:Nat)(hS:Rt0 L n)(hc:c<n)(l:List Nat)(hl:∀g,g∈l->0<g/\g<L.sl.length)(hl2:l.length<=1000)(m tk e k:Nat)(hm:m+6+L.sl.length<=tk)(he:tk<e)(hk:e<k):
 Tr aG Γ 166 k [.ptr m 0 0,dI e (gR l),c] (cM e 1 (gR l) (MH m tk L)) (λ k1 r1 H1=>k1=k/\r1= .tup []/\H1=cM e 1 (gR l) (MH m tk (pA L c l))):=by
 cases l with
 |nil=>exact bER L c m tk k hm oO
 |cons a r=>
  have e1:dI e (gR (a::r))= .sl e 0 (a::r).length:=by show AVal.sl e 0 ((gR r).length+1)=_;rw[aXD];rfl
  rw[e1];exact bEQ L n c hS hc (a::r) hl hl2 m tk e k hm he hk
def a7C{a b:Int}(h1:0<=a)(h3:0<=b):0<=aEQ a b/\aEQ a b<=18446744073709551615:=by unfold aEQ;split<;>omega
def aVL{v r w a b:Int}(he:qI v r w=aB)(hv:0<=v)(hv2:v<=18446744073709551615)(hr:0<=r)(ha:0<=a)(ha2:a<=18446744073709551615)(hb:0<=b)(hb2:b<=18446744073709551615):
 qI (sE v r a b).1 (sE v r a b).2 w=aB/\0<=(sE v r a b).1/\(sE v r a b).1<=18446744073709551615/\0<=(sE v r a b).2:=by
 obtain⟨x,ex,h1,h2⟩:∃x,x=(if a<=v then aEQ b (v-a)else DJ b (a-v))/\0<=x/\x<=18446744073709551615:=by
  refine⟨_,rfl,?_⟩;split;.exact a7C hb oO
  exact aCO hb hb2 oO
 simp only[qI,dTt]at he;unfold sE;simp only[<-ex,qI,dTt];split<;>(refine⟨?_,h1,h2,?_⟩<;>omega)
def VB{id q:Nat}(h:AM.look X q=AM.look Y q):AM.look (cM id s l X) q=AM.look (cM id s l Y) q:=by
 cases l with
 |nil=>exact h
 |cons a r=>simp only[cM,AM.look];split;rfl;exact h
def kD{q:Nat}(h:AM.look X q=AM.look Y q):AM.look ((a,B)::X) q=AM.look ((a,B)::Y) q:=by simp only[AM.look];split;rfl;exact h
def a3E{id:Nat}{X B0 B1 B2 B3 B5:Blk}{F:aS}(h1:tk≠a)(h2:tk≠id)(hm:m+6<=tk)(q:Nat):
 AM.look ((tk,B)::(a,X)::cM id s l ((m,B0)::(m+1,B1)::(m+2,B2)::(m+3,B3)::(m+5,B5)::F)) q=AM.look ((a,X)::cM id s l ((m,B0)::(m+1,B1)::(m+2,B2)::(m+3,B3)::(m+5,B5)::(tk,B)::F)) q:=by
 by_cases hq:q=tk
 .subst hq
  have e1:AM.look ((a,X)::cM id s l ((m,B0)::(m+1,B1)::(m+2,B2)::(m+3,B3)::(m+5,B5)::(q,B)::F)) q=aA B:=by
   simp only[AM.look];rw[iN (Ne.symm h1),HZ (Ne.symm h2)];simp only[AM.look];repeat rw[iN oO]
   rw[iP trivial]
  rw[e1];simp only[AM.look,if_true]
 have e1:∀Z,AM.look ((tk,B)::Z) q=AM.look Z q:=λ Z=>by simp only[AM.look];rw[iN (λ h=>hq h.symm)]
 rw[e1];refine kD (VB (kD (kD (kD (kD (kD ?_))))));rw[e1]
def QJ{id:Nat}(h:fN (cM id s l H) i=aB):i=id\/fN H i=aB:=by
 cases l with
 |nil=>exact .inr h
 |cons a r=>
  simp only[cM,fN,AM.look]at h;split at h;.rename_i e;exact dE e.symm
  exact dP h
def aZZ(h:∀i,p i=aB->q i=aB){v:AVal}(hv:iL p v=aB):iL q v=aB:=by cases v<;>simp only[iL]at hv⊢ <;>first|exact h _ hv|exact hv
def aZV(h:∀i,p i=aB->q i=aB)(hH:oU p H=aB):oU q H=aB:=by
 simp only[oU,aY,aO,gQ]at hH⊢
 intro x hx;obtain⟨h1,h2⟩:=hH x hx;exact⟨h _ h1,h2.imp id (λ h3 row hrow v hv=>aZZ h (h3 row hrow v hv))⟩
def FB(h:oU (fN H) H=aB):oU (fN (cM k s l H)) (cM k s l H)=aB:=by
 cases l with
 |nil=>exact h
 |cons a r=>
  refine jS (by simp[cM,fN,AM.look]) (aZV (λ i hi=>?_) h);simp only[cM,fN,AM.look];split;.rfl
  exact hi
def FA(h1:AM.look loc k=aC)(h:rO loc X Y):rO loc (cM k s l X) (cM k s l Y):=λ i hi=>by
 rcases hi with hi|hi
 .rcases QJ hi with rfl|hi;.exact h1
  exact h i (dE hi)
 rcases QJ hi with rfl|hi;.exact h1
 exact h i (dP hi)
def Tk.cpuTo (t:Tk)(c:Nat):Tk:={t with cpu:=c}
def move(L:LSt)(n:Nat)(hS:Rt0 L n)(i:Nat)(hi:i<L.tl.length)(to:Nat)(hto:to<n)(hmask:(L.tsk i).mask/2^to%2=1)(hcur:∀c,c<n->L.cur c≠(L.tsk i).id)(m tk k:Nat)(hm:m+6+L.sl.length<=tk)(hk:tk<k):
 ∃L',Rt0 L' n/\Fwd L L'/\Tr aG Γ 172 k [.ptr m 0 0,i,to] (MH m tk L) (λ k1 r1 H1=>k1=k/\r1= .tup []/\H1=MH m tk L'):=by
 have hT:=hS.tk i hi;have hnt:=hS.nt;have hns:=hS.ns;obtain⟨g,hg⟩:∃g:Nat,(L.tsk i).group=(g:Int):=⟨(L.tsk i).group.toNat,by have:=hT.g0;omega⟩;obtain⟨c,hc⟩:∃c:Nat,(L.tsk i).cpu=(c:Int):=⟨(L.tsk i).cpu.toNat,by have:=hT.c0;omega⟩;have hg1:g<L.sl.length:=by have:=hT.g1;omega
 have hc1:c<n:=by have:=hT.c1;omega
 have hrow:=hS.rows g hg1;have hTe:=hT.e;simp only[qI,dTt]at hTe;have hsa:=hS.sp g c hg1 hc1;have hsb:=hS.sp g to hg1 hto;have hmv:=aVL hT.e hT.v0 hT.v1 hT.r0 hsa.2.2.2.2.1 hsa.2.2.2.2.2 hsb.2.2.2.2.1 hsb.2.2.2.2.2;obtain⟨z,ez⟩:=xE (sE (L.tsk i).v (L.tsk i).r (L.sp g c).floor (L.sp g to).floor);rw[<-ez]at hmv;obtain⟨T1,eT⟩:=xE (((L.tsk i).run z.1 z.2 (L.tsk i).weight).cpuTo to);have hL1:Rt0 (L.setT i T1) n:=by rw[eT];refine hS.setT hi ⟨hT.id1,hT.id2,hT.g0,hT.g1,tC _,by show((to:Nat):Int)<n;omega,hmv.1,hmv.2.1,hmv.2.2.1,hmv.2.2.2,hT.m0,hT.m1,hT.m2,by show(L.tsk i).mask/2^((to:Nat):Int).toNat%2=1;exact hmask⟩ rfl (λ c hc hcc _ _=>absurd hcc (hcur c hc))
 obtain⟨E,eE⟩:=xE (uM L L.sl.length g to);have hE1:∀x,x∈E->0<x/\x<L.sl.length:=by rw[eE];exact AW hS hg1
 have hE2:E.length<=g:=by rw[eE];exact AX hS hg1
 have hemp:=empty L n to g hS hto hg1 E eE m tk k hm hk (Γ:=Γ);have hwk:=hL1.wake hto (l:=E) hE1;have hset:∀x,((pB L).set i x)[i]? =aA x:=λ x=>cE (by rw[uX];exact hi);by_cases hr:(L.tsk i).ready=aB
 .refine⟨pA (L.setT i T1) to E,hwk.1,Fwd.setT.trans hwk.2.1 (dE (by rw[hwk.2.2])),?_⟩;have hLs:(pA (L.setT i T1) to E).sl.length=L.sl.length:=hwk.2.1.ns;obtain⟨RH,eRH⟩:=xE (MH m tk (pA (L.setT i T1) to E):aS);obtain⟨RV,eRV⟩:=xE (.tup []:AVal);refine uG (k:=k) eRV eRH rfl (fX oO oO) (bR Tryz.func172 rfl 81 rfl bB ?_);simp only[MH,LH];have kp:Kp [0,1,2,6,7,8,9,76] (λ i=>if k<=i then i-k+1 else 0):=oR;have uU:=pJ hg hc hrow hr;refine fW ?_;refine mS [.far (dI k (gR E)) (k+1) [] (MH m tk L) (cM k 1 (gR E) (MH m tk L))] ?_;refine kS (zs ?_) (zs ?_) (zs ?_);.intro q;rfl
  .exact λ q hq=>rfl
  simp only[MH,LH];refine fM ?_;refine fW ?_;refine RD [.ret (enc (L.tsk i).v (L.tsk i).r (L.tsk i).weight),.ret (.tup [enc z.1 z.2 (L.tsk i).weight,(0:Int)])] ?_;refine kS (zs ?_) (zs ?_) (zs ?_);.exact qZ _ _ _ oO oO
  .rw[ez];exact aUR _ _ _ _ _ hT.e hT.v0 hT.v1 hsa.2.2.2.2.1 hsa.2.2.2.2.2 hsb.2.2.2.2.1 hsb.2.2.2.2.2
  refine fW ?_;refine mS [.gen (.tup []) (k+2) [(tk,⟨8,aB,pB L⟩)] [(tk,⟨8,aB,(pB L).set i (tkc ((L.tsk i).run z.1 z.2 (L.tsk i).weight))⟩)]] ?_;refine iA ?_ ?_;.exact aPW (L.tsk i) z.1 z.2 (L.tsk i).weight (pB L) tk i (xN hi) oO oO (k+2) oO
  have uU:=yI hg hc hrow hr hset @ssN @Tk.run.eq_1;refine fC λ ht=>?_;have hwc:=wake (L.setT i T1) n to hL1 hto E hE1 oO m tk k (k+2) hm hk oO (Γ:=Γ);have hT1:tkc T1=[aD (aE aH (L.tsk i).id),aD (aE aH (g:Int)),aD (aE aH (L.tsk i).weight),aD (aE aH (to:Int)),aD (aE aI (L.tsk i).mask),aD (bC aB),aD (aE aI z.1),aD (aE aT z.2)]:=by rw[eT,<-hg,<-hr];rfl
  refine mS [.far (.tup []) (k+2) [(k+1,⟨3,aB,[[aD (aE aI z.1),aD (aE aT z.2),aD (aE aT (L.tsk i).weight)]]⟩)] (cM k 1 (gR E) (MH m tk (L.setT i T1))) (cM k 1 (gR E) (MH m tk (pA (L.setT i T1) to E)))] ?_;refine zq5 (zs ?_) (zs ?_) (zs ?_) (zs ?_) (zs ?_);.exact JD (by rw[xC];trivial)
  .exact FB JL
  .intro q;rw[FD,hT1];exact a3E oO oO oO q
  .exact FA (by simp only[AM.look];rw[iN oO]) (mQ (λ q hq=>by have hLr:(L.setT i T1).sl.length=L.sl.length:=rfl;simp only[AM.look];rw[iN oO]) (by rw[hLs];rfl))
  refine⟨_,rfl,by rw[eRV],?_⟩;rw[eRH];simp only[MH,LH];exact mX iV
 refine⟨L.setT i T1,hL1,Fwd.setT,?_⟩;have hLs:(L.setT i T1).sl.length=L.sl.length:=rfl;have hr:(L.tsk i).ready=aF:=by simpa using hr
 have hT1:tkc T1=[aD (aE aH (L.tsk i).id),aD (aE aH (g:Int)),aD (aE aH (L.tsk i).weight),aD (aE aH (to:Int)),aD (aE aI (L.tsk i).mask),aD (bC aF),aD (aE aI z.1),aD (aE aT z.2)]:=by rw[eT,<-hg,<-hr];rfl
 obtain⟨RH,eRH⟩:=xE (MH m tk (L.setT i T1):aS);obtain⟨RV,eRV⟩:=xE (.tup []:AVal);refine uG (k:=k) eRV eRH rfl (fX oO oO) (bR Tryz.func172 rfl 81 rfl bB ?_);simp only[MH,LH];have kp:Kp [0,1,2,6,7,8,9,76] (λ i=>if k<=i then i-k+1 else 0):=oR;have uU:=pJ hg hc hrow hr;refine fW ?_;refine mS [.far (dI k (gR E)) (k+1) [] (MH m tk L) (cM k 1 (gR E) (MH m tk L))] ?_;refine kS (zs ?_) (zs ?_) (zs ?_);.intro q;rfl
 .exact λ q hq=>rfl
 simp only[MH,LH];refine fM ?_;refine fW ?_;refine RD [.ret (enc (L.tsk i).v (L.tsk i).r (L.tsk i).weight),.ret (.tup [enc z.1 z.2 (L.tsk i).weight,(0:Int)])] ?_;refine kS (zs ?_) (zs ?_) (zs ?_);.exact qZ _ _ _ oO oO
 .rw[ez];exact aUR _ _ _ _ _ hT.e hT.v0 hT.v1 hsa.2.2.2.2.1 hsa.2.2.2.2.2 hsb.2.2.2.2.1 hsb.2.2.2.2.2
 refine fW ?_;refine mS [.gen (.tup []) (k+2) [(tk,⟨8,aB,pB L⟩)] [(tk,⟨8,aB,(pB L).set i (tkc ((L.tsk i).run z.1 z.2 (L.tsk i).weight))⟩)]] ?_;refine iA ?_ ?_;.exact aPW (L.tsk i) z.1 z.2 (L.tsk i).weight (pB L) tk i (xN hi) oO oO (k+2) oO
 have uU:=yI hg hc hrow hr hset @ssN @Tk.run.eq_1;refine fC λ ht=>?_;refine⟨_,rfl,by rw[eRV],?_⟩;rw[eRH,FD,hT1];simp only[fS];exact mX iV
def bBI(L:LSt)(x:Int)(hn:L.ul.length<=100000):∃r:Int,(0<=r↔∃c,c<L.ul.length/\L.cur c=x)/\Pure aG Γ 126 [.rd 1 L.ul.length (ufL L),x] r:=by
 obtain⟨r,hr,hr2⟩:∃r:Int,(∀i:Nat,(∀j,j<i->L.cur j≠x)->i<L.ul.length->L.cur i=x->r=i)/\((∀j,j<L.ul.length->L.cur j≠x)->r= -1)/\(0<=r↔∃c,c<L.ul.length/\L.cur c=x):=by
  by_cases h:∃c,c<L.ul.length/\L.cur c=x
  .have hmin:∃c,(c<L.ul.length/\L.cur c=x)/\∀j,j<c->L.cur j≠x:=by
    obtain⟨c,hc⟩:=h
    induction c using Nat.strongRecOn with
    |_ c ih=>
     by_cases h2:∃j,j<c/\L.cur j=x;.obtain⟨j,h3,h4⟩:=h2;exact ih j h3 ⟨oO,h4⟩
     exact⟨c,hc,λ j hj e=>h2 ⟨j,hj,e⟩⟩
   obtain⟨c,hc,hm⟩:=hmin;refine⟨(c:Int),λ i hi h1 h2=>?_,λ hall=>absurd hc.2 (hall c hc.1),λ _=>⟨c,hc⟩,λ _=>tC _⟩;rcases kR i c with e|e|e;.exact absurd h2 (hm i e)
   .rw[e]
   exact absurd hc.2 (hi c e)
  exact⟨-1,λ i _ h1 h2=>absurd ⟨i,h1,h2⟩ h,λ _=>rfl,λ h0=>oO,λ h0=>absurd h0 h⟩
 refine⟨r,hr2.2,?_⟩;obtain⟨RV,eRV⟩:=xE (aD (.int .i64 r));rw[<-eRV];refine cA Tryz.func126 rfl 19 rfl bB (by rw[eRV];rfl) λ k=>?_;have kp:=kN k [0,1,4,5,7,8,9,16];refine fW ?_;refine cD (X:=Nat) rfl [0,1,4,5,7,8,9,16] k (λ i=>[(8,i)]) (λ i=>[]) (λ i=>i<=L.ul.length/\∀j,j<i->L.cur j≠x) (λ i=>L.ul.length-i) 0 ?_ ⟨bF _,λ j hj=>absurd hj (bU _)⟩ ?_;.refine fM ?_;exact iC
 rintro i ⟨hi,hall⟩;refine fM ?_;refine uV ?_;refine kS (gB λ ht ht=>?_) (gB λ ht ht=>?_) (rX λ ht=>?_);.refine kX ?_;exact bG (by rw[eRV,hr i hall oO oO])
 .refine⟨i+1,⟨oO,λ j hj=>?_⟩,oO,?_⟩
  .by_cases he:j=i;.subst he;omega
   exact hall j oO
  refine fM ?_;exact iC
 refine kX ?_;exact bG (by rw[eRV,hr2.1 (λ j hj=>hall j oO)])
def aRF(L:LSt)(x:Int)(hn:L.ul.length<=100000):∃b:Bool,(b=aB↔∃c,c<L.ul.length/\L.cur c=x)/\Pure aG Γ 65 [.rd 1 L.ul.length (ufL L),x] b:=by obtain⟨r,hr,hp⟩:=bBI L x hn (Γ:=Γ);refine⟨decide (0<=r),by rw[dTt];exact hr,?_⟩;refine cA Tryz.func65 rfl 9 rfl bB rfl λ k=>?_;have kp:=kN k [0,1,4];refine fW ?_;refine sJ [.ret r] ?_;refine cB rfl ⟨_,rfl,bG ?_⟩;rfl
def a7D(h1:0<=x)(h2:x<18446744073709551616):aI.wrap ((BitVec.ofInt aI.bits x&&&BitVec.ofInt aI.bits 1).toNat:Int)=x%2:=by
 obtain⟨n,rfl⟩:∃n:Nat,x=(n:Int):=⟨x.toNat,oO⟩
 have e1:(BitVec.ofInt aI.bits (n:Int)&&&BitVec.ofInt aI.bits 1).toNat=n%2:=by
  rw[BitVec.toNat_and];have a:(BitVec.ofInt aI.bits (n:Int)).toNat=n:=by show(BitVec.ofInt 64 (n:Int)).toNat=n;rw[BitVec.ofInt_natCast,BitVec.toNat_ofNat];exact LC oO
  have b:(BitVec.ofInt aI.bits 1).toNat=1:=by decide
  rw[a,b,Nat.and_one_is_mod]
 rw[e1];exact wrap_u64 oO oO
def rA{c:Int}(h1:0<=x)(h2:x<18446744073709551616)(h3:0<=c)(h4:c<64):aI.wrap ((BitVec.ofInt aI.bits (x.fdiv (2^min c.toNat 64))&&&BitVec.ofInt aI.bits 1).toNat:Int)=x/2^c.toNat%2:=by rw[(oO:min c.toNat 64=c.toNat),fG _ (CJ oO)];have h5:0<=x/2^c.toNat:=a7U h1 (CJ oO);have h6:x/2^c.toNat<=x:=Int.ediv_le_self _ h1;exact a7D h5 oO
def NV(k:Nat):Kp [0,1,3,4,5,6,7,13,22,25,34,47] (λ i=>if k<=i then i-k+1 else 0):=oR
def NW(k:Nat):Kp [0,1,3,4,5,6,7,13,22,25,34,47] (λ i=>i-k):=oR
def a4B(L:LSt)(n:Nat)(hS:Rt0 L n)(o:Opn)(m tk k:Nat)(hm:m+6+L.sl.length<=tk)(hk:tk<k):OpOk Γ 95 L n o m tk k:=by
 have hnt:=hS.nt;have hcp:=hS.cpus;have hnu:=hS.nu;have hn64:=hS.n64;have hcpu:=cpu L o.to m tk (k+1) hm oO (Γ:=Γ);have htask:=LQ o.task (Γ:=Γ);by_cases h1:0<=o.to/\o.to<L.cpus;rotate_left
 .rw[decide_eq_false h1]at hcpu;refine⟨L,0,300,tk,k,hS,⟨fZ L,dP rfl⟩,hm,⟨hk,dE rfl⟩,aJ _,?_⟩;obtain⟨RH,eRH⟩:=xE (MH m tk L:aS);obtain⟨RV,eRV⟩:=xE (kM 0 300:AVal);refine uG (k:=k) eRV eRH rfl (fX oO oO) (bR bJE rfl 67 rfl bB ?_);simp only[MH,LH];have kp:=NW k;refine fW ?_;refine mS [.far (aD (bC aF)) (k+1) [(k,⟨8,aB,[gS o]⟩)] (MH m tk L) (MH m tk L)] ?_;refine kS (zs ?_) (zs ?_) (zs ?_);.intro q;simp only[MH,LH,fS,gS,bA,aZ]
  .exact hY rfl
  simp only[MH,LH];refine fM ?_;refine fC λ ht=>?_;refine kX ?_;refine⟨?_,?_⟩;.rw[eRV];rfl
  rw[eRH];simp only[MH,LH];exact mX iV
 rw[decide_eq_true h1]at hcpu;by_cases h2:1<=o.task/\o.task<=65535;rotate_left
 .rw[decide_eq_false h2]at htask;refine⟨L,0,301,tk,k,hS,⟨fZ L,dP rfl⟩,hm,⟨hk,dE rfl⟩,aJ _,?_⟩;obtain⟨RH,eRH⟩:=xE (MH m tk L:aS);obtain⟨RV,eRV⟩:=xE (kM 0 301:AVal);refine uG (k:=k) eRV eRH rfl (fX oO oO) (bR bJE rfl 67 rfl bB ?_);simp only[MH,LH];have kp:=NW k;refine fW ?_;refine mS [.far (aD (bC aB)) (k+1) [(k,⟨8,aB,[gS o]⟩)] (MH m tk L) (MH m tk L)] ?_;refine kS (zs ?_) (zs ?_) (zs ?_);.intro q;simp only[MH,LH,fS,gS,bA,aZ]
  .exact hY rfl
  simp only[MH,LH];refine fM ?_;refine fC λ ht=>?_;refine sJ [.ret aF] ?_;refine fC λ ht=>?_;refine kX ?_;refine⟨?_,?_⟩;.rw[eRV];rfl
  rw[eRH];simp only[MH,LH];exact mX iV
 rw[decide_eq_true h2]at htask;rcases AS hS o.task with hr|⟨i,hi,hid,hr⟩
 .have hfc:=find L o.task (-1) hr hS.sorted oO m tk (k+1) hm oO (Γ:=Γ);refine⟨L,0,6,tk,k,hS,⟨fZ L,dP rfl⟩,hm,⟨hk,dE rfl⟩,aJ _,?_⟩;obtain⟨RH,eRH⟩:=xE (MH m tk L:aS);obtain⟨RV,eRV⟩:=xE (kM 0 6:AVal);refine uG (k:=k) eRV eRH rfl (fX oO oO) (bR bJE rfl 67 rfl bB ?_);simp only[MH,LH];have kp:=NW k;refine fW ?_;refine mS [.far (aD (bC aB)) (k+1) [(k,⟨8,aB,[gS o]⟩)] (MH m tk L) (MH m tk L)] ?_;refine kS (zs ?_) (zs ?_) (zs ?_);.intro q;simp only[MH,LH,fS,gS,bA,aZ]
  .exact hY rfl
  simp only[MH,LH];refine fM ?_;refine fC λ ht=>?_;refine sJ [.ret aB] ?_;refine fC λ ht=>?_;refine mS [.far (aD (aE aH (-1))) (k+1) [(k,⟨8,aB,[gS o]⟩)] (MH m tk L) (MH m tk L)] ?_;refine kS (zs ?_) (zs ?_) (zs ?_);.intro q;simp only[MH,LH,fS,gS,bA,aZ]
  .exact hY rfl
  simp only[MH,LH];refine fM ?_;refine fC λ ht=>?_;refine kX ?_;refine⟨?_,?_⟩;.rw[eRV];rfl
  rw[eRH];simp only[MH,LH];exact mX iV
 have hfc:=find L o.task i hr hS.sorted oO m tk (k+1) hm oO (Γ:=Γ);obtain⟨b,hb,hbp⟩:=aRF L o.task oO (Γ:=Γ);obtain⟨to,hto⟩:∃to:Nat,o.to=(to:Int):=⟨o.to.toNat,oO⟩;obtain⟨NM,eNM⟩:=xE ([m+3])
 have hlend:∀ {o':Oper} {ev:Operand->Option AVal} {f:Operand} {args:Array Operand} {ty:Array TypeId} {B0:Blk} (ho:o'.op= .call {callee:= .value f,args:=args,argTypes:=ty}) (hg:aX aG 65=aB) (hf:ev f=aA (.fn 65 [])) (ha:qH ev args.toList=aA [.sl (m+3) 0 L.ul.length,aD (aE aH o.task)]),
  AM.Good aG Γ o' ev (AM.look ((k,B0)::MH m tk L)) (k+1) ⟨aD (bC b),k+1,[],[m+3]⟩:=λ {o'} {ev} {f} {args} {ty} {B0} ho hg hf ha=>
  aKK (Hc:=[(m+3,⟨1,aB,MP L⟩)]) ho hg hf ha (.cons (sM (B:=⟨1,aB,MP L⟩) (by simp[AM.look]) (by rw[HB];exact aJ _) (λ _ _=>rfl) λ j hj=>⟨_,NC hj,nB rfl⟩) (.cons Bor.lit .nil)) (λ id B h=>by
   simp only[AM.look]at h;split at h;.rename_i e;subst e;cases h;simp only[MH,LH,AM.look];repeat(first|rw[iN oO]|rw[iP trivial])
   cases h) rfl hbp
 cases hbb:b with
 |true=>
  rw[hbb]at hlend;refine⟨L,0,304,tk,k,hS,⟨fZ L,dP rfl⟩,hm,⟨hk,dE rfl⟩,aJ _,?_⟩;obtain⟨RH,eRH⟩:=xE (MH m tk L:aS);obtain⟨RV,eRV⟩:=xE (kM 0 304:AVal);refine uG (k:=k) eRV eRH rfl (fX oO oO) (bR bJE rfl 67 rfl bB ?_);simp only[MH,LH];have kp:=NW k;refine fW ?_;refine mS [.far (aD (bC aB)) (k+1) [(k,⟨8,aB,[gS o]⟩)] (MH m tk L) (MH m tk L)] ?_;refine kS (zs ?_) (zs ?_) (zs ?_);.intro q;simp only[MH,LH,fS,gS,bA,aZ]
  .exact hY rfl
  simp only[MH,LH];refine fM ?_;refine fC λ ht=>?_;refine sJ [.ret aB] ?_;refine fC λ ht=>?_;refine mS [.far (aD (aE aH (i:Int))) (k+1) [(k,⟨8,aB,[gS o]⟩)] (MH m tk L) (MH m tk L)] ?_;refine kS (zs ?_) (zs ?_) (zs ?_);.intro q;simp only[MH,LH,fS,gS,bA,aZ]
  .exact hY rfl
  simp only[MH,LH];refine fM ?_;have kp:=NV k;refine fC λ ht=>?_;refine RD [.raw (aA 33) ⟨aD (bC aB),k+1,[],[m+3]⟩] ?_;refine iA ?_ ?_;.exact hlend rfl kRf rfl rfl
  refine fC λ ht=>?_;refine kX ?_;refine⟨?_,?_⟩;.rw[eRV];rfl
  rw[eRH];simp only[MH,LH];exact mX iV
 |false=>
  rw[hbb]at hlend;have hnc:∀c,c<n->L.cur c≠o.task:=λ c hc e=>by have:=hb.2 ⟨c,oO,e⟩;rw[hbb]at this;cases this
  by_cases h5:(L.tsk i).cpu=o.to
  .refine⟨L,0,2,tk,k,hS,⟨fZ L,dP rfl⟩,hm,⟨hk,dE rfl⟩,aJ _,?_⟩;obtain⟨RH,eRH⟩:=xE (MH m tk L:aS);obtain⟨RV,eRV⟩:=xE (kM 0 2:AVal);refine uG (k:=k) eRV eRH rfl (fX oO oO) (bR bJE rfl 67 rfl bB ?_);simp only[MH,LH];have kp:=NV k;refine fW ?_;refine mS [.far (aD (bC aB)) (k+1) [(k,⟨8,aB,[gS o]⟩)] (MH m tk L) (MH m tk L)] ?_;refine kS (zs ?_) (zs ?_) (zs ?_);.intro q;simp only[MH,LH,fS,gS,bA,aZ]
   .exact hY rfl
   simp only[MH,LH];refine fM ?_;refine fC λ ht=>?_;refine sJ [.ret aB] ?_;refine fC λ ht=>?_;refine mS [.far (aD (aE aH (i:Int))) (k+1) [(k,⟨8,aB,[gS o]⟩)] (MH m tk L) (MH m tk L)] ?_;refine kS (zs ?_) (zs ?_) (zs ?_);.intro q;simp only[MH,LH,fS,gS,bA,aZ]
   .exact hY rfl
   simp only[MH,LH];refine fM ?_;refine fC λ ht=>?_;refine RD [.raw (aA 33) ⟨aD (bC aF),k+1,[],[m+3]⟩] ?_;refine iA ?_ ?_;.exact hlend rfl kRf rfl rfl
   refine uV ?_;refine kB (gB λ ht ht=>kX ?_);refine⟨?_,?_⟩;.rw[eRV];rfl
   rw[eRH];simp only[MH,LH];exact mX iV
  have hT:=hS.tk i hi;have hmb:=rA (x:=(L.tsk i).mask) (c:=o.to) hT.m0 hT.m1 h1.1 oO;have hneg:(o.to<0)=False:=eq_false oO;by_cases h6:(L.tsk i).mask/2^o.to.toNat%2=0
  .refine⟨L,0,305,tk,k,hS,⟨fZ L,dP rfl⟩,hm,⟨hk,dE rfl⟩,aJ _,?_⟩;obtain⟨RH,eRH⟩:=xE (MH m tk L:aS);obtain⟨RV,eRV⟩:=xE (kM 0 305:AVal);refine uG (k:=k) eRV eRH rfl (fX oO oO) (bR bJE rfl 67 rfl bB ?_);simp only[MH,LH];have kp:=NV k;refine fW ?_;refine mS [.far (aD (bC aB)) (k+1) [(k,⟨8,aB,[gS o]⟩)] (MH m tk L) (MH m tk L)] ?_;refine kS (zs ?_) (zs ?_) (zs ?_);.intro q;simp only[MH,LH,fS,gS,bA,aZ]
   .exact hY rfl
   simp only[MH,LH];refine fM ?_;refine fC λ ht=>?_;refine sJ [.ret aB] ?_;refine fC λ ht=>?_;refine mS [.far (aD (aE aH (i:Int))) (k+1) [(k,⟨8,aB,[gS o]⟩)] (MH m tk L) (MH m tk L)] ?_;refine kS (zs ?_) (zs ?_) (zs ?_);.intro q;simp only[MH,LH,fS,gS,bA,aZ]
   .exact hY rfl
   simp only[MH,LH];refine fM ?_;refine fC λ ht=>?_;refine RD [.raw (aA 33) ⟨aD (bC aF),k+1,[],[m+3]⟩] ?_;refine iA ?_ ?_;.exact hlend rfl kRf rfl rfl
   refine uV ?_;refine kB (gB λ ht ht=>?_);have uU:=zA hneg hmb;refine fC λ ht=>?_;have uU:=zA hneg hmb;refine kX ?_;refine⟨?_,?_⟩;.rw[eRV];rfl
   rw[eRH];simp only[MH,LH];exact mX iV
  obtain⟨L',hL',hF',hmove⟩:=move L n hS i hi to oO (by rw[hto]at h6;have:=Int.emod_two_eq ((L.tsk i).mask/2^to);simp only[bW]at h6;omega) (λ c hc=>by rw[hid];exact hnc c hc) m tk (k+1) hm oO (Γ:=Γ);have hLs:=hF'.ns;rw[<-hto]at hmove;refine⟨L',0,0,tk,k,hL',⟨hF',dE rfl⟩,hm,⟨hk,dE rfl⟩,aJ _,?_⟩;obtain⟨RH,eRH⟩:=xE (MH m tk L':aS);obtain⟨RV,eRV⟩:=xE (kM 0 0:AVal);refine uG (k:=k) eRV eRH rfl (fX oO oO) (bR bJE rfl 67 rfl bB ?_);simp only[MH,LH];have kp:=NV k;refine fW ?_;refine mS [.far (aD (bC aB)) (k+1) [(k,⟨8,aB,[gS o]⟩)] (MH m tk L) (MH m tk L)] ?_;refine kS (zs ?_) (zs ?_) (zs ?_);.intro q;simp only[MH,LH,fS,gS,bA,aZ]
  .exact hY rfl
  simp only[MH,LH];refine fM ?_;refine fC λ ht=>?_;refine sJ [.ret aB] ?_;refine fC λ ht=>?_;refine mS [.far (aD (aE aH (i:Int))) (k+1) [(k,⟨8,aB,[gS o]⟩)] (MH m tk L) (MH m tk L)] ?_;refine kS (zs ?_) (zs ?_) (zs ?_);.intro q;simp only[MH,LH,fS,gS,bA,aZ]
  .exact hY rfl
  simp only[MH,LH];refine fM ?_;refine fC λ ht=>?_;refine RD [.raw (aA 33) ⟨aD (bC aF),k+1,[],[m+3]⟩] ?_;refine iA ?_ ?_;.exact hlend rfl kRf rfl rfl
  refine uV ?_;refine kB (gB λ ht ht=>?_);have uU:=zA hneg hmb;refine fC λ ht=>?_;refine mS [.far (.tup []) (k+1) [(k,⟨8,aB,[gS o]⟩)] (MH m tk L) (MH m tk L')] ?_;refine kS (zs ?_) (zs ?_) (zs ?_);.intro q;simp only[MH,LH,fS,gS,bA,aZ]
  .exact mQ (λ i hi=>by simp only[AM.look];repeat(rw[iN oO])) hF'.ns
  simp only[MH,LH];refine fM ?_;refine fW ?_;have uU:=zA hneg hmb;refine kX ?_;refine⟨?_,?_⟩;.rw[eRV];rfl
  rw[eRH];simp only[MH,LH];exact mX iV
def cpR(L:LSt)(i:Nat):List (List AVal):=(aR L.sl.length).map λ j=>if j<i then ssf L.st j else [aD (aP aC 0 0)]
def IW(L:LSt)(i:Nat):(cpR L i).length=L.sl.length:=by simp[cpR]
def aYP(L:LSt):cpR L 0=bI L.sl.length [aD (aP aC 0 0)]:=fF λ j=>by
 by_cases h:j<L.sl.length;.simp[cpR,h]
 rw[bE (by rw[IW];omega),bE sO]
def a5Z(L:LSt)(i:Nat)(h:i<L.sl.length):(cpR L i).set i (ssf L.st i)=cpR L (i+1):=fF λ j=>by
 rw[dS];by_cases e:i=j;.subst e;rw[iP rfl,iP (by rw[IW];exact h)];simp[cpR,h]
 rw[iN e];by_cases hj:j<L.sl.length
 .simp only[cpR,aV,nD hj,bO];by_cases h1:j<i;.rw[iP h1,iP oO]
  rw[iN h1,iN oO]
 rw[bE (by rw[IW];omega),bE (by rw[IW];omega)]
def aYQ(L:LSt):cpR L L.sl.length=(aR L.sl.length).map (ssf L.st):=fR λ j hj=>iP (dX.1 hj)
attribute [go_sem] IW stc
def jW{α:Type}(l:List α)(f:α->List AVal)(h:∀x,(f x).all AM.one=aB):((l.map f).all λ row=>row.all AM.one)=aB:=by rw[aY];intro row hr;simp only[dM]at hr;obtain⟨t,_,rfl⟩:=hr;exact h t
def aVX(hm:m+6+L.sl.length<=tk)(hi:i<L.sl.length):AM.look (MH m tk L) (m+(6+i))=aA ⟨3,aB,CP L i⟩:=by
 simp only[MH,LH,AM.look];repeat rw[iN oO]
 exact VA hi
def a6C(L:LSt)(n:Nat)(hS:Rt0 L n)(m tk k:Nat)(hm:m+6+L.sl.length<=tk)(hk:tk<k):
 Tr aG Γ 87 k [.agg (stc m tk L)] (MH m tk L) (λ k1 r1 H1=>k1=k/\r1= .agg L.st.cells/\H1=MH m tk L):=by
 have hnt:=hS.nt;have hng:=hS.ng;have hnk:=hS.nk;have hnu:=hS.nu;have hn1:=hS.n1;have hn64:=hS.n64;have hns:=hS.ns;have hns1:=hS.ns1;obtain⟨RH,eRH⟩:=xE (MH m tk L:aS);obtain⟨RV,eRV⟩:=xE (.agg L.st.cells:AVal);refine uG (kk:=k) eRV eRH rfl (fX oO oO) ?_;have cG:=bCR (SP L) L.gl.length (gf L.st) (m+1) (k+2) (OB L) oO oO (jW _ _ λ _=>rfl) (λ i hi=>by rw[YP hi];rfl) oO (Γ:=Γ);have cK:=aZA (TE L) L.kl.length (kf L.st) (m+2) (k+4) (NY L) oO oO (jW _ _ λ _=>rfl) (λ i hi=>by rw[YH hi];rfl) oO (Γ:=Γ);have cU:=aZA (MP L) L.ul.length (uf L.st) (m+3) (k+6) (HB L) oO oO (jW _ _ λ _=>rfl) (λ i hi=>by rw[NC hi];rfl) oO (Γ:=Γ)
 have cT:Tr aG Γ 122 (k+8) [.sl tk 0 L.tl.length] [(tk,⟨8,aB,pB L⟩)] (λ k1 r1 H1=>k1=k+8+2/\r1= .rd 8 L.tl.length (tf L.st)/\H1=[(tk,⟨8,aB,pB L⟩)]):=by
  by_cases h0:L.tl.length=0;.rw[h0];exact a6F (pB L) (tf L.st) tk (k+8) oO
  exact bCP (pB L) L.tl.length (tf L.st) tk (k+8) (uX L) oO oO (jW _ _ λ _=>rfl) (λ i hi=>by rw[xN hi];rfl) oO
 refine bR Tryz.func87 rfl 45 rfl bB ?_;simp only[MH,LH];have kp:=kN k [0,1,2,3,4,5,29,30,31,32];refine fW ?_;refine sJ [.gen (.rd 2 L.gl.length (gf L.st)) (k+4) [(m+1,⟨2,aB,SP L⟩)] [(m+1,⟨2,aB,SP L⟩)]] ?_;refine fW ?_;have kp:Kp [0,1,2,3,4,5,29,30,31,32] (λ i=>if i=m+2 then 1 else if i=m+3 then 2 else if i=tk then 3 else if k<=i then i-k+4 else 0):=oR;refine GJ [.gen (.rd 1 L.kl.length (kf L.st)) (k+6) [(m+2,⟨1,aB,TE L⟩)] [(m+2,⟨1,aB,TE L⟩)],.gen (.rd 1 L.ul.length (uf L.st)) (k+8) [(m+3,⟨1,aB,MP L⟩)] [(m+3,⟨1,aB,MP L⟩)],.gen (.rd 8 L.tl.length (tf L.st)) (k+10) [(tk,⟨8,aB,pB L⟩)] [(tk,⟨8,aB,pB L⟩)]] ?_;refine fW ?_;obtain⟨crow,ecr⟩:=xE ([.lit (.int .i64 L.cpus),.lit (.int .u64 L.credit),.rd 2 L.gl.length (gf L.st),.rd 1 L.kl.length (kf L.st),.rd 1 L.ul.length (uf L.st),.rd 8 L.tl.length (tf L.st),.sl (m+5) 0 L.sl.length]:List AVal);obtain⟨zrow,ezr⟩:=xE ([.lit (.int .i64 0),.lit (.int .u64 0),.lit (.slice aC 0 0),.lit (.slice aC 0 0),.lit (.slice aC 0 0),.lit (.slice aC 0 0),.lit (.slice aC 0 0)]:List AVal);refine cD (X:=Nat) rfl [0,1,2,3,4,5,29,30,31,32] (k+11) (λ i=>[(31,i)]) (λ i=>(k+10,⟨1,aB,cpR L i⟩)::(k+1,⟨7,aB,[zrow]⟩)::(k,⟨7,aF,[crow]⟩)::MH m tk L) (λ i=>i<=L.sl.length) (λ i=>L.sl.length-i) 0 ?_ (bF _) ?_;.simp only[MH,LH];rw[aYP,ecr,ezr];refine fM ?_;exact iC
 intro i hi;by_cases hi2:i<L.sl.length
 .have hrow:=hS.rows i hi2;have cS:=bCQ L i n m tk (k+11) hm oO hi2 hrow oO oO (Γ:=Γ);have hset:=a5Z L i hi2;rw[ssf,show L.st.nsp i=n from hrow]at hset;have hcget:(cpR L i)[i]? =aA [aD (aP aC 0 0)]:=by simp[cpR,hi2]
  rw[ecr,ezr];simp only[MH,LH];have uU:=uT hrow hset hcget;refine fM ?_;have kp:Kp [0,1,2,3,4,5,29,30,31,32] (λ i=>if k<=i then i-k+1 else 0):=oR;refine fC λ ht=>?_;refine mS [.far (.rd 3 n (sf L.st i)) (k+13) [(k+10,⟨1,aB,cpR L i⟩),(k+1,⟨7,aB,[zrow]⟩),(k,⟨7,aF,[crow]⟩)] (MH m tk L) (MH m tk L)] ?_;refine FN (zs ?_) (zs ?_) (zs ?_) (zs ?_);.rw[aVX hm hi2];rfl
  .intro q;simp only[MH,LH,fS,ecr,ezr,bA,aZ]
  .exact hY rfl
  simp only[MH,LH];refine fM ?_;refine fW ?_;refine⟨i+1,oO,oO,?_⟩;try rw[ecr,ezr]
  try(simp only[MH,LH])
  try(simp-dsimp-implicitDefEqProofs (disch:=omega)only[go_sem,iO,hrow,hset,hcget,↓reduceIte])
  exact iC
 have hil:i=L.sl.length:=oO;rw[ecr,ezr];subst hil;rw[aYQ];simp only[MH,LH];refine fM ?_;have kp:Kp [0,1,2,3,4,5,29,30,31,32] (λ i=>if k<=i then i-k+1 else 0):=oR;refine fC λ ht=>?_;refine gW (gT (k+10) (B:=⟨1,aB,(aR L.sl.length).map (ssf L.st)⟩) (by simp(disch:=omega)only[AM.look,iO,↓reduceIte]) rfl) ?_;simp-dsimp-implicitDefEqProofs only[qO,jR,go_sem,eq_self,↓reduceIte]
 have hrs:VLes [L.cpus,aD (aE aI L.credit),.rd 2 L.gl.length (gf L.st),.rd 1 L.kl.length (kf L.st),.rd 1 L.ul.length (uf L.st),.rd 8 L.tl.length (tf L.st),.rd 1 L.sl.length (λ j=>((aR L.sl.length).map (ssf L.st)).getD j [])] L.st.cells:=
  .cons (bL _) (.cons (bL _) (.cons (bL _) (.cons (bL _) (.cons (bL _) (.cons (bL _) (.cons (xF _ _ _) .nil))))))
 refine gW (Mv.row (k+1) (l:=[]) L.st.cells (by simp(disch:=omega)only[AM.look,iO,↓reduceIte,aZ];rfl) hrs rfl) ?_;refine fM ?_;have uU:=Go.AM.uU;refine kX ?_;refine⟨?_,?_⟩;.rw[eRV];rfl
 rw[eRH];simp only[MH,LH];exact mX iV
def aVI(L:LSt)(n:Nat)(hS:Rt0 L n)(m tk k:Nat)(hm:m+6+L.sl.length<=tk)(hk:tk<k):
 Tr aG Γ 31 k [.ptr m 0 0] (MH m tk L) (λ k1 r1 H1=>k1=k/\r1= .tup [.agg L.st.cells,(0:Int)]/\H1=MH m tk L):=by
 obtain⟨RH,eRH⟩:=xE (MH m tk L:aS);obtain⟨RV,eRV⟩:=xE (.tup [.agg L.st.cells,.lit (.int .i64 0)]:AVal);refine uG (kk:=k) eRV eRH rfl (fX oO oO) ?_;have hcp:=a6C L n hS m tk (k+1) hm oO (Γ:=Γ);simp only[stc,St.cells]at hcp;refine bR Tryz.func31 rfl 19 rfl bB ?_;simp only[MH,LH];have kp:Kp [0,2,3,12] (λ i=>if k<=i then i-k+1 else 0):=oR;refine fC λ ht=>?_;refine mS [.far (.agg [L.st.cpus,aD (aE aI L.st.credit),.rd 2 L.st.ng (gf L.st),.rd 1 L.st.nk (kf L.st),.rd 1 L.st.nu (uf L.st),.rd 8 L.st.nt (tf L.st),.rd 1 L.st.ns (ssf L.st)]) (k+1) [(k,⟨7,aB,[[(0:Int),aD (aE aI 0),(),(),(),(),()]]⟩)] (MH m tk L) (MH m tk L)] ?_;refine FN (zs ?_) (zs ?_) (zs ?_) (zs ?_);.simp only[MH,LH];exact mX iV;try rfl
 .intro q;simp only[MH,LH,fS,bA,aZ]
 .exact hY rfl
 refine kX ?_;refine⟨?_,?_⟩;.rw[eRV];rfl
 rw[eRH];simp only[MH,LH];exact mX iV
def aBV(n:Nat)(f:Nat->List AVal)(k:Nat)(hn0:0<n)(hn2:n<=100000)(hone:(((aR n).map f).all λ row=>row.all AM.one)=aB):
 Tr aG Γ 121 k [.rd 1 n f] [] (λ k1 r1 H1=>k1=k+2/\r1= .sl (k+1) 0 n/\H1=[(k+1,⟨1,aB,(aR n).map f⟩)]):=by
 obtain⟨R,eR⟩:=xE ((aR n).map f);have hl:R.length=n:=by rw[eR];simp
 obtain⟨RH,eRH⟩:=xE ([(k+1,⟨1,aB,R⟩)]:aS);rw[<-eR]at hone⊢
 refine Tr.mono (mO (kk:=k+2) (V:= .sl (k+1) 0 n) (RH:=RH) oO (by simp[bd,MG,iL,kC]) (by rw[eRH];exact jS (by simp only[kC,dTt];omega) rfl) ?_) (λ _ _ _ h=>⟨h.1,h.2.1,h.2.2.trans eRH⟩);have hne:¬n=0:=oO;have eR2:=eR.symm;refine bR Tryz.func121 rfl 8 rfl bB ?_;have kp:=kN k [0,2,4];have uU:=pJ hone hne hn0 eR2;refine fC λ ht=>?_;have uU:=pJ hone hne hn0 eR2;refine kX ?_;refine⟨rfl,?_⟩;rw[eRH];exact mX iV
def a3I(n:Nat)(f:Nat->List AVal)(k:Nat)(hn0:0<n)(hn2:n<=100000)(hone:(((aR n).map f).all λ row=>row.all AM.one)=aB):
 Tr aG Γ 120 k [.rd 2 n f] [] (λ k1 r1 H1=>k1=k+2/\r1= .sl (k+1) 0 n/\H1=[(k+1,⟨2,aB,(aR n).map f⟩)]):=by
 obtain⟨R,eR⟩:=xE ((aR n).map f);have hl:R.length=n:=by rw[eR];simp
 obtain⟨RH,eRH⟩:=xE ([(k+1,⟨2,aB,R⟩)]:aS);rw[<-eR]at hone⊢
 refine Tr.mono (mO (kk:=k+2) (V:= .sl (k+1) 0 n) (RH:=RH) oO (by simp[bd,MG,iL,kC]) (by rw[eRH];exact jS (by simp only[kC,dTt];omega) rfl) ?_) (λ _ _ _ h=>⟨h.1,h.2.1,h.2.2.trans eRH⟩);have hne:¬n=0:=oO;have eR2:=eR.symm;refine bR Tryz.func120 rfl 8 rfl bB ?_;have kp:=kN k [0,2,4];have uU:=pJ hone hne hn0 eR2;refine fC λ ht=>?_;have uU:=pJ hone hne hn0 eR2;refine kX ?_;refine⟨rfl,?_⟩;rw[eRH];exact mX iV
def a3H(n:Nat)(f:Nat->List AVal)(k:Nat)(hn0:0<n)(hn2:n<=100000)(hone:(((aR n).map f).all λ row=>row.all AM.one)=aB):
 Tr aG Γ 124 k [.rd 3 n f] [] (λ k1 r1 H1=>k1=k+2/\r1= .sl (k+1) 0 n/\H1=[(k+1,⟨3,aB,(aR n).map f⟩)]):=by
 obtain⟨R,eR⟩:=xE ((aR n).map f);have hl:R.length=n:=by rw[eR];simp
 obtain⟨RH,eRH⟩:=xE ([(k+1,⟨3,aB,R⟩)]:aS);rw[<-eR]at hone⊢
 refine Tr.mono (mO (kk:=k+2) (V:= .sl (k+1) 0 n) (RH:=RH) oO (by simp[bd,MG,iL,kC]) (by rw[eRH];exact jS (by simp only[kC,dTt];omega) rfl) ?_) (λ _ _ _ h=>⟨h.1,h.2.1,h.2.2.trans eRH⟩);have hne:¬n=0:=oO;have eR2:=eR.symm;refine bR Tryz.func124 rfl 8 rfl bB ?_;have kp:=kN k [0,2,4];have uU:=pJ hone hne hn0 eR2;refine fC λ ht=>?_;have uU:=pJ hone hne hn0 eR2;refine kX ?_;refine⟨rfl,?_⟩;rw[eRH];exact mX iV
def bLQ:AM.Pure aG Γ 122 [()] ():=by refine cA bQO rfl 8 rfl bB rfl λ k=>?_;have kp:=kN k [0,2,4];refine fC λ ht=>?_;refine cB rfl ⟨_,rfl,bG ?_⟩;rfl
def zI:List AVal:=[aD (aE aH 0)]
def zS:List AVal:=[aD (aE aI 0),aD (aE aT 0),aD (aE aI 0)]
def uD(b ns n:Nat)(i:Nat):List (List AVal):=(aR ns).map λ j=>if j<i then [.sl (b+j) 0 n]else [aD (aP aC 0 0)]
def yA(b ns n i:Nat):(uD b ns n i).length=ns:=by simp[uD]
def aYR(b ns n:Nat):uD b ns n 0=bI ns [aD (aP aC 0 0)]:=fF λ j=>by
 by_cases h:j<ns;.simp[uD,h]
 rw[bE (by rw[yA];omega),bE sO]
def a6A(b ns n i:Nat)(h:i<ns):(uD b ns n i).set i [.sl (b+i) 0 n]=uD b ns n (i+1):=fF λ j=>by
 rw[dS];by_cases e:i=j;.subst e;rw[iP rfl,iP (by rw[yA];exact h)];simp[uD,h]
 rw[iN e];by_cases hj:j<ns
 .simp only[uD,aV,nD hj,bO];by_cases h1:j<i;.rw[iP h1,iP oO]
  rw[iN h1,iN oO]
 rw[bE (by rw[yA];omega),bE (by rw[yA];omega)]
def tO(b ns n:Nat):uD b ns n ns=(aR ns).map λ j=>[.sl (b+j) 0 n]:=fR λ j hj=>iP (dX.1 hj)
attribute [go_sem] yA zI zS
def aHS{f:Nat}:zD H f s (n+1) R↔zD H f s n R/\AM.look H (f+n)=aA ⟨s,aB,R n⟩:=by
 constructor;.exact λ h=>⟨λ g hg=>h g oO,h n oO⟩
 rintro⟨h1,h2⟩ g hg;by_cases e:g=n;.subst e;exact h2
 exact h1 g oO
def OQ{k2:Nat}(h:k<=k2):Mv kb k fr H k2 fr H:=λ hk=>⟨oO,λ Γ nt A0 w G ρ a hA hi=>by
 have hal:∀i,kI A0 kb k i->kI A0 kb k2 i:=λ i h'=>h'.imp id λ h''=>⟨h''.1,oO⟩;refine⟨G,ρ,⟨hi.rel.allow (bK H (kI A0 kb k2)) (λ id hn=>?_) (λ id B A' hs=>?_),hi.size,hi.defers,λ t v hv=>(hi.frm t v hv).mono (λ _ h=>h) (λ _ _=>rfl) (λ _ _=>rfl) hal (λ _ _=>dP rfl)⟩,lF _ _ _ _⟩;.simp only[bK,dL]at hn⊢;exact hn
 simp only[bK,aK]at hs;obtain⟨B1,h1,h2⟩:=hs;cases h2;exact⟨kI A0 kb k,by simp[bK,h1],hal⟩⟩
def aHR{f:Nat}:zD H f s 0 R=True:=eq_true λ g hg=>absurd hg (bU _)
attribute [go_sem] aHR
def tN{f:Nat}:zD H f s (n+1) R=(zD H f s n R/\AM.look H (f+n)=aA ⟨s,aB,R n⟩):=propext aHS
def bCO{ns x:Nat}(h:b+ns<=x)(hi:i<ns):((uD b ns n i).set i [.sl x 0 n]).map (λ row=>row.map (BS x (b+i)))=uD b ns n (i+1):=fF λ j=>by
 rw[aV,dS];by_cases e:i=j;.subst e;rw[iP rfl,iP (by rw[yA];exact hi)];simp only[uD,aV,nD hi,bO,bN,bV,BS,sw];rw[iP trivial,iP oO]
 rw[iN e];by_cases hj:j<ns
 .simp only[uD,aV,nD hj,bO];by_cases h1:j<i;.rw[iP h1,iP oO];simp only[bN,bV,BS,sw];rw[iN oO,iN oO]
  rw[iN h1,iN oO];rfl
 rw[bE (by rw[yA];omega),bE (by rw[yA];omega)];rfl
def IX{ns kk:Nat}(h:b+ns<=kk):((uD b ns n i).all λ row=>row.all (iL (kC kk)))=aB:=by
 rw[aY];intro row hr;simp only[uD,dM,dX]at hr;obtain⟨g,hg,rfl⟩:=hr;split;.simp[iL,kC];omega
 rfl
attribute [go_sem] IX tN
def a6B(cpus credit:Int)(ng n ns:Nat)(gF:Nat->List AVal)(hgone:(((aR ng).map gF).all λ row=>row.all AM.one)=aB)(h1:0<ng)(h2:ng<=1000)(h3:0<n)(h4:n<=1000)(h5:0<ns)(h6:ns<=1000)(k:Nat):
 Tr aG Γ 87 k [.agg [cpus,aD (aE aI credit),.rd 2 ng gF,.rd 1 n (λ _=>zI),.rd 1 n (λ _=>zI),(),.rd 1 ns (λ _=>[.rd 3 n (λ _=>zS)])]] []
  (λ k1 r1 H1=>k1=k+(16+ns)/\r1= .agg [cpus,aD (aE aI credit),.sl (k+10) 0 ng,.sl (k+11) 0 n,.sl (k+12) 0 n,(),.sl (k+14) 0 ns]∧
    H1=(k+10,⟨2,aB,(aR ng).map gF⟩)::(k+11,⟨1,aB,(aR n).map λ _=>zI⟩)::(k+12,⟨1,aB,(aR n).map λ _=>zI⟩)::(k+14,⟨1,aF,uD (k+15) ns n ns⟩)::nA (k+15) 3 ns (λ _=>(aR n).map λ _=>zS)):=by
 obtain⟨kx,hkx⟩:=xE (k+(16+ns));rw[<-hkx];have cG:=a3I ng gF (k+2) h1 oO hgone (Γ:=Γ);have zIone:(((aR n).map λ _=>zI).all λ row=>row.all AM.one)=aB:=jW _ _ λ _=>rfl;have zSone:(((aR n).map λ _=>zS).all λ row=>row.all AM.one)=aB:=jW _ _ λ _=>rfl;have cK:=aBV n (λ _=>zI) (k+4) h3 oO zIone (Γ:=Γ);have cU:=aBV n (λ _=>zI) (k+6) h3 oO zIone (Γ:=Γ);obtain⟨GR,eG⟩:=xE ((aR ng).map gF);obtain⟨KR,eK⟩:=xE ((aR n).map λ _=>zI);obtain⟨SR,eS⟩:=xE ((aR n).map λ _=>zS);rw[<-eG]at cG⊢
 rw[<-eK]at cK cU⊢
 rw[<-eS];obtain⟨RH,eRH⟩:=xE ((k+10,⟨2,aB,GR⟩)::(k+11,⟨1,aB,KR⟩)::(k+12,⟨1,aB,KR⟩)::(k+14,⟨1,aF,uD (k+15) ns n ns⟩)::nA (k+15) 3 ns (λ _=>SR):aS);obtain⟨RV,eRV⟩:=xE (.agg [.lit (.int .i64 cpus),.lit (.int .u64 credit),.sl (k+10) 0 ng,.sl (k+11) 0 n,.sl (k+12) 0 n,.lit (.slice aC 0 0),.sl (k+14) 0 ns]:AVal);refine Tr.mono (mO (kk:=kx) (V:=RV) (RH:=RH) oO ?_ ?_ ?_) (λ _ _ _ h=>⟨h.1,h.2.1.trans eRV,h.2.2.trans eRH⟩);.rw[eRV];simp-dsimp-implicitDefEqProofs (disch:=omega)only[go_sem,iO,TC,ltB_iff,aQ,↓reduceIte];try(simp only[aO,dTt];omega)
 .have hf:=BD (s:=3) (R:=λ _:Nat=>SR) (oO:k+15+ns<=kx);have ho:((uD (k+15) ns n ns).all λ row=>row.all (iL (kC kx)))=aB:=by rw[tO,aY];intro row hr;simp only[dM,dX]at hr;obtain⟨g,hg,rfl⟩:=hr;simp[iL,kC];omega
  rw[eRH];simp only[oU]at hf;simp only[oU,gI,hf,ho,kC,BO,BP,iE,aO,dTt];repeat'(first|(refine And.intro ?_ ?_)|omega|trivial)
 refine bR Tryz.func87 rfl 45 rfl bB ?_;have kp:=kN k [0,1,2,3,4,5,29,30,31,32];refine fW ?_;refine sJ [.gen (.sl (k+3) 0 ng) (k+4) [] [(k+3,⟨2,aB,GR⟩)]] ?_;refine fW ?_;have kp:Kp [0,1,2,3,4,5,29,30,31,32] (λ i=>if k<=i then i-k+4 else 0):=oR;refine RD [.gen (.sl (k+5) 0 n) (k+6) [] [(k+5,⟨1,aB,KR⟩)],.gen (.sl (k+7) 0 n) (k+8) [] [(k+7,⟨1,aB,KR⟩)],.ret ()] ?_;refine FN (zs ?_) (zs ?_) (zs ?_) (zs ?_);.exact cK
 .exact cU
 .exact bLQ
 refine fW ?_;refine cD (X:=Nat) rfl [0,1,2,3,4,5,29,30,31,32] kx (λ i=>[(31,i),(3,.sl (k+14) 0 ns)]) (λ i=>(k,⟨7,aF,[[cpus,aD (aE aI credit),.sl (k+10) 0 ng,.sl (k+11) 0 n,.sl (k+12) 0 n,(),.rd 1 ns (λ _=>[.rd 3 n (λ _=>zS)])]]⟩)::(k+1,⟨7,aB,[[(0:Int),aD (aE aI 0),(),(),(),(),()]]⟩)::(k+10,⟨2,aB,GR⟩)::(k+11,⟨1,aB,KR⟩)::(k+12,⟨1,aB,KR⟩)::(k+14,⟨1,decide (i=0),uD (k+15) ns n i⟩)::nA (k+15) 3 i (λ _=>SR)) (λ i=>i<=ns) (λ i=>ns-i) 0 ?_ (bF _) ?_;.rw[aYR];refine Mv.trans (OQ (k2:=kx) oO) (Mv.trans (Mv.swap (k+3) (k+10) ⟨oO,oO⟩ ⟨oO,oO⟩) (Mv.trans (Mv.swap (k+5) (k+11) ⟨oO,oO⟩ ⟨oO,oO⟩) (Mv.trans (Mv.swap (k+7) (k+12) ⟨oO,oO⟩ ⟨oO,oO⟩) (Mv.trans (Mv.swap (k+8) (k+14) ⟨oO,oO⟩ ⟨oO,oO⟩) (fM ?_)))));exact iC
 intro i hi;refine fM ?_;by_cases hi2:i<ns
 .have cS:=a3H n (λ _=>zS) kx h3 oO zSone (Γ:=Γ);rw[<-eS]at cS;have hset:=a6A (k+15) ns n i hi2;have hcg:(uD (k+15) ns n i)[i]? =aA [aD (aP aC 0 0)]:=by simp[uD,hi2]
  have uU:=hcg;refine fC λ ht=>?_;refine mS [.gen (.sl (kx+1) 0 n) (kx+2) [] [(kx+1,⟨3,aB,SR⟩)]] ?_;refine iA ?_ ?_;.exact cS
  refine fW ?_;refine⟨i+1,oO,oO,?_⟩;have hsw:=bCO (b:=k+15) (n:=n) (x:=kx+1) (by omega:k+15+ns<=kx+1) hi2;rw[gM k 15 i]at hsw;refine Mv.trans (Mv.swap (kx+1) (k+(15+i)) ⟨oO,oO⟩ ⟨oO,oO⟩) ?_;have uU:=zA hsw @tN;refine fM ?_;exact iC
 have hil:i=ns:=oO;subst hil;refine fC λ ht=>?_;have uU:=Go.AM.uU;refine kX ?_;refine⟨?_,?_⟩;.rw[eRV]
 rw[eRH];exact mX iV
end Go.Proofs.T
end
