import Derived.Test.YteimiejbhhgljaaGreatDoorZAG
set_option linter.unusedVariables false
set_option linter.unusedSimpArgs false
set_option maxHeartbeats 0
set_option maxRecDepth 100000
open Bool renaming and_eq_true->aH,eq_iff_iff->bH,false->aE,or_eq_true->bL,true->aB
open Int renaming fdiv_eq_ediv_of_nonneg->dU,le_refl->bR,natCast_nonneg->rT,toNat_natCast->bP
open Go.IntKind renaming i64->aL,u64->aY
open List renaming all_cons->fU,all_eq_true->aW,append_assoc->cM,append_nil->cZ,cons_append->aV,ext_getElem?->dZ,getD->oH,getD_eq_getElem?_getD->aR,getElem?_cons_zero->lF,getElem?_eq_getElem->aJ,getElem?_eq_none->aX,getElem?_set->dD,getElem?_set_self->fW,getElem_mem->JR,length_append->bM,length_cons->gS,length_nil->RY,length_set->oE,map->rS,map_append->aM,map_congr_left->fD,map_cons->bI,map_map->jM,map_nil->bQ,map_set->iX,mem_cons->eY,mem_cons_of_mem->dM,mem_map->dB,mem_range->dK,mem_singleton->MU,nil_append->aU,range->aN,take_of_length_le->kG
open Nat renaming add_assoc->gD,add_sub_cancel->a4V,add_sub_cancel_left->lE,le_refl->aF,le_succ->mF,lt_trichotomy->kA,mul_one->HW,not_lt_zero->bO,sub_self->RX,zero_add->fH,zero_le->aZ
open Option renaming none->aC,some->aA
open Go.Proofs.Tryz renaming func122->bKP,prog->aD
section
namespace Go.Proofs.T
open Go Go.AM Go.Proofs
variable{Γ:dL}
theorem zO{R:List (List AVal)}{n:Nat}{f:Nat->List AVal}(hn:R.length=n)(hf:∀i,i<n->R[i]? =aA (f i)):R=(aN n).map f:=dZ λ i=>by
 by_cases h:i<n;.rw[hf i h];simp[h]
 rw[aX oO,aX (by simp;omega)]
theorem aWT(R:List (List AVal))(n:Nat)(f:Nat->List AVal)(id k:Nat)(hn:R.length=n)(hn0:0<n)(hn2:n<=100000)(hone:(R.all λ row=>row.all AM.one)=aB)(hf:∀i,i<n->R[i]? =aA (f i))(hk:id<k):
 Tr aD Γ 121 k [.sl id 0 n] [(id,⟨1,aB,R⟩)] (λ k1 r1 H1=>k1=k+2/\r1= .rd 1 n f/\H1=[(id,⟨1,aB,R⟩)]):=by have hR:R=(aN n).map f:=zO hn hf;obtain⟨RH,eRH⟩:∃x:aO,x=[(id,⟨1,aB,R⟩)]:=⟨_,rfl⟩;refine Tr.mono (dR (kk:=k+2) (V:= .rd 1 n f) (RH:=RH) oO rfl (by rw[eRH];exact jB (by simp only[jS,dTt];omega) rfl) ?_) (λ _ _ _ h=>⟨h.1,h.2.1,h.2.2.trans eRH⟩);have hle:(n<=R.length)=True:=eq_true oO;have htk:List.take n R=R:=kG oO;have hne:¬n=0:=oO;refine cN Tryz.func121 rfl 8 rfl bB ?_;have kp:=gZ k [0,2,4];have uU:=ID hle htk hone hne hn0;refine fC ?_;refine dI λ ht=>?_;refine gL (gK (k+1) (B:=⟨1,aB,R⟩) (by simp(disch:=omega)only[AM.look,gY,↓reduceIte]) rfl) ?_;simp-dsimp-implicitDefEqProofs only[pS,jA,go_sem,hle,htk,hone,hne,hn0,eq_self,↓reduceIte];refine gL (JQ 2 rfl (by rw[hR];exact vW _ _ _)) ?_;refine fJ ?_;apply zN;have uU:=ID hle htk hone hne hn0;refine kJ (zN ?_);refine⟨rfl,?_⟩;rw[eRH];exact fJ gG
theorem a9V(R:List (List AVal))(n:Nat)(f:Nat->List AVal)(id k:Nat)(hn:R.length=n)(hn0:0<n)(hn2:n<=100000)(hone:(R.all λ row=>row.all AM.one)=aB)(hf:∀i,i<n->R[i]? =aA (f i))(hk:id<k):
 Tr aD Γ 120 k [.sl id 0 n] [(id,⟨2,aB,R⟩)] (λ k1 r1 H1=>k1=k+2/\r1= .rd 2 n f/\H1=[(id,⟨2,aB,R⟩)]):=by have hR:R=(aN n).map f:=zO hn hf;obtain⟨RH,eRH⟩:∃x:aO,x=[(id,⟨2,aB,R⟩)]:=⟨_,rfl⟩;refine Tr.mono (dR (kk:=k+2) (V:= .rd 2 n f) (RH:=RH) oO rfl (by rw[eRH];exact jB (by simp only[jS,dTt];omega) rfl) ?_) (λ _ _ _ h=>⟨h.1,h.2.1,h.2.2.trans eRH⟩);have hle:(n<=R.length)=True:=eq_true oO;have htk:List.take n R=R:=kG oO;have hne:¬n=0:=oO;refine cN Tryz.func120 rfl 8 rfl bB ?_;have kp:=gZ k [0,2,4];have uU:=ID hle htk hone hne hn0;refine fC ?_;refine dI λ ht=>?_;refine gL (gK (k+1) (B:=⟨2,aB,R⟩) (by simp(disch:=omega)only[AM.look,gY,↓reduceIte]) rfl) ?_;simp-dsimp-implicitDefEqProofs only[pS,jA,go_sem,hle,htk,hone,hne,hn0,eq_self,↓reduceIte];refine gL (JQ 2 rfl (by rw[hR];exact vW _ _ _)) ?_;refine fJ ?_;apply zN;have uU:=ID hle htk hone hne hn0;refine kJ (zN ?_);refine⟨rfl,?_⟩;rw[eRH];exact fJ gG
theorem a9T(R:List (List AVal))(n:Nat)(f:Nat->List AVal)(id k:Nat)(hn:R.length=n)(hn0:0<n)(hn2:n<=100000)(hone:(R.all λ row=>row.all AM.one)=aB)(hf:∀i,i<n->R[i]? =aA (f i))(hk:id<k):
 Tr aD Γ 122 k [.sl id 0 n] [(id,⟨8,aB,R⟩)] (λ k1 r1 H1=>k1=k+2/\r1= .rd 8 n f/\H1=[(id,⟨8,aB,R⟩)]):=by have hR:R=(aN n).map f:=zO hn hf;obtain⟨RH,eRH⟩:∃x:aO,x=[(id,⟨8,aB,R⟩)]:=⟨_,rfl⟩;refine Tr.mono (dR (kk:=k+2) (V:= .rd 8 n f) (RH:=RH) oO rfl (by rw[eRH];exact jB (by simp only[jS,dTt];omega) rfl) ?_) (λ _ _ _ h=>⟨h.1,h.2.1,h.2.2.trans eRH⟩);have hle:(n<=R.length)=True:=eq_true oO;have htk:List.take n R=R:=kG oO;have hne:¬n=0:=oO;refine cN bKP rfl 8 rfl bB ?_;have kp:=gZ k [0,2,4];have uU:=ID hle htk hone hne hn0;refine fC ?_;refine dI λ ht=>?_;refine gL (gK (k+1) (B:=⟨8,aB,R⟩) (by simp(disch:=omega)only[AM.look,gY,↓reduceIte]) rfl) ?_;simp-dsimp-implicitDefEqProofs only[pS,jA,go_sem,hle,htk,hone,hne,hn0,eq_self,↓reduceIte];refine gL (JQ 2 rfl (by rw[hR];exact vW _ _ _)) ?_;refine fJ ?_;apply zN;have uU:=ID hle htk hone hne hn0;refine kJ (zN ?_);refine⟨rfl,?_⟩;rw[eRH];exact fJ gG
theorem a3P(R:List (List AVal))(f:Nat->List AVal)(id k:Nat)(hk:id<k):
 Tr aD Γ 122 k [.sl id 0 0] [(id,⟨8,aB,R⟩)] (λ k1 r1 H1=>k1=k+2/\r1= .rd 8 0 f/\H1=[(id,⟨8,aB,R⟩)]):=by
 obtain⟨RH,eRH⟩:∃x:aO,x=[(id,⟨8,aB,R⟩)]:=⟨_,rfl⟩;refine Tr.mono (dR (kk:=k+2) (V:= .rd 8 0 f) (RH:=RH) oO rfl (by rw[eRH];exact jB (by simp only[jS,dTt];omega) rfl) ?_) (λ _ _ _ h=>⟨h.1,h.2.1,h.2.2.trans eRH⟩);refine cN bKP rfl 8 rfl bB ?_;refine aLP 0 rfl dV (λ _=>?_) (λ cap hc1 hc2=>?_);.refine fJ ?_;apply zN;have kp:=gZ k [0,2,4];refine fC ?_;refine dI λ ht=>?_;refine gL (JQ 2 rfl (VLe.nil 8 f)) ?_;refine fJ ?_;apply zN;refine kJ (zN ?_);refine⟨rfl,?_⟩;rw[eRH];exact fJ gG
 refine fJ ?_;apply zN;have kp:=gZ k [0,2,4];refine fC ?_;refine cA ?_;refine pP [.raw (aA 4) ⟨.lit (.bool aE),k,[],[id]⟩] ?_;refine iE ?_ ?_;.exact JU (e:=89) rfl iF rfl dV rfl
 refine fC ?_;refine dI λ ht=>?_;refine gL (NF 0 rfl) ?_;refine fJ ?_;apply zN;refine fC ?_;refine cA ?_;refine gL (gK k (B:=⟨8,aB,[]⟩) (by simp(disch:=omega)only[AM.look,gY,↓reduceIte]) rfl) ?_;simp-dsimp-implicitDefEqProofs only[pS,jA,go_sem,eq_self,↓reduceIte];refine gL (JQ (v:= .rd 8 0 f) 2 rfl (VLe.rd λ i hi=>absurd hi (bO _))) ?_;refine fJ ?_;apply zN;refine kJ (zN ?_);refine⟨rfl,?_⟩;rw[eRH];exact fJ gG
theorem a2P{f s n:Nat}{R:Nat->List (List AVal)}{id:Nat}{B:Blk}:(mE f s n R).map (λ x=>(x.1,LG id B x.2))=mE f s n R:=by
 induction n generalizing f R with
 |zero=>rfl
 |succ n ih=>simp only[mE,bI];rw[ih];rfl
theorem aUY{f s n:Nat}{R:Nat->List (List AVal)}{id:Nat}{B:Blk}(h:id<f\/f+n<=id):yZ id B (mE f s n R)=mE f s n R:=by unfold yZ;rw[PO h,a2P]
theorem a0W{m a:Nat}{L:LSt}{B:Blk}(h:m+6+L.sl.length<=a):(GD m L).map (λ row=>row.map (kH a B))=GD m L:=by unfold GD;rw[jM];refine fD λ g hg=>?_;have:=dK.1 hg;simp only[Function.comp,ouF,bI,bQ,kH];rw[iN oO]
attribute [go_sem] aUY a0W
theorem a0C(L:LSt)(g:Nat):((BB L g).all λ row=>row.all AM.one)=aB:=by rw[aW];intro row h;simp only[BB,dB]at h;obtain⟨t,_,rfl⟩:=h;rfl
theorem a9U(L:LSt)(g n:Nat)(m tk k:Nat)(hm:m+6+L.sl.length<=tk)(hk:tk<k)(hg:g<L.sl.length)(hn:(L.sl.getD g []).length=n)(hn0:0<n)(hn2:n<=1000):
 Tr aD Γ 124 k [.sl (m+(6+g)) 0 n] (MH m tk L) (λ k1 r1 H1=>k1=k+2/\r1= .rd 3 n (sf L.st g)/\H1=MH m tk L):=by
 obtain⟨RH,eRH⟩:∃x:aO,x=MH m tk L:=⟨_,rfl⟩;refine Tr.mono (dR (kk:=k+2) (V:= .rd 3 n (sf L.st g)) (RH:=RH) oO rfl (by rw[eRH];exact fL oO oO) ?_) (λ _ _ _ h=>⟨h.1,h.2.1,h.2.2.trans eRH⟩);have hl:(BB L g).length=n:=by rw[CR,hn]
 have hR:BB L g=(aN n).map (sf L.st g):=zO hl (λ i hi=>by rw[VO (by rw[hn];exact hi)];rfl);obtain⟨R,eR⟩:∃R,R=BB L g:=⟨_,rfl⟩;have hle:(n<=(BB L g).length)=True:=eq_true oO;have htk:List.take n (BB L g)=BB L g:=kG oO;have hone:=a0C L g;have hne:¬n=0:=oO;refine cN Tryz.func124 rfl 8 rfl bB ?_;simp only[MH,LH];have kp:=gZ k [0,2,4];have uU:=rA hn hle htk hone hne hn0;refine fC ?_;refine dI λ ht=>?_;refine gL (gK (k+1) (B:=⟨3,aB,BB L g⟩) (by simp(disch:=omega)only[AM.look,gY,↓reduceIte]) rfl) ?_;simp-dsimp-implicitDefEqProofs only[pS,jA,go_sem,hn,hle,htk,hone,hne,hn0,eq_self,↓reduceIte];refine gL (JQ 2 rfl (by rw[hR];exact vW _ _ _)) ?_;refine fJ ?_;apply zN;have uU:=rA hn hle htk hone hne hn0;refine kJ (zN ?_);refine⟨rfl,?_⟩;rw[eRH];simp only[MH,LH];exact fJ gG
theorem QJ{id s:Nat}{l:List (List AVal)}{H:aO}:cL id s l []++H=cL id s l H:=by cases l<;>rfl
theorem aOL{id t s f n:Nat}{l:List (List AVal)}{H:aO}{R:Nat->List (List AVal)}(h:id<f\/f+n<=id):xW (cL id t l H) f s n R=xW H f s n R:=by
 cases l with
 |nil=>rfl
 |cons a r=>exact PG h
attribute [go_sem] aOL
theorem bFS{a b k id:Nat}{A B:Blk}{H:aO}{l:List (List AVal)}{y:Option AVal}(h1:a≠id)(h2:b≠id)(hid:id<k):
 kI aD (AM.look ((a,A)::(b,B)::cL id 1 l H)) k 26 (aA (dG id l)) y=appR 1 8 k id l (y.bind (CK (AM.look ((a,A)::(b,B)::cL id 1 l H)))):=
 zU y5 (by rw[FG h1,FG h2,QI];trivial) hid
theorem aDR{m tk n id s t:Nat}{l:List (List AVal)}{B0 B1 B2 B3 B5 B6:Blk}{R:Nat->List (List AVal)}(h1:tk<id)(h2:m+6+n<=tk):
 lK (cL id s l ((m,B0)::(m+1,B1)::(m+2,B2)::(m+3,B3)::(m+5,B5)::(tk,B6)::mE (m+6) t n R)) (vV id l)=(m,B0)::(m+1,B1)::(m+2,B2)::(m+3,B3)::(m+5,B5)::(tk,B6)::mE (m+6) t n R:=by
 refine YU ?_;simp only[del];repeat rw[iN oO]
 rw[PO oO]
theorem a7W{m a b:Nat}{L:LSt}(h1:m+6+L.sl.length<=a)(h2:m+6+L.sl.length<=b):(GD m L).map (λ row=>row.map (AP a b))=GD m L:=by unfold GD;rw[jM];refine fD λ g hg=>?_;have:=dK.1 hg;simp only[Function.comp,ouF,bI,bQ,AP,sw];rw[iN oO,iN oO]
attribute [go_sem] bFS aDR a7W
theorem wgD{kb k:Nat}{fr:Fr}{H:aO}{k1:Nat}{fr1:Fr}{H1:aO}(hb:kb<=k1:=by omega)(hf:leF fr fr1:=by simp-dsimp-implicitDefEqProofs (disch:=omega)only[go_sem,gY,aM,eq_self,↓reduceIte])(hH:QS H H1:=by simp-dsimp-implicitDefEqProofs (disch:=omega)only[go_sem,gY,aM,eq_self,↓reduceIte])(h:bdF (jS k1) fr1=aB:=by simp-dsimp-implicitDefEqProofs (disch:=omega)only[go_sem,gY,RE,ltB_iff,aM,eq_self,↓reduceIte])(h':oM (jS k1) H1=aB:=by simp-dsimp-implicitDefEqProofs (disch:=omega)only[go_sem,gY,RE,ltB_iff,aM,eq_self,↓reduceIte]):WkG kb k fr H k1 fr1 H1:=
 pH hb hf hH h h'
def tG(L:LSt):Nat->Nat->Nat->List Nat
 |0,_,_=>[]
 |f+1,g,c=>if g=0 then []else if(FL L g c).isSome=aB then []else g::tG L f (L.par g).toNat c
theorem zG{L:LSt}{n c:Nat}(h:Rt0 L n):∀ {f g:Nat},g<L.sl.length->∀x,x∈tG L f g c->0<x/\x<L.sl.length
 |0,_,_,x,hx=>by simp[tG]at hx
 |f+1,g,hg,x,hx=>by
  rw[tG]at hx;split at hx;.simp at hx
  split at hx;.simp at hx
  rcases eY.1 hx with rfl|hx;.exact⟨oO,hg⟩
  have:=h.par g oO hg;exact zG h oO x hx
theorem zH{L:LSt}{n c:Nat}(h:Rt0 L n):∀ {f g:Nat},g<L.sl.length->(tG L f g c).length<=g
 |0,_,_=>aZ _
 |f+1,g,hg=>by
  rw[tG];split;.exact aZ _
  split;.exact aZ _
  have:=h.par g oO hg;have:=zH h (f:=f) (g:=(L.par g).toNat) (c:=c) oO;simp only[gS];omega
theorem a8T{l:List Nat}{g:Nat}:gR (l++[g])=gR l++[[.lit (.int .i64 (g:Int))]]:=by simp[gR]
theorem empty(L:LSt)(n c g0:Nat)(hS:Rt0 L n)(hc:c<n)(hg0:g0<L.sl.length)(E:List Nat)(hE:E=tG L L.sl.length g0 c)(m tk k:Nat)(hm:m+6+L.sl.length<=tk)(hk:tk<k):
 Tr aD Γ 161 k [.ptr m 0 0,g0,c] (MH m tk L) (λ k1 r1 H1=>k1=k+1/\r1=dG k (gR E)/\H1=cL k 1 (gR E) (MH m tk L)):=by
 obtain⟨RH,eRH⟩:∃x:aO,x=cL k 1 (gR E) (MH m tk L):=⟨_,rfl⟩;obtain⟨RV,eRV⟩:∃x:AVal,x=dG k (gR E):=⟨_,rfl⟩;refine Tr.mono (dR (kk:=k+1) (V:=RV) (RH:=RH) oO (by rw[eRV];exact aHJ (by simp only[jS,dTt];omega)) (by rw[eRH,MP (by simp only[jS,dTt];omega)];exact fL oO oO) ?_) (λ _ _ _ h=>⟨h.1,h.2.1.trans eRV,h.2.2.trans eRH⟩);obtain⟨F,hF⟩:∃F:List Nat->aO,∀l,F l=cL k 1 (gR l) (MH m tk L):=⟨_,λ _=>rfl⟩;have hS2:=hS.shp;have hns:=hS.ns;refine cN Tryz.func161 rfl 35 rfl bB ?_;have kp:=gZ k [0,1,2,6,7,9,11,29];refine fC ?_;refine cA ?_;refine bY (X:=Nat×Nat×List Nat) rfl [0,1,2,6,7,9,11,29] (k+1) (λ x=>[(1,x.1),(7,dG k (gR x.2.2))]) (λ x=>F x.2.2) (λ x=>x.1<L.sl.length/\x.1<x.2.1/\E=x.2.2++tG L x.2.1 x.1 c/\x.2.2.length+x.1<=256) (λ x=>x.2.1) (g0,L.sl.length,[]) ?_ ⟨hg0,hg0,hE,by show 0+g0<=256;omega⟩ ?_;.rw[hF,show gR []=[]from rfl];simp only[MH,LH];refine fJ ?_;apply zN;exact gM
 rintro⟨g,f,l⟩ ⟨h1,h2,h3,h4⟩;simp only[]at h1 h2 h3 h4;obtain⟨f,rfl⟩:∃f',f=f'+1:=⟨f-1,oO⟩;rw[tG]at h3;rw[hF];have hap:rL (cL k 1 (gR l) []) (MH m tk L) (MH m tk L):=cB (λ i hi=>by rw[GJ oO];rfl) rfl;simp only[MH,LH];refine fJ ?_;apply zN;refine fC ?_;refine oT (λ ht=>?_) λ ht=>?_
 .have hg0:g≠0:=oO;rw[iN hg0]at h3;have hng:=hS.ng;obtain⟨hp0,hp1⟩:=hS.par g oO h1;obtain⟨p,hp⟩:∃p:Nat,L.par g=(p:Int):=⟨(L.par g).toNat,oO⟩
  cases hl:FL L g c with
  |some x=>
   rw[hl,iP (show(aA x).isSome=aB from rfl),cZ]at h3;have uU:= @QJ;refine pP [.far (.tup [.agg [.lit (.int .u64 x.v),.lit (.int .u64 x.b),.lit (.int .u64 x.x)],aB]) (k+1) (cL k 1 (gR l) []) (MH m tk L) (MH m tk L)] ?_;refine jV (zs ?_) (zs ?_) (zs ?_);.exact λ _=>rfl
   .have:=aFG L n c hS2 hc m tk hm g h1 (k+1) oO (Γ:=Γ);rw[hl]at this;exact this
   simp only[MH,LH];refine fJ ?_;apply zN;refine fC ?_;refine dI λ ht=>?_;have uU:= @QJ;refine kJ (zN ?_);refine⟨?_,?_⟩;.rw[eRV,h3]
   rw[eRH,h3];simp only[MH,LH];exact fJ gG
  |none=>
   rw[hl,iN sS,hp,bP]at h3;have uU:=zA @QJ hp;refine pP [.far (.tup [.agg [.lit (.int .u64 18446744073709551615),.lit (.int .u64 18446744073709551615),.lit (.int .u64 18446744073709551615)],aE]) (k+1) (cL k 1 (gR l) []) (MH m tk L) (MH m tk L)] ?_;refine jV (zs ?_) (zs ?_) (zs ?_);.exact λ _=>rfl
   .have:=aFG L n c hS2 hc m tk hm g h1 (k+1) oO (Γ:=Γ);rw[hl]at this;exact this
   simp only[MH,LH];refine fJ ?_;apply zN;refine fC ?_;refine dI λ ht=>?_;refine⟨(p,f,l++[g]),⟨by show p<L.sl.length;omega,by show p<f;omega,by rw[h3,cM];rfl,by simp only[bM,gS,RY];omega⟩,by show f<f+1;omega,?_⟩;rw[hF,a8T];simp only[MH,LH];refine fJ ?_;apply zN;exact DZ (k+3) k wgD
 have hg0:g=0:=oO;rw[iP hg0,cZ]at h3;have uU:=Go.AM.uU;refine kJ (zN ?_);refine⟨?_,?_⟩;.rw[eRV,h3]
 rw[eRH,h3];simp only[MH,LH];exact fJ gG
theorem aJP(a b c:Int):Pure aD Γ 78 [.agg [.lit (.int .u64 a),.lit (.int .u64 b),.lit (.int .u64 c)]] (.lit (.int .u64 a)):=by refine bT Tryz.func78 rfl 5 rfl bB rfl λ k=>?_;have kp:=gZ k [0,1,2];refine fC ?_;refine cA ?_;refine bV rfl ⟨_,rfl,bC ?_⟩;rfl
def LE(a b:Int):Int:=if b>a then b else a
def rise1(L:LSt)(g c:Nat):LSt:=match FL L g c with
 |none=>L
 |some x=>L.setS g c {L.sp g c with floor:=LE (L.sp g c).floor x.v}
theorem aNA{L:LSt}{g c:Nat}:(rise1 L g c).sl.length=L.sl.length:=by
 unfold rise1;split;.rfl
 exact rY
theorem bCN{L:LSt}{n g c:Nat}{x:Mb}(h:Rt0 L n)(hg:g<L.sl.length)(hc:c<n)(hl:FL L g c=aA x):0<=x.v/\x.v<=18446744073709551615:=by
 rcases WJ hg hl with⟨j,h1,h2,rfl⟩|⟨j,h1,h2,h3,h4,rfl⟩;.have:=h.tk j h1;exact⟨this.v0,this.v1⟩
 have:=h.sp j c h2 hc;exact⟨this.2.1,this.2.2.1⟩
theorem Rt0.rise1 {L:LSt}{n g c:Nat}(h:Rt0 L n)(hg:g<L.sl.length)(hc:c<n):Rt0 (rise1 L g c) n:=by
 unfold T.rise1;split;.exact h
 rename_i x hl;have hv:=bCN h hg hc hl;obtain⟨a1,a2,a3,a4,a5,a6⟩:=h.sp g c hg hc;refine h.setS hg hc ⟨a1,a2,a3,a4,?_,?_⟩ (λ e=>by subst e;exact h.root c hc);.show 0<=LE _ _;unfold LE;split<;>omega
 show LE _ _<=_;unfold LE;split<;>omega
def SW(L:LSt)(g:Nat):Nat->LSt
 |0=>L
 |j+1=>rise1 (SW L g j) g j
def rgN(L:LSt)(n:Nat):Nat->LSt
 |0=>L
 |i+1=>SW (rgN L n i) i n
def xJ(L:LSt)(n:Nat):LSt:=rgN L n L.sl.length
theorem VV{L:LSt}{n g:Nat}(h:Rt0 L n)(hg:g<L.sl.length):∀ {j:Nat},j<=n->Rt0 (SW L g j) n/\(SW L g j).sl.length=L.sl.length
 |0,_=>⟨h,rfl⟩
 |j+1,hj=>by obtain⟨h1,h2⟩:=VV h hg (j:=j) oO;exact⟨h1.rise1 oO oO,by rw[SW,aNA,h2]⟩
theorem NP{L:LSt}{n:Nat}(h:Rt0 L n):∀ {i:Nat},i<=L.sl.length->Rt0 (rgN L n i) n/\(rgN L n i).sl.length=L.sl.length
 |0,_=>⟨h,rfl⟩
 |i+1,hi=>by obtain⟨h1,h2⟩:=NP h (i:=i) oO;obtain⟨h3,h4⟩:=VV h1 (g:=i) oO (aF n);exact⟨h3,by rw[rgN,h4,h2]⟩
theorem bHL(L:LSt)(n:Nat)(hS:Rt0 L n)(m tk k:Nat)(hm:m+6+L.sl.length<=tk)(hk:tk<k):
 Tr aD Γ 97 k [.ptr m 0 0] (MH m tk L) (λ k1 r1 H1=>k1=k/\r1= .tup []/\H1=MH m tk (xJ L n)):=by
 have hR:Rt0 (xJ L n) n/\(xJ L n).sl.length=L.sl.length:=NP hS (aF _);have hR2:=hR.2;obtain⟨RH,eRH⟩:∃x:aO,x=MH m tk (xJ L n):=⟨_,rfl⟩;refine Tr.mono (dR (kk:=k) (V:= .tup []) (RH:=RH) oO rfl (by rw[eRH];exact fL oO oO) ?_) (λ _ _ _ h=>⟨h.1,h.2.1,h.2.2.trans eRH⟩);obtain⟨F,hF⟩:∃F:Nat->aO,∀i,F i=MH m tk (rgN L n i):=⟨_,λ _=>rfl⟩;refine cN Tryz.func97 rfl 45 rfl bB ?_;simp only[MH,LH];have kp:=gZ k [0,2,3,4,5,6,11,12,13,14,19,20,21,30];refine fC ?_;refine cA ?_;refine bY (X:=Nat) rfl [0,2,3,4,5,6,11,12,13,14,19,20,21,30] k (λ i=>[(13,i)]) (λ i=>F i) (λ i=>i<=L.sl.length) (λ i=>L.sl.length-i) 0 ?_ (aZ _) ?_;.rw[hF,rgN];simp only[MH,LH];refine fJ ?_;apply zN;exact gM
 intro i hi;obtain⟨hM,hMl⟩:=NP hS hi;have hsucc:rgN L n (i+1)=SW (rgN L n i) i n:=rfl;have hlast:i=L.sl.length->xJ L n=rgN L n i:=λ e=>by rw[e];rfl
 rw[hF i];obtain⟨M,eM⟩:∃M,M=rgN L n i:=⟨_,rfl⟩;rw[<-eM]at hM hMl hsucc hlast⊢
 have hns:=hS.ns;have hn64:=hS.n64;obtain⟨nl,enl⟩:∃x,x=L.sl.length:=⟨_,rfl⟩;rw[<-enl]at hi hlast hMl hm hns⊢
 simp only[MH,LH];have uU:=hMl;refine fJ ?_;apply zN;by_cases hi2:i<nl
 .have hrow:=hM.rows i oO;have uU:=zA hMl hrow;refine fC ?_;refine dI λ ht=>?_;obtain⟨F2,hF2⟩:∃F2:Nat->aO,∀j,F2 j=MH m tk (SW M i j):=⟨_,λ _=>rfl⟩;refine bY (X:=Nat) rfl [0,2,3,4,5,6,11,12,13,14,19,20,21,30] k (λ j=>[(20,j)]) (λ j=>F2 j) (λ j=>j<=n) (λ j=>n-j) 0 ?_ (aZ _) ?_;.rw[hF2,SW];simp only[MH,LH];refine fJ ?_;apply zN;exact gM
  intro j hj;obtain⟨hN,hNl⟩:=VV hM (g:=i) oO hj;rw[hMl]at hNl;have hsucc2:SW M i (j+1)=rise1 (SW M i j) i j:=rfl;have hlast2:j=n->SW M i n=SW M i j:=λ e=>by rw[e]
  rw[hF2 j];obtain⟨N,eN⟩:∃N,N=SW M i j:=⟨_,rfl⟩;rw[<-eN]at hN hNl hsucc2 hlast2⊢
  have hrow2:=hN.rows i oO;simp only[MH,LH];have uU:=zA hNl hrow2;refine fJ ?_;apply zN;by_cases hj2:j<n
  .have hlst:=aFG N n j hN.shp hj2 m tk oO i oO k hk (Γ:=Γ)
   cases hl:FL N i j with
   |none=>
    rw[hl]at hlst;rw[show rise1 N i j=N by rw[rise1,hl]]at hsucc2;refine fC ?_;refine dI λ ht=>?_;refine pP [.far (.tup [.agg [.lit (.int .u64 18446744073709551615),.lit (.int .u64 18446744073709551615),.lit (.int .u64 18446744073709551615)],aE]) k [] (MH m tk N) (MH m tk N)] ?_;refine CM (zs ?_) (zs ?_) (zs ?_) (zs ?_);.intro q;simp only[MH,LH,fG,hNl]
    .exact cB (λ i hi=>by simp only[AM.look];repeat(rw[iN oO])) rfl
    .exact hlst
    simp only[MH,LH];refine fJ ?_;apply zN;refine fC ?_;refine dI λ ht=>?_;refine⟨j+1,oO,oO,?_⟩;rw[hF2,hsucc2];simp only[MH,LH];refine fJ ?_;apply zN;exact gM
   |some x=>
    rw[hl]at hlst;rw[show rise1 N i j=N.setS i j {N.sp i j with floor:=LE (N.sp i j).floor x.v}by rw[rise1,hl]]at hsucc2;refine fC ?_;refine dI λ ht=>?_;refine pP [.far (.tup [.agg [.lit (.int .u64 x.v),.lit (.int .u64 x.b),.lit (.int .u64 x.x)],aB]) k [] (MH m tk N) (MH m tk N)] ?_;refine CM (zs ?_) (zs ?_) (zs ?_) (zs ?_);.intro q;simp only[MH,LH,fG,hNl]
    .exact cB (λ i hi=>by simp only[AM.look];repeat(rw[iN oO])) rfl
    .exact hlst
    simp only[MH,LH];refine fJ ?_;apply zN;have kp:Kp [0,2,3,4,5,6,11,12,13,14,19,20,21,30] (λ i=>if k<=i then i-k+1 else 0):=jZ;refine fC ?_;refine dI λ ht=>?_;refine YO [.ret (.lit (.int .u64 x.v))] ?_;refine iE ?_ ?_;.exact aJP _ _ _
    refine fC ?_;refine cA ?_;refine⟨j+1,oO,oO,?_⟩;rw[hF2,hsucc2,MT oO];simp only[fG,spc,LE,hNl];refine fJ ?_;apply zN;exact gM
  have hj3:j=n:=oO;have kp:Kp [0,2,3,4,5,6,11,12,13,14,19,20,21,30] (λ i=>if k<=i then i-k+1 else 0):=jZ;refine fC ?_;refine dI λ ht=>?_;refine⟨i+1,oO,oO,?_⟩;rw[hF,hsucc,hlast2 hj3];simp only[MH,LH];refine fJ ?_;apply zN;exact gM
 have hi3:i=nl:=oO;rw[hlast hi3]at eRH;have kp:Kp [0,2,3,4,5,6,11,12,13,14,19,20,21,30] (λ i=>if k<=i then i-k+1 else 0):=jZ;refine fC ?_;refine dI λ ht=>?_;refine⟨_,rfl,rfl,?_⟩;rw[eRH];simp only[MH,LH];exact fJ gG
def mce(s:St):List AVal:=[.lit (.int .i64 s.cpus),.lit (.int .u64 s.credit),.rd 2 s.ng (gf s),.rd 1 s.nk (kf s),.rd 1 s.nu (uf s),.rd 8 s.nt (tf s),.rd 1 s.ns (YK s),.lit (.bool aB)]
attribute [go_sem] mce
theorem Bor.lit {Hc:aO}{u:Value}:Bor Γ Hc (.lit u) (.lit u):=λ w G ρ H A cv _ _ hv=>by have e:=gO hv;rw[e];exact .lit
theorem rK{Hc:aO}{id n:Nat}{B:Blk}{F:Nat->List AVal}(hB:AM.look Hc id=aA B)(hn:n<=B.rows.length)(hF:∀i,i<n->(F i).length=B.sz)
 (h:∀i,i<n->∃row,B.rows[i]? =aA row/\∀(j:Nat) v v',row[j]? =aA v->(F i)[j]? =aA v'->Bor Γ Hc v v'):Bor Γ Hc (.sl id 0 n) (.rd B.sz n F):=
 Bor.sl hB oO hF λ i row j v v' hi hr hv hv'=>by obtain⟨row',h1,h2⟩:=h i hi;rw[fH]at hr;rw[h1]at hr;cases hr;exact h2 j v v' hv hv'
theorem nI{Hc:aO}{row:List AVal}(h:row.all (λ v=>match v with| .lit _=>aB|_=>aE)=aB):∀(j:Nat) v v',row[j]? =aA v->row[j]? =aA v'->Bor Γ Hc v v':=λ j v v' h1 h2=>by
 rw[h1]at h2;cases h2;have:=iT h h1
 cases v with
 |lit u=>exact Bor.lit
 |_=>cases this
theorem bAR{m tk:Nat}{L:LSt}(hm:m+6+L.sl.length<=tk):Bor Γ (MH m tk L) (.ptr m 0 0) (.rp (mce L.st)):=by
 have l0:AM.look (MH m tk L) m=aA ⟨8,aE,[fG m tk L]⟩:=aJV;have l1:AM.look (MH m tk L) (m+1)=aA ⟨2,aB,QT L⟩:=by simp only[MH,LH,AM.look];repeat(first|rw[iN oO]|rw[iP trivial])
 have l2:AM.look (MH m tk L) (m+2)=aA ⟨1,aB,RG L⟩:=by simp only[MH,LH,AM.look];repeat(first|rw[iN oO]|rw[iP trivial])
 have l3:AM.look (MH m tk L) (m+3)=aA ⟨1,aB,KW L⟩:=by simp only[MH,LH,AM.look];repeat(first|rw[iN oO]|rw[iP trivial])
 have l5:AM.look (MH m tk L) (m+5)=aA ⟨1,aE,GD m L⟩:=by simp only[MH,LH,AM.look];repeat(first|rw[iN oO]|rw[iP trivial])
 have l4:AM.look (MH m tk L) tk=aA ⟨8,aB,oJ L⟩:=by simp only[MH,LH,AM.look];repeat(first|rw[iN oO]|rw[iP trivial])
 have l6:∀g,g<L.sl.length->AM.look (MH m tk L) (m+6+g)=aA ⟨3,aB,BB L g⟩:=λ g hg=>by
  simp only[MH,LH,AM.look];repeat rw[iN oO]
  exact uV hg
 refine Bor.ptr l0 rfl rfl λ j v v' h1 h2=>?_;have b2:Bor Γ (MH m tk L) (.sl (m+1) 0 L.gl.length) (.rd 2 L.gl.length (gf L.st)):=rK l1 (by rw[MF];omega) (λ i _=>rfl) λ i hi=>⟨_,WV hi,nI rfl⟩;have b3:Bor Γ (MH m tk L) (.sl (m+2) 0 L.kl.length) (.rd 1 L.kl.length (kf L.st)):=rK l2 (by rw[MC];omega) (λ i _=>rfl) λ i hi=>⟨_,WN hi,nI rfl⟩;have b4:Bor Γ (MH m tk L) (.sl (m+3) 0 L.ul.length) (.rd 1 L.ul.length (uf L.st)):=rK l3 (by rw[FP];omega) (λ i _=>rfl) λ i hi=>⟨_,LN hi,nI rfl⟩;have b5:Bor Γ (MH m tk L) (.sl tk 0 L.tl.length) (.rd 8 L.tl.length (tf L.st)):=rK l4 (by rw[tN];omega) (λ i _=>rfl) λ i hi=>⟨_,wH hi,nI rfl⟩
 have b6:Bor Γ (MH m tk L) (.sl (m+5) 0 L.sl.length) (.rd 1 L.sl.length (YK L.st)):=rK l5 (by rw[aJC];omega) (λ i _=>rfl) λ i hi=>⟨_,aJD hi,λ j v v' h1 h2=>by
  match j with
  | 0=>
    simp only[lF,aA.injEq,YK]at h1 h2
    subst h1;subst h2
    exact rK (l6 i hi) (by rw[CR];exact aF _) (λ c _=>rfl) λ c hc=>⟨_,VO hc,nI rfl⟩
  |j+1=>simp[YK]at h1⟩
 match j with
 |0=>cases h1;cases h2;exact Bor.lit
 |1=>cases h1;cases h2;exact Bor.lit
 |2=>cases h1;cases h2;exact b2
 |3=>cases h1;cases h2;exact b3
 |4=>cases h1;cases h2;exact b4
 |5=>cases h1;cases h2;exact b5
 |6=>cases h1;cases h2;exact b6
 |7=>cases h1;cases h2;exact Bor.lit
 |j+8=>simp[fG]at h1
def tfL(L:LSt)(i:Nat):List AVal:=tkc (L.tsk i)
def gfL(L:LSt)(i:Nat):List AVal:=[.lit (.int .i64 (L.par i)),.lit (.int .i64 (L.wt i))]
def kfL(L:LSt)(i:Nat):List AVal:=[.lit (.int .i64 (L.clk i))]
def ufL(L:LSt)(i:Nat):List AVal:=[.lit (.int .i64 (L.cur i))]
def ssL(L:LSt)(g:Nat):List AVal:=[.rd 3 (L.sl.getD g []).length (λ c=>spc (L.sp g c))]
def mcL(L:LSt):List AVal:=[.lit (.int .i64 L.cpus),.lit (.int .u64 L.credit),.rd 2 L.gl.length (gfL L),.rd 1 L.kl.length (kfL L),.rd 1 L.ul.length (ufL L),.rd 8 L.tl.length (tfL L),.rd 1 L.sl.length (ssL L),.lit (.bool aB)]
attribute [go_sem] tfL gfL kfL ufL ssL mcL
theorem aXG(L:LSt)(id:Int)(p:Nat)(hp:aYN L id p)(hso:zZ L)(hnt:L.tl.length<=100000):
 Pure aD Γ 136 [.rd 8 L.tl.length (tfL L),id,.fn 137 []] (.tup [p,(decide (p<L.tl.length/\(L.tsk p).id=id))]):=by
 refine bT Tryz.func136 rfl 49 rfl bB rfl λ k=>?_;have kp:=gZ k [0,1,2,6,7,8,9,10,11,17,31];refine fC ?_;refine cA ?_;refine bY (X:=Nat×Nat) rfl [0,1,2,6,7,8,9,10,11,17,31] k (λ x=>[(9,x.1),(10,x.2)]) (λ x=>[]) (λ x=>x.1<=x.2/\x.2<=L.tl.length/\x.1<=p/\p<=x.2) (λ x=>x.2-x.1) (0,L.tl.length) ?_ ⟨aZ _,aF _,aZ _,hp.1⟩ ?_;.refine fJ ?_;apply zN;exact gM
 rintro⟨i,j⟩ ⟨h1,h2,h3,h4⟩;simp only[]at h1 h2 h3 h4;have e1:aY.wrap ((i:Int)+(j:Int))=(i:Int)+(j:Int):=wrap_u64 oO oO;have e2:((i:Int)+(j:Int)).fdiv (2^min 1 64)=(((i+j)/2:Nat):Int):=by rw[show(2:Int)^min 1 64=2 from rfl,dU _ oO];omega
 obtain⟨h,eh⟩:∃h,h=(i+j)/2:=⟨_,rfl⟩;rw[<-eh]at e2;have e3:aL.wrap (h:Int)=(h:Int):=wrap_i64 oO oO;refine fJ ?_;apply zN;have uU:=tZ e1 e2 e3;refine fC ?_;refine oT (λ ht=>?_) λ ht=>?_
 .refine pP [.ret (qU (L.tsk h).id id)] ?_;refine iE ?_ ?_;.exact aKS (L.tsk h) id
  refine fC ?_;refine oT (λ ht=>?_) λ ht=>?_
  .have hc:=cmpZ_neg.1 ht;have:h<p:=Nat.lt_of_not_le λ e=>by have:=hp.2.2 h e oO;omega
   refine⟨(h+1,j),⟨by show h+1<=j;omega,h2,by show h+1<=p;omega,h4⟩,by show j-(h+1)<j-i;omega,?_⟩;refine fJ ?_;apply zN;exact gM
  have hc:¬(L.tsk h).id<id:=λ e=>by have:=cmpZ_neg.2 e;omega
  have:p<=h:=Nat.le_of_not_lt λ e=>hc (hp.2.1 h e);refine⟨(i,h),⟨by show i<=h;omega,by show h<=L.tl.length;omega,h3,this⟩,by show h-i<j-i;omega,?_⟩;refine fJ ?_;apply zN;exact gM
 have hi:i=p:=oO;subst hi;refine pP [.ret (qU (L.tsk i).id id)] ?_;refine jV ⟨⟨λ hg=>⟨?_⟩⟩⟩ ⟨⟨λ hg=>⟨?_⟩⟩⟩ ⟨⟨λ hg=>⟨?_⟩⟩⟩;.exact aKS (L.tsk i) id
 .refine bV rfl ⟨_,rfl,bC ?_⟩
  rw[show(qU (L.tsk i).id id==0)=decide (i<L.tl.length/\(L.tsk i).id=id)by
   rw[bH,beq_iff_eq,dTt,UM];constructor;.intro h;exact⟨oO,h⟩
   exact λ h=>h.2]
 refine bV rfl ⟨_,rfl,bC ?_⟩;rw[decide_eq_false (by rintro⟨h,_⟩;omega)]
theorem a5Y(L:LSt)(id r:Int)(hr:FJ L id r)(hso:zZ L)(hnt:L.tl.length<=100000):
 Pure aD Γ 76 [.rp (mcL L),id] r:=by
 obtain⟨p,hp⟩:=aEI L hso id
 have hrp:r=if p<L.tl.length/\(L.tsk p).id=id then(p:Int)else-1:=by
  rcases hr with⟨rfl,h⟩|⟨i,h1,rfl,h2⟩;.rw[iN (λ e=>h p e.1 e.2)]
  have:p=i:=by
   rcases kA p i with hc|hc|hc;.have:=hp.2.2 p (aF _) oO;have:=hso p i hc h1;omega
   .exact hc
   have:=hp.2.1 i hc;omega
  subst this;rw[iP ⟨h1,h2⟩]
 refine bT Tryz.func76 rfl 20 rfl bB rfl λ k=>?_;have kp:=gZ k [0,1,4,5,6,18];refine fC ?_;refine cA ?_;refine pP [.ret (.tup [p,(decide (p<L.tl.length/\(L.tsk p).id=id))])] ?_;refine iE ?_ ?_;.exact aXG L id p hp hso hnt
 refine fC ?_;refine oT (λ ht=>?_) λ ht=>?_;.refine bV rfl ⟨_,rfl,bC ?_⟩;rw[hrp,iN oO]
 refine bV rfl ⟨_,rfl,bC ?_⟩;rw[hrp,iP oO]
theorem aUD(L:LSt)(n c:Nat)(hS:Shp L n)(hc:c<n):∀(f g:Nat),g<L.sl.length->L.sl.length-g<=f→
 Pure aD Γ 77 [.rp (mcL L),g,c] (resL (iH L f g c)):=by
 obtain⟨hng,hrw,hnt,hns,htid,hspv⟩:=id hS;intro f
 induction f with
 |zero=>intro g hgS hf;omega
 |succ f ih=>
 intro g hgS hf;obtain⟨RV,eRV⟩:∃x,x=resL (iH L (f+1) g c):=⟨_,rfl⟩;rw[<-eRV];refine bT Tryz.func77 rfl 102 rfl bB (by rw[eRV];exact aIU _) λ k=>?_;have kp:=gZ k [0,1,2,6,7,8,9,10,12,13,15,22,23,24,25,41,60,74,82];refine fC ?_;refine cA ?_;refine bY (X:=Nat) rfl [0,1,2,6,7,8,9,10,12,13,15,22,23,24,25,41,60,74,82] (k+3) (λ i=>[(24,i)]) (λ i=>[(k+2,smb (lT L g c i)),(k+1,bst (lT L g c i)),(k,LD 0 0 0)]) (λ i=>i<=L.tl.length) (λ i=>L.tl.length-i) 0 ?_ (aZ _) ?_;.rw[show lT L g c 0=aC from rfl];have uU:=zA @bst.eq_1 @smb.eq_1;refine fJ ?_;apply zN;exact gM
 intro i hi;refine fJ ?_;apply zN;have e1:i<L.tl.length->aY.wrap (L.tsk i).id=(L.tsk i).id:=λ h=>by have:=htid i h;exact wrap_u64 oO oO
 refine fC ?_;refine zq5 ⟨λ ht ht=>⟨λ hg hg=>⟨?_⟩⟩⟩ ⟨λ ht ht=>⟨λ hg hg=>⟨?_⟩⟩⟩ ⟨λ ht ht=>⟨λ hg hg=>⟨?_⟩⟩⟩ ⟨λ ht ht=>⟨λ hg=>⟨?_⟩⟩⟩ ⟨λ ht=>zN ?_⟩
 .have e1':=e1 oO;have hx:=htid i oO;have uU:=e1';refine pP [.gen (.tup []) (k+5) [(k+1,bst (lT L g c i)),(k+2,smb (lT L g c i))] [(k+1,bst (FM (lT L g c i) (tmb (L.tsk i)))),(k+2,smb (FM (lT L g c i) (tmb (L.tsk i))))]] ?_;refine iE ?_ ?_;.exact WL (k+4) (k+1) (k+2) (lT L g c i) (tmb (L.tsk i)) oO oO oO hx.2.2 (by show(0:Int)<=1;omega)
  have uU:=Go.AM.uU;refine fC ?_;refine cA ?_;refine⟨i+1,oO,oO,?_⟩;rw[aKA (takes_iff.2 ⟨by assumption,by assumption,by assumption⟩)];refine fJ ?_;apply zN;exact gM
 iterate 3
  · refine⟨i+1,oO,oO,?_⟩
    rw[aKB (by rw[takes_iff];rintro⟨a1,a2,a3⟩;first|omega|(simp_all;done))]
    refine fJ ?_;apply zN
    exact gM
 have hi':i=L.tl.length:=oO;subst hi';clear hi e1;refine bY (X:=Nat) rfl [0,1,2,6,7,8,9,10,12,13,15,22,23,24,25,41,60,74,82] (k+3) (λ h=>[(13,h)]) (λ h=>[(k+2,smb (lS L (λ h=>iH L f h c) g c (h-(g+1)))),(k+1,bst (lS L (λ h=>iH L f h c) g c (h-(g+1)))),(k,LD 0 0 0)]) (λ h=>g+1<=h/\h<=L.sl.length) (λ h=>L.sl.length-h) (g+1) ?_ ⟨aF _,hgS⟩ ?_;.rw[RX,lS];refine fJ ?_;apply zN;exact gM
 rintro h ⟨h1,h2⟩;obtain⟨o,eo⟩:∃o,o=lS L (λ h=>iH L f h c) g c (h-(g+1)):=⟨_,rfl⟩;rw[<-eo];refine fJ ?_;apply zN;refine fC ?_;refine jV ⟨λ ht ht=>zN ?_⟩ ⟨λ ht ht=>zN ?_⟩ ⟨λ ht=>zN ?_⟩;.refine⟨h+1,⟨oO,oO⟩,oO,?_⟩;rw[MB h1 (by rintro⟨a1,_⟩;omega),<-eo];refine fJ ?_;apply zN;exact gM
 .have hr:=hrw h oO;have e2:aY.wrap (h:Int)=(h:Int):=wrap_u64 oO oO;obtain⟨q,eq⟩:∃q,q=iH L f h c:=⟨_,rfl⟩;obtain⟨q0,q1,q2,hq⟩:∃q0 q1 q2,mbc q=[.lit (.int .u64 q0),.lit (.int .u64 q1),.lit (.int .u64 q2)]:=⟨_,_,_,LY q⟩;have uU:=zA @resL.eq_1 hq;refine pP [.ret (resL q)] ?_;refine iE ?_ ?_;.have:=ih h oO oO;rw[<-eq]at this;unfold resL at this;rw[hq]at this;exact this
  have uU:=zA e2 hr;refine fC ?_;refine oT (λ ht=>?_) λ ht=>?_
  .refine pP [.gen (.tup []) (k+5) [(k+1,bst o),(k+2,smb o)] [(k+1,bst (FM o ⟨(L.sp h c).v,1,(h:Int)⟩)),(k+2,smb (FM o ⟨(L.sp h c).v,1,(h:Int)⟩))]] ?_;refine iE ?_ ?_;.exact WL (k+4) (k+1) (k+2) o ⟨(L.sp h c).v,1,(h:Int)⟩ oO oO oO (hspv h c oO hc) (bR _)
   have uU:=Go.AM.uU;refine fC ?_;refine cA ?_;refine⟨h+1,⟨oO,oO⟩,oO,?_⟩;rw[aKD h1 oO (by rw[<-eq];assumption),<-eo];refine fJ ?_;apply zN;exact gM
  refine⟨h+1,⟨oO,oO⟩,oO,?_⟩;rw[MB h1 (by rw[<-eq];rintro⟨_,a1⟩;simp_all),<-eo];have uU:=Go.AM.uU;refine fJ ?_;apply zN;exact gM
 have hh:h=L.sl.length:=oO;have eo':o=iH L (f+1) g c:=by rw[eo,hh];rfl
 rw[<-eo']at eRV;clear eo eo';obtain⟨q0,q1,q2,hq,hq'⟩:∃q0 q1 q2,bst o=LD q0 q1 q2/\mbc o=[.lit (.int .u64 q0),.lit (.int .u64 q1),.lit (.int .u64 q2)]:=⟨_,_,_,aLL o,LY o⟩;rw[hq];have uU:= @smb.eq_1;refine YO [] ?_;refine cA ?_;have uU:= @smb.eq_1;refine kJ (zN ?_);exact bC (by rw[eRV,resL,hq'])
theorem bCO(L:LSt)(n c g:Nat)(hS:Shp L n)(hc:c<n)(hg:g<L.sl.length):
 Pure aD Γ 77 [.rp (mcL L),g,c] (resL (FL L g c)):=
 aUD L n c hS hc L.sl.length g hg oO
theorem a8V(L:LSt)(n c:Nat)(hS:Shp L n)(hc:c<n)(h0:0<L.sl.length):
 Pure aD Γ 170 [.rp (mcL L),c] (xA L L.sl.length 0 c):=by
 obtain⟨RV,eRV⟩:∃x,x=AVal.lit (.int .i64 (xA L L.sl.length 0 c)):=⟨_,rfl⟩;rw[<-eRV];refine bT Tryz.func170 rfl 28 rfl bB (by rw[eRV];rfl) λ k=>?_;have kp:=gZ k [0,1,4,5,6,7,15,18];refine fC ?_;refine cA ?_;refine bY (X:=Nat×Nat) rfl [0,1,4,5,6,7,15,18] k (λ x=>[(5,x.1)]) (λ x=>[]) (λ x=>x.1<L.sl.length/\L.sl.length-x.1<=x.2/\xA L x.2 x.1 c=xA L L.sl.length 0 c) (λ x=>x.2) (0,L.sl.length) ?_ ⟨h0,aF _,rfl⟩ ?_;.refine fJ ?_;apply zN;exact gM
 rintro⟨g,f⟩ ⟨h1,h2,h3⟩;simp only[]at h1 h2 h3;obtain⟨f,rfl⟩:∃f',f=f'+1:=⟨f-1,oO⟩;rw[xA]at h3;rw[<-h3]at eRV;refine fJ ?_;apply zN
 cases hl:FL L g c with
 |none=>
  rw[hl]at eRV;simp only[]at eRV;refine fC ?_;refine cA ?_;refine pP [.ret (.tup [.agg [.lit (.int .u64 18446744073709551615),.lit (.int .u64 18446744073709551615),.lit (.int .u64 18446744073709551615)],aE])] ?_;refine iE ?_ ?_;.have:=bCO L n c g hS hc h1 (Γ:=Γ);rw[hl]at this;exact this
  refine fC ?_;refine dI λ ht=>?_;refine kJ (zN ?_);exact bC (by rw[eRV])
 |some x=>
  rw[hl]at eRV;simp only[]at eRV;have hx:=WJ h1 hl
  have hxx:0<=x.x/\x.x<=65535:=by
   rcases hx with⟨j,h4,h5,rfl⟩|⟨h,h4,h5,h6,h7,rfl⟩;.have:=hS.tid j h4;exact⟨this.1,this.2.1⟩
   have:=hS.ns;exact⟨by show(0:Int)<=(h:Int);omega,by show(h:Int)<=65535;omega⟩
  have e1:aL.wrap x.x=x.x:=wrap_i64 oO oO;have uU:=e1;refine fC ?_;refine cA ?_;refine pP [.ret (.tup [.agg [.lit (.int .u64 x.v),.lit (.int .u64 x.b),.lit (.int .u64 x.x)],aB])] ?_;refine iE ?_ ?_;.have:=bCO L n c g hS hc h1 (Γ:=Γ);rw[hl]at this;exact this
  refine fC ?_;refine SG ⟨λ ht ht=>zN ?_⟩ ⟨λ ht ht=>zN ?_⟩;.have uU:=e1;refine kJ (zN ?_);exact bC (by rw[eRV,iP oO])
  rcases hx with⟨j,h4,h5,rfl⟩|⟨h,h4,h5,h6,h7,rfl⟩;.exact absurd rfl (by assumption)
  refine⟨(h,f),⟨h5,oO,?_⟩,by show f<f+1;omega,?_⟩;.rw[<-h3,hl];rfl
  refine fJ ?_;apply zN;exact gM
theorem aZE(L:LSt)(c:Int)(hnt:L.tl.length<=100000):Pure aD Γ 173 [.rp (mcL L),c] (IE L c L.tl.length):=by
 obtain⟨RV,eRV⟩:∃x,x=AVal.lit (.int .i64 (IE L c L.tl.length)):=⟨_,rfl⟩;rw[<-eRV];refine bT Tryz.func173 rfl 32 rfl bB (by rw[eRV];rfl) λ k=>?_;have kp:=gZ k [0,1,4,5,7,12,13,14,15,25];refine fC ?_;refine cA ?_;refine bY (X:=Nat) rfl [0,1,4,5,7,12,13,14,15,25] k (λ i=>[(14,i),(5,(IE L c i))]) (λ i=>[]) (λ i=>i<=L.tl.length) (λ i=>L.tl.length-i) 0 ?_ (aZ _) ?_;.rw[IE];refine fJ ?_;apply zN;exact gM
 intro i hi;have hw1:(L.tsk i).ready=aB/\(L.tsk i).cpu=c->IE L c (i+1)=aL.wrap (IE L c i+(L.tsk i).weight):=λ h=>by rw[IE,iP h]
 have hw2:¬((L.tsk i).ready=aB/\(L.tsk i).cpu=c)->IE L c (i+1)=IE L c i:=λ h=>by rw[IE,iN h]
 obtain⟨w,ew⟩:∃w,w=IE L c i:=⟨_,rfl⟩;rw[<-ew]at hw1 hw2;rw[<-ew];refine fJ ?_;apply zN;refine fC ?_;refine CM ⟨λ ht ht=>⟨λ hg=>⟨?_⟩⟩⟩ ⟨λ ht ht=>⟨λ hg=>⟨?_⟩⟩⟩ ⟨λ ht ht=>⟨λ hg=>⟨?_⟩⟩⟩ ⟨λ ht=>zN ?_⟩;.refine⟨i+1,oO,oO,?_⟩;rw[hw1 ⟨by assumption,by assumption⟩];refine fJ ?_;apply zN;exact gM
 iterate 2
  · refine⟨i+1,oO,oO,?_⟩
    rw[hw2 (by rintro⟨a1,a2⟩;first|omega|(simp_all;done))]
    refine fJ ?_;apply zN
    exact gM
 have hi':i=L.tl.length:=oO;subst hi';refine kJ (zN ?_);exact bC (by rw[eRV,ew])
structure Opn where
 kind:Int
 cpu:Int
 task:Int
 group:Int
 weight:Int
 to:Int
 ticks:Int
 mask:Int
def gJ(o:Opn):List AVal:=[.lit (.int .u8 o.kind),.lit (.int .i64 o.cpu),.lit (.int .i64 o.task),.lit (.int .i64 o.group),.lit (.int .i64 o.weight),.lit (.int .i64 o.to),.lit (.int .i64 o.ticks),.lit (.int .u64 o.mask)]
attribute [go_sem] gJ
theorem SP{L:LSt}{c:Nat}{x:Int}:KW {L with ul:=L.ul.set c x}=(KW L).set c [x]:=by simp[KW,iX,inc]
def LSt.setU (L:LSt)(c:Nat)(x:Int):LSt:={L with ul:=L.ul.set c x}
theorem a4Z{m tk c:Nat}{L:LSt}{x:Int}:MH m tk (L.setU c x)=(m,⟨8,aE,[fG m tk L]⟩)::(m+1,⟨2,aB,QT L⟩)::(m+2,⟨1,aB,RG L⟩)::(m+3,⟨1,aB,(KW L).set c [x]⟩)::(m+5,⟨1,aE,GD m L⟩)::(tk,⟨8,aB,oJ L⟩)::mE (m+6) 3 L.sl.length (BB L):=by
 rw[MH,LH,LSt.setU,SP];have e:fG m tk {L with ul:=L.ul.set c x}=fG m tk L:=by simp[fG]
 rw[e];rfl
theorem ZI{L:LSt}{c d:Nat}{x:Int}(hc:c<L.ul.length):(L.setU c x).cur d=if d=c then x else L.cur d:=by
 unfold LSt.setU LSt.cur;simp only[aR,dD];by_cases h:d=c;.subst h;simp[hc]
 rw[iN (Ne.symm h),iN h]
theorem Rt0.setU {L:LSt}{n c:Nat}{x:Int}(h:Rt0 L n)(hc:c<n)(hx:x=0\/∃j,j<L.tl.length/\(L.tsk j).ready=aB/\(L.tsk j).cpu=c/\(L.tsk j).id=x):Rt0 (L.setU c x) n:=by
 refine⟨h.n1,h.n64,h.cpus,h.cr0,h.cr,h.ng,h.ns1,h.ns,h.nk,by show(L.ul.set c x).length=n;rw[oE];exact h.nu,h.rows,h.nt,h.par,h.par0,h.wt,h.clk,h.sp,h.root,λ i hi=>by have t:=h.tk i hi;exact⟨t.id1,t.id2,t.g0,t.g1,t.c0,t.c1,t.e,t.v0,t.v1,t.r0,t.m0,t.m1,t.m2,t.m3⟩,h.sorted,λ d hd=>?_⟩;rw[ZI (by rw[h.nu];exact hc)];by_cases e:d=c;.subst e;rw[iP rfl];exact hx
 rw[iN e];exact h.cur d hd
def jQ(a e:Int):AVal:= .tup [.lit (.int .i64 a),.lit (.int .i64 e)]
theorem aJZ{m tk:Nat}{L:LSt}(hm:m+6+L.sl.length<=tk):∀(loc:aO),(∀x,x∈loc->tk<x.1)->∀id B,AM.look (MH m tk L) id=aA B->AM.look (loc++MH m tk L) id=aA B
 |[],_,id,B,h=>h
 |(j,B0)::r,hl,id,B,h=>by have h1:=nY (show eQ (MH m tk L) id=aB by simp[eQ,h]);have h2:=hl (j,B0) (List.mem_cons_self ..);simp only[aV,AM.look];rw[iN (by simp only at h2;omega)];exact aJZ hm r (λ x hx=>hl x (dM _ hx)) id B h
theorem sQ{m tk k:Nat}{L:LSt}(hm:m+6+L.sl.length<=tk)(hk:tk<k){g:Nat->Nat}(hg:∀i,i<k->g i=0):YM (((MH m tk L).map (·.1)).map g)=[0]:=
 aAB (by simp[MH]) λ x hx=>hg x (by simp only[dB]at hx;obtain⟨y,hy,rfl⟩:=hx;obtain⟨B,hB⟩:=BR hy;have:=nY (show eQ (MH m tk L) y.1=aB by simp[eQ,hB]);omega)
theorem RF{P:Program}{o:Oper}{ev:Operand->Option AVal}{k m tk:Nat}{L:LSt}{loc:aO}{f:Operand}{args:Array Operand}{ty:Array TypeId}{g:FuncId}{v:Value}{vs:List AVal}{NM:List Nat}(hm:m+6+L.sl.length<=tk)
 (ho:o.op= .call {callee:= .value f,args:=args,argTypes:=ty}) (hg:aT P g=aB) (hf:ev f=aA (.fn g [])) (ha:pJ ev args.toList=aA (.ptr m 0 0::vs)) (hv:(vs.all λ v=>match v with| .lit _=>aB|_=>aE)=aB)
 (hl:∀x,x∈loc->tk<x.1) (hp:Pure P Γ g (.rp (mcL L)::vs) (.lit v)) (hN:NM=(MH m tk L).map (·.1)):AM.Good P Γ o ev (AM.look (loc++MH m tk L)) k ⟨.lit v,k,[],NM⟩:=by
 subst hN
 have hb:BorL Γ (MH m tk L) vs vs:=by
  clear ha hp
  induction vs with
  |nil=>exact .nil
  |cons x r ih=>
   simp only[fU,aH]at hv;refine .cons ?_ (ih hv.2)
   cases x with
   |lit u=>exact Bor.lit
   |_=>cases hv.1
 exact aIS ho hg hf ha (.cons (bAR hm) hb) (aJZ hm loc hl) rfl hp
structure Fwd (L L':LSt):Prop where
 cpus:L'.cpus=L.cpus
 credit:L'.credit=L.credit
 ns:L'.sl.length=L.sl.length
 par:∀g,L'.par g=L.par g
 clk:∀c,L.clk c<=L'.clk c
 fl:∀g c,(L.sp g c).floor<=(L'.sp g c).floor
 nt:L'.tl.length<=L.tl.length+1
 w0:L'.wt 0=L.wt 0
theorem fN (L:LSt):Fwd L L:=⟨rfl,rfl,rfl,λ _=>rfl,λ _=>bR _,λ _ _=>bR _,oO,rfl⟩
def OpOk(Γ:dL)(f:FuncId)(L:LSt)(n:Nat)(o:Opn)(m tk k:Nat):Prop:=
 ∃ L' a e tk' k',Rt0 L' n/\(Fwd L L'/\(e=0\/L'=L))/\m+6+L.sl.length<=tk'/\(tk'<k'/\(tk'=tk\/k<=tk'))/\k<=k'∧
   Tr aD Γ f k [.ptr m 0 0,.agg (gJ o)] (MH m tk L) (λ k1 r1 H1=>k1=k'/\r1=jQ a e/\H1=MH m tk' L')
theorem pick(L:LSt)(n:Nat)(hS:Rt0 L n)(o:Opn)(m tk k:Nat)(hm:m+6+L.sl.length<=tk)(hk:tk<k):
 OpOk Γ 92 L n o m tk k:=by
 by_cases hc:0<=o.cpu/\o.cpu<L.cpus
 .obtain⟨c,hcc⟩:∃c:Nat,o.cpu=(c:Int):=⟨o.cpu.toNat,oO⟩;have hcp:=hS.cpus;have hcn:c<n:=oO;obtain⟨F,hF⟩:∃F,F=xA L L.sl.length 0 c:=⟨_,rfl⟩;have hfm:=PC (L:=L) (c:=c) (f:=L.sl.length) (g:=0) (by have:=hS.ns1;omega);rw[<-hF]at hfm;refine⟨L.setU c F,F,0,tk,k,hS.setU hcn (by rcases hfm with h|⟨j,h1,h2,h3,h4⟩;exact .inl h;exact .inr ⟨j,h1,h2,h3,h4.symm⟩),⟨⟨rfl,rfl,rfl,λ _=>rfl,λ _=>bR _,λ _ _=>bR _,mF _,rfl⟩,.inl rfl⟩,hm,⟨hk,.inl rfl⟩,aF _,?_⟩;have hfp:=a8V L n c hS.shp hcn hS.ns1 (Γ:=Γ);rw[<-hF]at hfp;have hLs:(L.setU c F).sl.length=L.sl.length:=rfl;obtain⟨RH,eRH⟩:∃x:aO,x=MH m tk (L.setU c F):=⟨_,rfl⟩;obtain⟨RV,eRV⟩:∃x:AVal,x=jQ F 0:=⟨_,rfl⟩;refine Tr.mono (dR (k:=k) (V:=RV) (RH:=RH) oO (by rw[eRV];rfl) (by rw[eRH];exact fL oO oO) ?_) (λ _ _ _ h=>⟨h.1,h.2.1.trans eRV,h.2.2.trans eRH⟩);refine cN Tryz.func92 rfl 32 rfl bB ?_;simp only[MH,LH];have hnu:=hS.nu;obtain⟨NM,eNM⟩:∃x,x=(MH m tk L).map (·.1):=⟨_,rfl⟩;have hNM:YM (NM.map (λ i=>if k<=i then i-k+1 else 0))=[0]:=by rw[eNM];exact sQ hm hk (λ i hi=>iN oO)
  have hcpu:=cpu L o.cpu m tk (k+1) hm oO (Γ:=Γ);rw[decide_eq_true hc,hcc]at hcpu;have kp:Kp [0,1,3,4,5,10] (λ i=>if k<=i then i-k+1 else 0):=jZ;have uU:=hcc;refine dJ ?_;refine cA ?_;refine jR [.far (.lit (.bool aB)) (k+1) [(k,⟨8,aB,[gJ o]⟩)] (MH m tk L) (MH m tk L)] ?_;refine jV (zs ?_) (zs ?_) (zs ?_);.intro i;simp only[MH,LH,fG,gJ,hcc,aV,aU]
  .exact cB (λ i hi=>by simp only[AM.look];repeat(rw[iN oO])) rfl
  simp only[MH,LH];refine fR ?_;apply zN;have uU:=zA hcc hNM;refine dJ ?_;refine dI λ ht=>?_;refine AI [.raw (aA 21) ⟨.lit (.int .i64 F),k+1,[],NM⟩] ?_;refine iE ?_ ?_;.exact RF (loc:=[(k,⟨8,aB,_⟩)]) hm rfl iF rfl rfl rfl (λ x hx=>by rw[MU.1 hx];exact hk) hfp eNM
  have hset:((KW L).set c [F])[c]? =aA [.lit (.int .i64 F)]:=fW (by rw[FP];omega);have uU:=zA hcc hset;refine dJ ?_;refine cA ?_;have uU:=zA hcc hset;refine kJ (zN ?_);refine⟨?_,?_⟩;.rw[eRV];rfl
  rw[eRH,a4Z];simp only[fG];exact fR gG
 refine⟨L,0,300,tk,k,hS,⟨fN L,.inr rfl⟩,hm,⟨hk,.inl rfl⟩,aF _,?_⟩;obtain⟨RH,eRH⟩:∃x:aO,x=MH m tk L:=⟨_,rfl⟩;obtain⟨RV,eRV⟩:∃x:AVal,x=jQ 0 300:=⟨_,rfl⟩;refine Tr.mono (dR (k:=k) (V:=RV) (RH:=RH) oO (by rw[eRV];rfl) (by rw[eRH];exact fL oO oO) ?_) (λ _ _ _ h=>⟨h.1,h.2.1.trans eRV,h.2.2.trans eRH⟩);refine cN Tryz.func92 rfl 32 rfl bB ?_;simp only[MH,LH];have hcpu:=cpu L o.cpu m tk (k+1) hm oO (Γ:=Γ);rw[decide_eq_false hc]at hcpu;have kp:Kp [0,1,3,4,5,10] (λ i=>if k<=i then i-k+1 else 0):=jZ;refine dJ ?_;refine cA ?_;refine jR [.far (.lit (.bool aE)) (k+1) [(k,⟨8,aB,[gJ o]⟩)] (MH m tk L) (MH m tk L)] ?_;refine jV (zs ?_) (zs ?_) (zs ?_);.intro i;simp only[MH,LH,fG,gJ,aV,aU]
 .exact cB (λ i hi=>by simp only[AM.look];repeat(rw[iN oO])) rfl
 simp only[MH,LH];refine fR ?_;apply zN;refine dJ ?_;refine dI λ ht=>?_;have uU:=Go.AM.uU;refine kJ (zN ?_);refine⟨?_,?_⟩;.rw[eRV];rfl
 rw[eRH];simp only[MH,LH];exact fR gG
theorem Rt0.setT {L:LSt}{n i:Nat}{t:Tk}(h:Rt0 L n)(hi:i<L.tl.length)(ht:TkOk L n t)(hid:t.id=(L.tsk i).id)(hcur:∀c,c<n->L.cur c=t.id->(L.tsk i).ready=aB->(L.tsk i).cpu=c->t.ready=aB/\t.cpu=c):Rt0 (L.setT i t) n:=by
 refine⟨h.n1,h.n64,h.cpus,h.cr0,h.cr,h.ng,h.ns1,h.ns,h.nk,h.nu,h.rows,by rw[pW];exact h.nt,h.par,h.par0,h.wt,h.clk,h.sp,h.root,λ j hj=>?_,λ a b hab hb=>?_,λ c hc=>?_⟩
 .rw[pW]at hj;rw[FV hi];have key:∀x,TkOk L n x->TkOk (L.setT i t) n x:=λ x q=>⟨q.id1,q.id2,q.g0,q.g1,q.c0,q.c1,q.e,q.v0,q.v1,q.r0,q.m0,q.m1,q.m2,q.m3⟩;split;.exact key _ ht
  exact key _ (h.tk j hj)
 .rw[pW]at hb
  have key:∀j,j<L.tl.length->((L.setT i t).tsk j).id=(L.tsk j).id:=λ j hj=>by
   rw[FV hi];split;.rename_i e;rw[e,hid]
   rfl
  rw[key a oO,key b hb];exact h.sorted a b hab hb
 rcases h.cur c hc with h1|⟨j,h1,h2,h3,h4⟩;.exact .inl h1
 refine .inr ⟨j,by rw[pW];exact h1,?_⟩;rw[FV hi];by_cases e:j=i;.subst e;rw[iP rfl];have:=hcur c hc (by rw[<-h4,hid]) h2 h3;exact⟨this.1,this.2,by rw[hid];exact h4⟩
 rw[iN e];exact⟨h2,h3,h4⟩
theorem Fwd.setT {L:LSt}{i:Nat}{t:Tk}:Fwd L (L.setT i t):=⟨rfl,rfl,rfl,λ _=>rfl,λ _=>bR _,λ _ _=>bR _,by rw[pW];omega,rfl⟩
def Tk.run (t:Tk)(v r w:Int):Tk:={t with v:=v,r:=r,weight:=w}
theorem zB{L:LSt}{n:Nat}(h:Rt0 L n)(d:Int):(FJ L d (-1))\/∃i:Nat,i<L.tl.length/\(L.tsk i).id=d/\FJ L d (i:Int):=by
 obtain⟨r,hr⟩:=aKR L d;rcases id hr with⟨h1,h2⟩|⟨i,h1,h2,h3⟩;.exact .inl (.inl ⟨rfl,h2⟩)
 exact .inr ⟨i,h1,h3,.inr ⟨i,h1,rfl,h3⟩⟩
theorem aSE(L:LSt)(n:Nat)(hS:Rt0 L n)(o:Opn)(m tk k:Nat)(hm:m+6+L.sl.length<=tk)(hk:tk<k):OpOk Γ 93 L n o m tk k:=by
 have hnt:=hS.nt;by_cases h1:1<=o.task/\o.task<=65535;rotate_left
 .refine⟨L,0,301,tk,k,hS,⟨fN L,.inr rfl⟩,hm,⟨hk,.inl rfl⟩,aF _,?_⟩;obtain⟨RH,eRH⟩:∃x:aO,x=MH m tk L:=⟨_,rfl⟩;obtain⟨RV,eRV⟩:∃x:AVal,x=jQ 0 301:=⟨_,rfl⟩;refine Tr.mono (dR (k:=k) (V:=RV) (RH:=RH) oO (by rw[eRV];rfl) (by rw[eRH];exact fL oO oO) ?_) (λ _ _ _ h=>⟨h.1,h.2.1.trans eRV,h.2.2.trans eRH⟩);refine cN Tryz.func93 rfl 55 rfl bB ?_;simp only[MH,LH];have kp:=gZ k [0,1,3,4,5,6,7,8,10,15,25];refine dJ ?_;refine cA ?_;refine jR [.ret aE] ?_;refine iE ?_ ?_;.have:=KB o.task (Γ:=Γ);rw[decide_eq_false h1]at this;exact this
  refine dJ ?_;refine dI λ ht=>?_;refine kJ (zN ?_);refine⟨?_,?_⟩;.rw[eRV];rfl
  rw[eRH];simp only[MH,LH];exact fR gG
 by_cases h2:1<=o.weight/\o.weight<=65536;rotate_left
 .refine⟨L,0,2,tk,k,hS,⟨fN L,.inr rfl⟩,hm,⟨hk,.inl rfl⟩,aF _,?_⟩;obtain⟨RH,eRH⟩:∃x:aO,x=MH m tk L:=⟨_,rfl⟩;obtain⟨RV,eRV⟩:∃x:AVal,x=jQ 0 2:=⟨_,rfl⟩;refine Tr.mono (dR (k:=k) (V:=RV) (RH:=RH) oO (by rw[eRV];rfl) (by rw[eRH];exact fL oO oO) ?_) (λ _ _ _ h=>⟨h.1,h.2.1.trans eRV,h.2.2.trans eRH⟩);refine cN Tryz.func93 rfl 55 rfl bB ?_;simp only[MH,LH];have kp:=gZ k [0,1,3,4,5,6,7,8,10,15,25];refine dJ ?_;refine cA ?_;refine jR [.ret aB] ?_;refine iE ?_ ?_;.have:=KB o.task (Γ:=Γ);rw[decide_eq_true h1]at this;exact this
  refine dJ ?_;refine dI λ ht=>?_;refine jR [.ret aE] ?_;refine iE ?_ ?_;.have:=wP o.weight (Γ:=Γ);rw[decide_eq_false h2]at this;exact this
  refine dJ ?_;refine dI λ ht=>?_;refine kJ (zN ?_);refine⟨?_,?_⟩;.rw[eRV];rfl
  rw[eRH];simp only[MH,LH];exact fR gG
 have hf:∀r,FJ L o.task r->_:=λ r hr=>find L o.task r hr hS.sorted oO m tk (k+1) hm oO (Γ:=Γ);rcases zB hS o.task with hr|⟨i,hi,hid,hr⟩
 .refine⟨L,0,6,tk,k,hS,⟨fN L,.inr rfl⟩,hm,⟨hk,.inl rfl⟩,aF _,?_⟩;obtain⟨RH,eRH⟩:∃x:aO,x=MH m tk L:=⟨_,rfl⟩;obtain⟨RV,eRV⟩:∃x:AVal,x=jQ 0 6:=⟨_,rfl⟩;refine Tr.mono (dR (k:=k) (V:=RV) (RH:=RH) oO (by rw[eRV];rfl) (by rw[eRH];exact fL oO oO) ?_) (λ _ _ _ h=>⟨h.1,h.2.1.trans eRV,h.2.2.trans eRH⟩);refine cN Tryz.func93 rfl 55 rfl bB ?_;simp only[MH,LH];have kp:=gZ k [0,1,3,4,5,6,7,8,10,15,25];refine dJ ?_;refine cA ?_;refine jR [.ret aB] ?_;refine iE ?_ ?_;.have:=KB o.task (Γ:=Γ);rw[decide_eq_true h1]at this;exact this
  refine dJ ?_;refine dI λ ht=>?_;refine jR [.ret aB] ?_;refine iE ?_ ?_;.have:=wP o.weight (Γ:=Γ);rw[decide_eq_true h2]at this;exact this
  refine dJ ?_;refine dI λ ht=>?_;have hfc:=hf (-1) hr;refine jR [.far (.lit (.int .i64 (-1))) (k+1) [(k,⟨8,aB,[gJ o]⟩)] (MH m tk L) (MH m tk L)] ?_;refine jV (zs ?_) (zs ?_) (zs ?_);.intro i;simp only[MH,LH,fG,gJ,aV,aU]
  .exact cB (λ i hi=>by simp only[AM.look];repeat(rw[iN oO])) rfl
  simp only[MH,LH];refine fR ?_;apply zN;refine dJ ?_;refine dI λ ht=>?_;refine kJ (zN ?_);refine⟨?_,?_⟩;.rw[eRV];rfl
  rw[eRH];simp only[MH,LH];exact fR gG
 have hfc:=hf i hr;have hT:=hS.tk i hi;have hTe:=hT.e;simp only[pK,dTt]at hTe;refine⟨L.setT i ((L.tsk i).run (L.tsk i).v 0 o.weight),0,0,tk,k,hS.setT hi ⟨hT.id1,hT.id2,hT.g0,hT.g1,hT.c0,hT.c1,by simp[pK,Tk.run];omega,hT.v0,hT.v1,bR _,hT.m0,hT.m1,hT.m2,hT.m3⟩ rfl (λ c _ _ h3 h4=>⟨h3,h4⟩),⟨Fwd.setT,.inl rfl⟩,hm,⟨hk,.inl rfl⟩,aF _,?_⟩;have hLs:(L.setT i ((L.tsk i).run (L.tsk i).v 0 o.weight)).sl.length=L.sl.length:=rfl;obtain⟨RH,eRH⟩:∃x:aO,x=MH m tk (L.setT i ((L.tsk i).run (L.tsk i).v 0 o.weight)):=⟨_,rfl⟩;obtain⟨RV,eRV⟩:∃x:AVal,x=jQ 0 0:=⟨_,rfl⟩;refine Tr.mono (dR (k:=k) (V:=RV) (RH:=RH) oO (by rw[eRV];rfl) (by rw[eRH];exact fL oO oO) ?_) (λ _ _ _ h=>⟨h.1,h.2.1.trans eRV,h.2.2.trans eRH⟩);refine cN Tryz.func93 rfl 55 rfl bB ?_;simp only[MH,LH];have kp:=gZ k [0,1,3,4,5,6,7,8,10,15,25];refine dJ ?_;refine cA ?_;refine jR [.ret aB] ?_;refine iE ?_ ?_;.have:=KB o.task (Γ:=Γ);rw[decide_eq_true h1]at this;exact this
 refine dJ ?_;refine dI λ ht=>?_;refine jR [.ret aB] ?_;refine iE ?_ ?_;.have:=wP o.weight (Γ:=Γ);rw[decide_eq_true h2]at this;exact this
 refine dJ ?_;refine dI λ ht=>?_;refine jR [.far (.lit (.int .i64 (i:Int))) (k+1) [(k,⟨8,aB,[gJ o]⟩)] (MH m tk L) (MH m tk L)] ?_;refine jV (zs ?_) (zs ?_) (zs ?_);.intro i;simp only[MH,LH,fG,gJ,aV,aU]
 .exact cB (λ i hi=>by simp only[AM.look];repeat(rw[iN oO])) rfl
 simp only[MH,LH];refine fR ?_;apply zN;have kp:Kp [0,1,3,4,5,6,7,8,10,15,25] (λ i=>if k<=i then i-k+1 else 0):=jZ;refine dJ ?_;refine dI λ ht=>?_;refine AI [.ret (enc (L.tsk i).v (L.tsk i).r (L.tsk i).weight),.ret (.tup [enc (L.tsk i).v 0 o.weight,(0:Int)])] ?_;refine jV (zs ?_) (zs ?_) (zs ?_);.exact qB _ _ _ oO oO
 .exact KO _ _ _ _ hT.e h2.1 h2.2
 refine dJ ?_;refine cA ?_;refine jR [.gen (.tup []) (k+2) [(tk,⟨8,aB,oJ L⟩)] [(tk,⟨8,aB,(oJ L).set i (tkc ((L.tsk i).run (L.tsk i).v 0 o.weight))⟩)]] ?_;refine iE ?_ ?_;.exact aNN (L.tsk i) (L.tsk i).v 0 o.weight (oJ L) tk i (wH hi) oO oO (k+2) oO
 refine dJ ?_;refine cA ?_;refine kJ (zN ?_);refine⟨?_,?_⟩;.rw[eRV];rfl
 rw[eRH,DQ];simp only[fG];exact fR gG
theorem Fwd.trans {A B C:LSt}(h:Fwd A B)(g:Fwd B C)(hn:C.tl.length=B.tl.length\/B.tl.length<=A.tl.length):Fwd A C:=
 ⟨g.cpus.trans h.cpus,g.credit.trans h.credit,g.ns.trans h.ns,λ x=>(g.par x).trans (h.par x),λ c=>Int.le_trans (h.clk c) (g.clk c),λ a c=>Int.le_trans (h.fl a c) (g.fl a c),by have:=h.nt;have:=g.nt;omega,g.w0.trans h.w0⟩
theorem Fwd.setS {L:LSt}{g c:Nat}{s:Sp}(hg:g<L.sl.length)(hc:c<(L.sl.getD g []).length)(hf:(L.sp g c).floor<=s.floor):Fwd L (L.setS g c s):=
 ⟨rfl,rfl,rY,λ _=>rfl,λ _=>bR _,λ a b=>by
  rw[yL hg hc];split;.rename_i e;rw[e.1,e.2];exact hf
  exact bR _,mF _,rfl⟩
theorem aII{L:LSt}{n c:Nat}{l:List Nat}(h:Rt0 L n)(hc:c<n)(hl:∀g,g∈l->0<g/\g<L.sl.length):∀ {j:Nat},j<=l.length->Fwd L (wkN L c l j)/\(wkN L c l j).tl=L.tl
 |0,_=>⟨fN L,rfl⟩
 |j+1,hj=>by obtain⟨h1,h2⟩:=aII h hc hl (j:=j) oO;obtain⟨h3,h4⟩:=MW h hc hl (j:=j) oO;have:=hl (l.getD j 0) (by simp only[aR];rw[aJ oO];exact JR _);have hg:l.getD j 0<(wkN L c l j).sl.length:=oO;have e:(wkN L c l (j+1)).tl=(wkN L c l j).tl:=rfl;exact⟨h1.trans (Fwd.setS hg (by rw[h3.rows _ hg];exact hc) (bR _)) (.inl (by rw[e])),e.trans h2⟩
theorem Rt0.wake {L:LSt}{n c:Nat}{l:List Nat}(h:Rt0 L n)(hc:c<n)(hl:∀g,g∈l->0<g/\g<L.sl.length):Rt0 (oI L c l) n/\Fwd L (oI L c l)/\(oI L c l).tl=L.tl:=
 ⟨(MW h hc hl (aF _)).1,aII h hc hl (aF _)⟩
theorem bBQ(L:LSt)(c:Int)(m tk k:Nat)(hm:m+6+L.sl.length<=tk)(hk:tk<k):
 Tr aD Γ 166 k [.ptr m 0 0,(),c] (MH m tk L) (λ k1 r1 H1=>k1=k/\r1= .tup []/\H1=MH m tk L):=by
 obtain⟨RH,eRH⟩:∃x:aO,x=MH m tk L:=⟨_,rfl⟩;obtain⟨RV,eRV⟩:∃x:AVal,x= .tup []:=⟨_,rfl⟩;refine Tr.mono (dR (k:=k) (V:=RV) (RH:=RH) oO (by rw[eRV];rfl) (by rw[eRH];exact fL oO oO) ?_) (λ _ _ _ h=>⟨h.1,h.2.1.trans eRV,h.2.2.trans eRH⟩);obtain⟨F,hF⟩:∃F:aO,F=MH m tk L:=⟨_,rfl⟩;refine cN Tryz.func166 rfl 82 rfl bB ?_;simp only[MH,LH];have kp:=gZ k [0,1,2,7,8,9,10,12,13,14,15];refine dJ ?_;refine cA ?_;refine bY (X:=Nat) rfl [0,1,2,7,8,9,10,12,13,14,15] k (λ j=>[(14,j)]) (λ j=>F) (λ j=>j=0) (λ j=>0) 0 ?_ rfl ?_;.rw[hF];simp only[MH,LH];refine fR ?_;apply zN;exact gM
 rintro j rfl;rw[hF];simp only[MH,LH];refine fR ?_;apply zN;refine dJ ?_;refine dI λ ht=>?_;refine⟨_,rfl,by rw[eRV],?_⟩;rw[eRH];simp only[MH,LH];exact fR gG
theorem wake(L:LSt)(n c:Nat)(hS:Rt0 L n)(hc:c<n)(l:List Nat)(hl:∀g,g∈l->0<g/\g<L.sl.length)(hl2:l.length<=1000)(m tk e k:Nat)(hm:m+6+L.sl.length<=tk)(he:tk<e)(hk:e<k):
 Tr aD Γ 166 k [.ptr m 0 0,dG e (gR l),c] (cL e 1 (gR l) (MH m tk L)) (λ k1 r1 H1=>k1=k/\r1= .tup []/\H1=cL e 1 (gR l) (MH m tk (oI L c l))):=by
 cases l with
 |nil=>exact bBQ L c m tk k hm oO
 |cons a r=>
  have e1:dG e (gR (a::r))= .sl e 0 (a::r).length:=by show AVal.sl e 0 ((gR r).length+1)=_;rw[aUU];rfl
  rw[e1];exact bBP L n c hS hc (a::r) hl hl2 m tk e k hm he hk
theorem a4K{a b:Int}(h1:0<=a)(h3:0<=b):0<=aCX a b/\aCX a b<=18446744073709551615:=by unfold aCX;split<;>omega
theorem aTG{v r w a b:Int}(he:pK v r w=aB)(hv:0<=v)(hv2:v<=18446744073709551615)(hr:0<=r)(ha:0<=a)(ha2:a<=18446744073709551615)(hb:0<=b)(hb2:b<=18446744073709551615):
 pK (rF v r a b).1 (rF v r a b).2 w=aB/\0<=(rF v r a b).1/\(rF v r a b).1<=18446744073709551615/\0<=(rF v r a b).2:=by
 obtain⟨x,ex,h1,h2⟩:∃x,x=(if a<=v then aCX b (v-a)else BV b (a-v))/\0<=x/\x<=18446744073709551615:=by
  refine⟨_,rfl,?_⟩;split;.exact a4K hb oO
  exact aAR hb hb2 oO
 simp only[pK,dTt]at he;unfold rF;simp only[<-ex,pK,dTt];split<;>(refine⟨?_,h1,h2,?_⟩<;>omega)
theorem TO{id s q:Nat}{l:List (List AVal)}{X Y:aO}(h:AM.look X q=AM.look Y q):AM.look (cL id s l X) q=AM.look (cL id s l Y) q:=by
 cases l with
 |nil=>exact h
 |cons a r=>simp only[cL,AM.look];split;rfl;exact h
theorem jK{a q:Nat}{B:Blk}{X Y:aO}(h:AM.look X q=AM.look Y q):AM.look ((a,B)::X) q=AM.look ((a,B)::Y) q:=by simp only[AM.look];split;rfl;exact h
theorem a0P{m tk a id s:Nat}{B X B0 B1 B2 B3 B5:Blk}{l:List (List AVal)}{F:aO}(h1:tk≠a)(h2:tk≠id)(hm:m+6<=tk)(q:Nat):
 AM.look ((tk,B)::(a,X)::cL id s l ((m,B0)::(m+1,B1)::(m+2,B2)::(m+3,B3)::(m+5,B5)::F)) q=AM.look ((a,X)::cL id s l ((m,B0)::(m+1,B1)::(m+2,B2)::(m+3,B3)::(m+5,B5)::(tk,B)::F)) q:=by
 by_cases hq:q=tk
 .subst hq
  have e1:AM.look ((a,X)::cL id s l ((m,B0)::(m+1,B1)::(m+2,B2)::(m+3,B3)::(m+5,B5)::(q,B)::F)) q=aA B:=by
   simp only[AM.look];rw[iN (Ne.symm h1),GJ (Ne.symm h2)];simp only[AM.look];repeat rw[iN oO]
   rw[iP trivial]
  rw[e1];simp only[AM.look,if_true]
 have e1:∀Z,AM.look ((tk,B)::Z) q=AM.look Z q:=λ Z=>by simp only[AM.look];rw[iN (λ h=>hq h.symm)]
 rw[e1];refine jK (TO (jK (jK (jK (jK (jK ?_))))));rw[e1]
theorem OP{id s i:Nat}{l:List (List AVal)}{H:aO}(h:eQ (cL id s l H) i=aB):i=id\/eQ H i=aB:=by
 cases l with
 |nil=>exact .inr h
 |cons a r=>
  simp only[cL,eQ,AM.look]at h;split at h;.rename_i e;exact .inl e.symm
  exact .inr h
theorem aXP{p q:Nat->Bool}(h:∀i,p i=aB->q i=aB){v:AVal}(hv:iM p v=aB):iM q v=aB:=by cases v<;>simp only[iM]at hv⊢ <;>first|exact h _ hv|exact hv
theorem aXL{p q:Nat->Bool}(h:∀i,p i=aB->q i=aB){H:aO}(hH:oM p H=aB):oM q H=aB:=by
 simp only[oM,aW,aH,bL]at hH⊢
 intro x hx;obtain⟨h1,h2⟩:=hH x hx;exact⟨h _ h1,h2.imp id (λ h3 row hrow v hv=>aXP h (h3 row hrow v hv))⟩
theorem DO{k s:Nat}{l:List (List AVal)}{H:aO}(h:oM (eQ H) H=aB):oM (eQ (cL k s l H)) (cL k s l H)=aB:=by
 cases l with
 |nil=>exact h
 |cons a r=>
  refine jB (by simp[cL,eQ,AM.look]) (aXL (λ i hi=>?_) h);simp only[cL,eQ,AM.look];split;.rfl
  exact hi
theorem DN{loc X Y:aO}{k s:Nat}{l:List (List AVal)}(h1:AM.look loc k=aC)(h:rL loc X Y):rL loc (cL k s l X) (cL k s l Y):=λ i hi=>by
 rcases hi with hi|hi
 .rcases OP hi with rfl|hi;.exact h1
  exact h i (.inl hi)
 rcases OP hi with rfl|hi;.exact h1
 exact h i (.inr hi)
def Tk.cpuTo (t:Tk)(c:Nat):Tk:={t with cpu:=c}
theorem move(L:LSt)(n:Nat)(hS:Rt0 L n)(i:Nat)(hi:i<L.tl.length)(to:Nat)(hto:to<n)(hmask:(L.tsk i).mask/2^to%2=1)(hcur:∀c,c<n->L.cur c≠(L.tsk i).id)(m tk k:Nat)(hm:m+6+L.sl.length<=tk)(hk:tk<k):
 ∃L',Rt0 L' n/\Fwd L L'/\Tr aD Γ 172 k [.ptr m 0 0,i,to] (MH m tk L) (λ k1 r1 H1=>k1=k/\r1= .tup []/\H1=MH m tk L'):=by
 have hT:=hS.tk i hi;have hnt:=hS.nt;have hns:=hS.ns;obtain⟨g,hg⟩:∃g:Nat,(L.tsk i).group=(g:Int):=⟨(L.tsk i).group.toNat,by have:=hT.g0;omega⟩;obtain⟨c,hc⟩:∃c:Nat,(L.tsk i).cpu=(c:Int):=⟨(L.tsk i).cpu.toNat,by have:=hT.c0;omega⟩;have hg1:g<L.sl.length:=by have:=hT.g1;omega
 have hc1:c<n:=by have:=hT.c1;omega
 have hrow:=hS.rows g hg1;have hTe:=hT.e;simp only[pK,dTt]at hTe;have hsa:=hS.sp g c hg1 hc1;have hsb:=hS.sp g to hg1 hto;have hmv:=aTG hT.e hT.v0 hT.v1 hT.r0 hsa.2.2.2.2.1 hsa.2.2.2.2.2 hsb.2.2.2.2.1 hsb.2.2.2.2.2;obtain⟨z,ez⟩:∃z,z=rF (L.tsk i).v (L.tsk i).r (L.sp g c).floor (L.sp g to).floor:=⟨_,rfl⟩;rw[<-ez]at hmv;obtain⟨T1,eT⟩:∃T1,T1=((L.tsk i).run z.1 z.2 (L.tsk i).weight).cpuTo to:=⟨_,rfl⟩;have hL1:Rt0 (L.setT i T1) n:=by rw[eT];refine hS.setT hi ⟨hT.id1,hT.id2,hT.g0,hT.g1,rT _,by show((to:Nat):Int)<n;omega,hmv.1,hmv.2.1,hmv.2.2.1,hmv.2.2.2,hT.m0,hT.m1,hT.m2,by show(L.tsk i).mask/2^((to:Nat):Int).toNat%2=1;exact hmask⟩ rfl (λ c hc hcc _ _=>absurd hcc (hcur c hc))
 obtain⟨E,eE⟩:∃E,E=tG L L.sl.length g to:=⟨_,rfl⟩;have hE1:∀x,x∈E->0<x/\x<L.sl.length:=by rw[eE];exact zG hS hg1
 have hE2:E.length<=g:=by rw[eE];exact zH hS hg1
 have hemp:=empty L n to g hS hto hg1 E eE m tk k hm hk (Γ:=Γ);have hwk:=hL1.wake hto (l:=E) hE1;have hset:∀x,((oJ L).set i x)[i]? =aA x:=λ x=>fW (by rw[tN];exact hi);by_cases hr:(L.tsk i).ready=aB
 .refine⟨oI (L.setT i T1) to E,hwk.1,Fwd.setT.trans hwk.2.1 (.inl (by rw[hwk.2.2])),?_⟩;have hLs:(oI (L.setT i T1) to E).sl.length=L.sl.length:=hwk.2.1.ns;obtain⟨RH,eRH⟩:∃x:aO,x=MH m tk (oI (L.setT i T1) to E):=⟨_,rfl⟩;obtain⟨RV,eRV⟩:∃x:AVal,x= .tup []:=⟨_,rfl⟩;refine Tr.mono (dR (k:=k) (V:=RV) (RH:=RH) oO (by rw[eRV];rfl) (by rw[eRH];exact fL oO oO) ?_) (λ _ _ _ h=>⟨h.1,h.2.1.trans eRV,h.2.2.trans eRH⟩);refine cN Tryz.func172 rfl 81 rfl bB ?_;simp only[MH,LH];have kp:Kp [0,1,2,6,7,8,9,76] (λ i=>if k<=i then i-k+1 else 0):=jZ;have uU:=DR hg hc hrow hr;refine dJ ?_;refine cA ?_;refine jR [.far (dG k (gR E)) (k+1) [] (MH m tk L) (cL k 1 (gR E) (MH m tk L))] ?_;refine jV (zs ?_) (zs ?_) (zs ?_);.intro q;rfl
  .exact λ q hq=>rfl
  simp only[MH,LH];refine fR ?_;apply zN;refine dJ ?_;refine cA ?_;refine AI [.ret (enc (L.tsk i).v (L.tsk i).r (L.tsk i).weight),.ret (.tup [enc z.1 z.2 (L.tsk i).weight,(0:Int)])] ?_;refine jV (zs ?_) (zs ?_) (zs ?_);.exact qB _ _ _ oO oO
  .rw[ez];exact aSM _ _ _ _ _ hT.e hT.v0 hT.v1 hsa.2.2.2.2.1 hsa.2.2.2.2.2 hsb.2.2.2.2.1 hsb.2.2.2.2.2
  refine dJ ?_;refine cA ?_;refine jR [.gen (.tup []) (k+2) [(tk,⟨8,aB,oJ L⟩)] [(tk,⟨8,aB,(oJ L).set i (tkc ((L.tsk i).run z.1 z.2 (L.tsk i).weight))⟩)]] ?_;refine iE ?_ ?_;.exact aNN (L.tsk i) z.1 z.2 (L.tsk i).weight (oJ L) tk i (wH hi) oO oO (k+2) oO
  have uU:=xC hg hc hrow hr hset @ssN @Tk.run.eq_1;refine dJ ?_;refine dI λ ht=>?_;have hwc:=wake (L.setT i T1) n to hL1 hto E hE1 oO m tk k (k+2) hm hk oO (Γ:=Γ);have hT1:tkc T1=[.lit (.int .i64 (L.tsk i).id),.lit (.int .i64 (g:Int)),.lit (.int .i64 (L.tsk i).weight),.lit (.int .i64 (to:Int)),.lit (.int .u64 (L.tsk i).mask),.lit (.bool aB),.lit (.int .u64 z.1),.lit (.int .u32 z.2)]:=by rw[eT,<-hg,<-hr];rfl
  refine jR [.far (.tup []) (k+2) [(k+1,⟨3,aB,[[.lit (.int .u64 z.1),.lit (.int .u32 z.2),.lit (.int .u32 (L.tsk i).weight)]]⟩)] (cL k 1 (gR E) (MH m tk (L.setT i T1))) (cL k 1 (gR E) (MH m tk (oI (L.setT i T1) to E)))] ?_;refine zq5 (zs ?_) (zs ?_) (zs ?_) (zs ?_) (zs ?_);.exact HL (by rw[vU];trivial)
  .exact DO HX
  .intro q;rw[DQ,hT1];exact a0P oO oO oO q
  .exact DN (by simp only[AM.look];rw[iN oO]) (cB (λ q hq=>by have hLr:(L.setT i T1).sl.length=L.sl.length:=rfl;simp only[AM.look];rw[iN oO]) (by rw[hLs];rfl))
  refine⟨_,rfl,by rw[eRV],?_⟩;rw[eRH];simp only[MH,LH];exact fR gG
 refine⟨L.setT i T1,hL1,Fwd.setT,?_⟩;have hLs:(L.setT i T1).sl.length=L.sl.length:=rfl;have hr:(L.tsk i).ready=aE:=by simpa using hr
 have hT1:tkc T1=[.lit (.int .i64 (L.tsk i).id),.lit (.int .i64 (g:Int)),.lit (.int .i64 (L.tsk i).weight),.lit (.int .i64 (to:Int)),.lit (.int .u64 (L.tsk i).mask),.lit (.bool aE),.lit (.int .u64 z.1),.lit (.int .u32 z.2)]:=by rw[eT,<-hg,<-hr];rfl
 obtain⟨RH,eRH⟩:∃x:aO,x=MH m tk (L.setT i T1):=⟨_,rfl⟩;obtain⟨RV,eRV⟩:∃x:AVal,x= .tup []:=⟨_,rfl⟩;refine Tr.mono (dR (k:=k) (V:=RV) (RH:=RH) oO (by rw[eRV];rfl) (by rw[eRH];exact fL oO oO) ?_) (λ _ _ _ h=>⟨h.1,h.2.1.trans eRV,h.2.2.trans eRH⟩);refine cN Tryz.func172 rfl 81 rfl bB ?_;simp only[MH,LH];have kp:Kp [0,1,2,6,7,8,9,76] (λ i=>if k<=i then i-k+1 else 0):=jZ;have uU:=DR hg hc hrow hr;refine dJ ?_;refine cA ?_;refine jR [.far (dG k (gR E)) (k+1) [] (MH m tk L) (cL k 1 (gR E) (MH m tk L))] ?_;refine jV (zs ?_) (zs ?_) (zs ?_);.intro q;rfl
 .exact λ q hq=>rfl
 simp only[MH,LH];refine fR ?_;apply zN;refine dJ ?_;refine cA ?_;refine AI [.ret (enc (L.tsk i).v (L.tsk i).r (L.tsk i).weight),.ret (.tup [enc z.1 z.2 (L.tsk i).weight,(0:Int)])] ?_;refine jV (zs ?_) (zs ?_) (zs ?_);.exact qB _ _ _ oO oO
 .rw[ez];exact aSM _ _ _ _ _ hT.e hT.v0 hT.v1 hsa.2.2.2.2.1 hsa.2.2.2.2.2 hsb.2.2.2.2.1 hsb.2.2.2.2.2
 refine dJ ?_;refine cA ?_;refine jR [.gen (.tup []) (k+2) [(tk,⟨8,aB,oJ L⟩)] [(tk,⟨8,aB,(oJ L).set i (tkc ((L.tsk i).run z.1 z.2 (L.tsk i).weight))⟩)]] ?_;refine iE ?_ ?_;.exact aNN (L.tsk i) z.1 z.2 (L.tsk i).weight (oJ L) tk i (wH hi) oO oO (k+2) oO
 have uU:=xC hg hc hrow hr hset @ssN @Tk.run.eq_1;refine dJ ?_;refine dI λ ht=>?_;refine⟨_,rfl,by rw[eRV],?_⟩;rw[eRH,DQ,hT1];simp only[fG];exact fR gG
theorem a8O(L:LSt)(x:Int)(hn:L.ul.length<=100000):∃r:Int,(0<=r↔∃c,c<L.ul.length/\L.cur c=x)/\Pure aD Γ 126 [.rd 1 L.ul.length (ufL L),x] r:=by
 obtain⟨r,hr,hr2⟩:∃r:Int,(∀i:Nat,(∀j,j<i->L.cur j≠x)->i<L.ul.length->L.cur i=x->r=i)/\((∀j,j<L.ul.length->L.cur j≠x)->r= -1)/\(0<=r↔∃c,c<L.ul.length/\L.cur c=x):=by
  by_cases h:∃c,c<L.ul.length/\L.cur c=x
  .have hmin:∃c,(c<L.ul.length/\L.cur c=x)/\∀j,j<c->L.cur j≠x:=by
    obtain⟨c,hc⟩:=h
    induction c using Nat.strongRecOn with
    |_ c ih=>
     by_cases h2:∃j,j<c/\L.cur j=x;.obtain⟨j,h3,h4⟩:=h2;exact ih j h3 ⟨oO,h4⟩
     exact⟨c,hc,λ j hj e=>h2 ⟨j,hj,e⟩⟩
   obtain⟨c,hc,hm⟩:=hmin;refine⟨(c:Int),λ i hi h1 h2=>?_,λ hall=>absurd hc.2 (hall c hc.1),λ _=>⟨c,hc⟩,λ _=>rT _⟩;rcases kA i c with e|e|e;.exact absurd h2 (hm i e)
   .rw[e]
   exact absurd hc.2 (hi c e)
  exact⟨-1,λ i _ h1 h2=>absurd ⟨i,h1,h2⟩ h,λ _=>rfl,λ h0=>oO,λ h0=>absurd h0 h⟩
 refine⟨r,hr2.2,?_⟩;obtain⟨RV,eRV⟩:∃y,y=AVal.lit (.int .i64 r):=⟨_,rfl⟩;rw[<-eRV];refine bT Tryz.func126 rfl 19 rfl bB (by rw[eRV];rfl) λ k=>?_;have kp:=gZ k [0,1,4,5,7,8,9,16];refine dJ ?_;refine cA ?_;refine bY (X:=Nat) rfl [0,1,4,5,7,8,9,16] k (λ i=>[(8,i)]) (λ i=>[]) (λ i=>i<=L.ul.length/\∀j,j<i->L.cur j≠x) (λ i=>L.ul.length-i) 0 ?_ ⟨aZ _,λ j hj=>absurd hj (bO _)⟩ ?_;.refine fR ?_;apply zN;exact gM
 rintro i ⟨hi,hall⟩;refine fR ?_;apply zN;refine dJ ?_;refine jV ⟨λ ht ht=>zN ?_⟩ ⟨λ ht ht=>zN ?_⟩ ⟨λ ht=>zN ?_⟩;.refine kJ (zN ?_);exact bC (by rw[eRV,hr i hall oO oO])
 .refine⟨i+1,⟨oO,λ j hj=>?_⟩,oO,?_⟩
  .by_cases he:j=i;.subst he;omega
   exact hall j oO
  refine fR ?_;apply zN;exact gM
 refine kJ (zN ?_);exact bC (by rw[eRV,hr2.1 (λ j hj=>hall j oO)])
theorem aOY(L:LSt)(x:Int)(hn:L.ul.length<=100000):∃b:Bool,(b=aB↔∃c,c<L.ul.length/\L.cur c=x)/\Pure aD Γ 65 [.rd 1 L.ul.length (ufL L),x] b:=by obtain⟨r,hr,hp⟩:=a8O L x hn (Γ:=Γ);refine⟨decide (0<=r),by rw[dTt];exact hr,?_⟩;refine bT Tryz.func65 rfl 9 rfl bB rfl λ k=>?_;have kp:=gZ k [0,1,4];refine dJ ?_;refine cA ?_;refine jR [.ret r] ?_;refine cA ?_;refine bV rfl ⟨_,rfl,bC ?_⟩;rfl
end Go.Proofs.T
end
