import Derived.Test.YteimiejbhhgljaaGreatDoorZAE
import Derived.KernelRfl
set_option linter.unusedVariables false
set_option linter.unusedSimpArgs false
set_option maxHeartbeats 0
set_option maxRecDepth 100000
open List renaming append_assoc->bL,append_nil->aR,getD_eq_getElem?_getD->bD,getElem_mem->bKH,length_append->bQ,length_cons->lZ,map->jL,map_append->aH,map_cons->bG,map_map->jD,map_nil->aV,range->aM,range_succ->CI
open Nat renaming add_assoc->fS,add_mul->cX,add_sub_cancel->rN,add_sub_cancel_left->iW,mul_one->bAM,one_mul->aMJ,sub_self->PG,zero_le->aJ
open Go.Proofs.Tryz renaming prog->aA
section
namespace Go.Proofs.T
open Go Go.AM Go.Proofs
variable{Γ:List (Nat×List AVal)}
structure Tk where
 id:Int
 group:Int
 weight:Int
 cpu:Int
 mask:Int
 ready:Bool
 v:Int
 r:Int
structure Sp where
 v:Int
 r:Int
 floor:Int
structure St where
 cpus:Int
 credit:Int
 ng:Nat
 par:Nat->Int
 wt:Nat->Int
 nk:Nat
 clk:Nat->Int
 nu:Nat
 cur:Nat->Int
 nt:Nat
 tsk:Nat->Tk
 ns:Nat
 nsp:Nat->Nat
 sp:Nat->Nat->Sp
structure Flt where
 r:Int
 a:Int
 b:Int
deriving DecidableEq
abbrev i64(n:Int):AVal:= .lit (.int .i64 n)
abbrev u64(n:Int):AVal:= .lit (.int .u64 n)
abbrev u32(n:Int):AVal:= .lit (.int .u32 n)
def Flt.row (f:Flt):List AVal:=[.lit (.int .u8 f.r),.lit (.int .i64 f.a),.lit (.int .i64 f.b)]
theorem oZ{kb k:Nat}{fr:Fr}{H:aS}{k1:Nat}{fr1:Fr}{H1:aS}(hb:kb<=k1:=by omega)(hf:leF fr fr1:=by simp-dsimp-implicitDefEqProofs only[go_sem,uU,aH,Flt.row,eq_self,↓reduceIte])(hH:OO H H1:=by simp-dsimp-implicitDefEqProofs only[go_sem,uU,aH,Flt.row,eq_self,↓reduceIte])(h:bdF (kW k1) fr1=true:=by simp-dsimp-implicitDefEqProofs only[go_sem,uU,aH,Flt.row,eq_self,↓reduceIte])(h':rG (kW k1) H1=true:=by simp-dsimp-implicitDefEqProofs only[go_sem,uU,aH,Flt.row,eq_self,↓reduceIte]):Mv kb k fr H k1 fr1 H1:=kU (vY hb hf hH h h')
theorem fW{kb k:Nat}{fr:Fr}{H:aS}{k1:Nat}{fr1:Fr}{H1:aS}(hb:kb<=k1:=by omega)(hf:leF fr fr1:=by simp-dsimp-implicitDefEqProofs only[go_sem,aH,Flt.row,eq_self,↓reduceIte])(hH:OO H H1:=by simp-dsimp-implicitDefEqProofs only[go_sem,aH,Flt.row,eq_self,↓reduceIte])(h:bdF (kW k1) fr1=true:=by simp-dsimp-implicitDefEqProofs only[go_sem,aH,Flt.row,eq_self,↓reduceIte])(h':rG (kW k1) H1=true:=by simp-dsimp-implicitDefEqProofs only[go_sem,aH,Flt.row,eq_self,↓reduceIte]):Mv kb k fr H k1 fr1 H1:=
 kU (vY hb hf hH h h')
def gf(s:St)(i:Nat):List AVal:=[.lit (.int .i64 (s.par i)),.lit (.int .i64 (s.wt i))]
def kf(s:St)(i:Nat):List AVal:=[.lit (.int .i64 (s.clk i))]
def uf(s:St)(i:Nat):List AVal:=[.lit (.int .i64 (s.cur i))]
def tf(s:St)(i:Nat):List AVal:=[.lit (.int .i64 (s.tsk i).id),.lit (.int .i64 (s.tsk i).group),.lit (.int .i64 (s.tsk i).weight),.lit (.int .i64 (s.tsk i).cpu),.lit (.int .u64 (s.tsk i).mask),.lit (.bool (s.tsk i).ready),.lit (.int .u64 (s.tsk i).v),.lit (.int .u32 (s.tsk i).r)]
def sf(s:St)(g c:Nat):List AVal:=[.lit (.int .u64 (s.sp g c).v),.lit (.int .u32 (s.sp g c).r),.lit (.int .u64 (s.sp g c).floor)]
def VU(s:St)(g:Nat):List AVal:=[.rd 3 (s.nsp g) (sf s g)]
def St.cells (s:St):List AVal:=[.lit (.int .i64 s.cpus),.lit (.int .u64 s.credit),.rd 2 s.ng (gf s),.rd 1 s.nk (kf s),.rd 1 s.nu (uf s),.rd 8 s.nt (tf s),.rd 1 s.ns (VU s)]
attribute [go_sem] gf kf uf tf sf VU St.cells
def bF(f:Nat->List Flt):Nat->List Flt
 |0=>[]
 |n+1=>bF f n++f n
theorem dY{f:Nat->List Flt}:bF f 0=[]:=rfl
theorem cY{f:Nat->List Flt}{n:Nat}:bF f (n+1)=bF f n++f n:=rfl
theorem cJ{f:Nat->List Flt}{m:Nat}(h:∀i,(f i).length<=m):∀n,(bF f n).length<=n*m
 |0=>by simp[bF]
 |n+1=>by have:=cJ h n;have:=h n;simp only[bF,bQ,cX,aMJ];omega
def gY(s:St)(g:Nat):List Flt:=if(s.nsp g:Int)=s.cpus then []else [⟨2,3,g⟩]
theorem zP(s:St)(g:Nat):(gY s g).length<=1:=by unfold gY;split<;>simp
def fZ(s:St):List Flt:=
 (if(s.nk:Int)≠s.cpus then [⟨2,0,0⟩]else [])++(if(s.nu:Int)≠s.cpus then [⟨2,1,0⟩]else [])++
   (if s.ns≠s.ng then [⟨2,2,0⟩]else bF (gY s) s.ns)
theorem aAZ(s:St)(hn:s.ns<=1000):Pure aA Γ 187 [.agg s.cells] (rows 3 ((fZ s).map Flt.row)):=by
 refine aZ Tryz.func187 rfl 60 rfl bB rfl λ k=>?_;refine bY rfl ?_;refine iF rfl [0,1,2,3,4,5,13,22,34,43,53] [] rfl (λ K hK=>?_);refine sT ?_;(refine hK _ _ _ _ (λ hx=>?_));clear hx hK;refine sT ?_;refine bY rfl ?_;refine iF rfl [0,1,2,3,4,5,13,22,34,43,53] [] rfl (λ K hK=>?_);refine sT ?_;(refine hK _ _ _ _ (λ hx=>?_));clear hx hK;refine sT ?_;refine bY rfl ?_;refine iF rfl [0,1,2,3,4,5,13,22,34,43,53] [] rfl (λ K hK=>?_);refine sT ?_;(refine hK _ _ _ _ (λ hx=>?_));clear hx hK;refine sT ?_;refine SF (X:=List Flt) rfl (k+2) (λ l=>[(1,.ptr k 0 0),(2,()),(3,bV (k+1) (jL Flt.row (l))),(4,s.cpus)]) (λ l=>cA (k+1) 3 (jL Flt.row (l)) [(k,⟨7,true,[St.cells s]⟩)]) (λ l=>l=if(s.nk:Int)≠s.cpus then [⟨2,0,0⟩]else []) ?_ ?_
 ·(repeat(first|(refine bY rfl ?_)|(refine eZ rfl ?_)|(refine iF rfl [1,2,3,4,13] [] rfl (λ K hK=>?_);refine sT ?_;(refine hK _ _ _ _ (λ hx=>?_));clear hx hK;refine sT ?_;clear K)|(refine fD rfl ?_;simp-dsimp-implicitDefEqProofs only[go_sem,eq_self,↓reduceIte])));refine gA rfl _ rfl (λ ht=>?_) (λ hf=>?_);·(repeat(first|(refine bY rfl ?_)|(refine eZ rfl ?_)|(refine iF rfl [1,2,3,4,13] [] rfl (λ K hK=>?_);refine sT ?_;(refine hK _ _ _ _ (λ hx=>?_));clear hx hK;refine sT ?_;clear K)|(refine fD rfl ?_;simp-dsimp-implicitDefEqProofs only[go_sem,eq_self,↓reduceIte])));refine⟨[⟨2,0,0⟩],by simpa using ht,?_⟩;exact lM (k+2) (k+1) wL
  (repeat(first|(refine bY rfl ?_)|(refine eZ rfl ?_)|(refine iF rfl [1,2,3,4,13] [] rfl (λ K hK=>?_);refine sT ?_;(refine hK _ _ _ _ (λ hx=>?_));clear hx hK;refine sT ?_;clear K)|(refine fD rfl ?_;simp-dsimp-implicitDefEqProofs only[go_sem,eq_self,↓reduceIte])));refine⟨[],by simpa using hf,?_⟩;exact fW
 intro l1 hl1;refine SF (X:=List Flt) rfl (k+2) (λ l=>[(1,.ptr k 0 0),(2,()),(3,bV (k+1) (jL Flt.row (l))),(4,s.cpus)]) (λ l=>cA (k+1) 3 (jL Flt.row (l)) [(k,⟨7,true,[St.cells s]⟩)]) (λ l=>l=l1++if(s.nu:Int)≠s.cpus then [⟨2,1,0⟩]else []) ?_ ?_
 ·(repeat(first|(refine bY rfl ?_)|(refine eZ rfl ?_)|(refine iF rfl [1,2,3,4,22] [] rfl (λ K hK=>?_);refine sT ?_;(refine hK _ _ _ _ (λ hx=>?_));clear hx hK;refine sT ?_;clear K)|(refine fD rfl ?_;simp-dsimp-implicitDefEqProofs only[go_sem,eq_self,↓reduceIte])));refine gA rfl _ rfl (λ ht=>?_) (λ hf=>?_)
  .have hlen:l1.length<=1:=by rw[hl1];split<;>simp
   rw[if_pos (by simpa using ht)];clear hl1;rcases l1 with _|⟨x1,l1⟩;all_goals(refine iF rfl [1,2,3,4] [] rfl (λ K hK=>?_);refine sT ?_;(repeat'(first|(refine And.intro ?_ ?_)|(refine iI (λ hb=>?_) (λ hb=>?_)<;>(have hg:=hb;(try simp only[QH]at hg);simp-dsimp-implicitDefEqProofs only[go_sem,hb,hg,eq_self,↓reduceIte];clear hb;(try simp only[QG]at hg)))));(any_goals ((refine hK _ _ _ _ (λ hx=>?_));clear hx hK;refine sT ?_;(try simp(disch:=omega)only[wrap_i64,fF,wrap_u32,jV])));(all_goals(try omega)))
   all_goals(try(simp only[lZ]at hlen;omega))
   all_goals(refine⟨_,rfl,?_⟩)
   all_goals(exact lM (k+3) (k+1) wL)
  (repeat(first|(refine bY rfl ?_)|(refine eZ rfl ?_)|(refine iF rfl [1,2,3,4,22] [] rfl (λ K hK=>?_);refine sT ?_;(refine hK _ _ _ _ (λ hx=>?_));clear hx hK;refine sT ?_;clear K)|(refine fD rfl ?_;simp-dsimp-implicitDefEqProofs only[go_sem,eq_self,↓reduceIte])));refine⟨l1++[],by rw[if_neg (by simpa using hf)],?_⟩;rw[aR];exact fW
 intro l2 hl2;have hl2':l2=(if(s.nk:Int)≠s.cpus then [⟨2,0,0⟩]else [])++(if(s.nu:Int)≠s.cpus then [⟨2,1,0⟩]else []):=by rw[hl2,hl1]
 clear hl2 hl1;have hlen:l2.length<=2:=by rw[hl2'];split<;>split<;>simp
 refine bY rfl ?_;(repeat(first|(refine bY rfl ?_)|(refine eZ rfl ?_)|(refine iF rfl [1,2,3,4,34] [] rfl (λ K hK=>?_);refine sT ?_;(refine hK _ _ _ _ (λ hx=>?_));clear hx hK;refine sT ?_;clear K)|(refine fD rfl ?_;simp-dsimp-implicitDefEqProofs only[go_sem,eq_self,↓reduceIte])));refine gA rfl _ rfl (λ ht=>?_) (λ hf=>?_)
 .have hne:s.ns≠s.ng:=by simp only[bne_iff_ne,ne_eq]at ht;omega
  refine bY rfl ?_;generalize hL:(l2++[⟨2,2,0⟩]:List Flt)=L;have hspec:fZ s=L:=by rw[<-hL,hl2',fZ,if_pos hne]
  rcases l2 with _|⟨x1,l2⟩;all_goals(refine iF rfl [1,2] [] rfl (λ K hK=>?_);refine sT ?_;(repeat'(first|(refine And.intro ?_ ?_)|(refine iI (λ hb=>?_) (λ hb=>?_)<;>(have hg:=hb;(try simp only[QH]at hg);simp-dsimp-implicitDefEqProofs only[go_sem,hb,hg,eq_self,↓reduceIte];clear hb;(try simp only[QG]at hg)))));(any_goals ((refine hK _ _ _ _ (λ hx=>?_));clear hx hK;refine sT ?_;(try simp(disch:=omega)only[wrap_i64,fF,wrap_u32,jV])));(all_goals(try omega)))
  all_goals(try(simp only[lZ]at hlen;omega))
  all_goals(refine DO rfl (id:=k+3) (s:=3) (l:=jL Flt.row L) 2 (by subst hL;simp-dsimp-implicitDefEqProofs only[go_sem,aH,Flt.row,eq_self,↓reduceIte]) (by subst hL;simp-dsimp-implicitDefEqProofs only[go_sem,aH,Flt.row,eq_self,↓reduceIte]) ?_)
  all_goals(exact⟨_,rfl,by rw[hspec];exact aK _⟩)
 have heq:s.ns=s.ng:=by simp only[bne_eq_false_iff_eq]at hf;omega
 refine fD rfl ?_;refine sT ?_;(repeat(first|(refine bY rfl ?_)|(refine eZ rfl ?_)|(refine iF rfl [1,2,3,4,5,43,53] [] rfl (λ K hK=>?_);refine sT ?_;(refine hK _ _ _ _ (λ hx=>?_));clear hx hK;refine sT ?_;clear K)|(refine fD rfl ?_;simp-dsimp-implicitDefEqProofs only[go_sem,eq_self,↓reduceIte])));refine aHR (X:=Nat) rfl (k+2) (λ i=>(5,i)::[(1,.ptr k 0 0),(2,()),(3,bV (k+1) (jL Flt.row ((l2++bF (gY s) (i))))),(4,s.cpus)]) (λ i=>cA (k+1) 3 (jL Flt.row ((l2++bF (gY s) (i)))) [(k,⟨7,true,[St.cells s]⟩)]) (λ i=>i<=s.ns) (λ i=>s.ns-i) 0 ?_ (aJ _) ?_;.simp only[dY,aR];rw[show((0:Nat):Int)=0 from rfl];exact fW
 intro i hi;have hfl:=cJ (zP s) i;refine bY rfl ?_;(repeat(first|(refine bY rfl ?_)|(refine eZ rfl ?_)|(refine iF rfl [1,2,3,4,5,43] [] rfl (λ K hK=>?_);refine sT ?_;(refine hK _ _ _ _ (λ hx=>?_));clear hx hK;refine sT ?_;clear K)|(refine fD rfl ?_;simp-dsimp-implicitDefEqProofs only[go_sem,eq_self,↓reduceIte])));refine gA rfl _ rfl (λ ht=>?_) (λ hf=>?_)
 .simp only[dTt]at ht;refine fD rfl ?_;refine sT ?_;refine SF (X:=List Flt) rfl (k+2) (λ l=>(5,i)::[(1,.ptr k 0 0),(2,()),(3,bV (k+1) (jL Flt.row (l))),(4,s.cpus)]) (λ l=>cA (k+1) 3 (jL Flt.row (l)) [(k,⟨7,true,[St.cells s]⟩)]) (λ l=>l=(l2++bF (gY s) (i+1))) ?_ ?_
  .generalize hL:(l2++bF (gY s) (i))=L;have hLl:L.length<=1002:=by rw[<-hL,bQ];omega
   refine eZ rfl ?_;refine bY rfl ?_;refine iF rfl [1,2,3,4,5,53] [] rfl (λ K hK=>?_);refine sT ?_;(repeat'(first|(refine And.intro ?_ ?_)|(refine iI (λ hb=>?_) (λ hb=>?_)<;>(have hg:=hb;(try simp only[QH]at hg);simp-dsimp-implicitDefEqProofs only[go_sem,hb,hg,eq_self,↓reduceIte];clear hb;(try simp only[QG]at hg)))));(any_goals ((refine hK _ _ _ _ (λ hx=>?_));clear hx hK;refine sT ?_;(try simp(disch:=omega)only[wrap_i64,fF,wrap_u32,jV])));(all_goals(try omega));all_goals(try omega)
   refine gA rfl _ rfl (λ ht=>?_) (λ hf=>?_)
   .have hne:l2++bF (gY s) (i+1)=L++[⟨2,3,i⟩]:=by simp only[bne_iff_ne,ne_eq]at ht;rw[cY,<-bL,hL,gY,if_neg ht]
    rw[hne];clear hL hne;rcases L with _|⟨x1,L⟩;all_goals(refine iF rfl [1,2,3,4,5] [] rfl (λ K hK=>?_);refine sT ?_;(repeat'(first|(refine And.intro ?_ ?_)|(refine iI (λ hb=>?_) (λ hb=>?_)<;>(have hg:=hb;(try simp only[QH]at hg);simp-dsimp-implicitDefEqProofs only[go_sem,hb,hg,eq_self,↓reduceIte];clear hb;(try simp only[QG]at hg)))));(any_goals ((refine hK _ _ _ _ (λ hx=>?_));clear hx hK;refine sT ?_;(try simp(disch:=omega)only[wrap_i64,fF,wrap_u32,jV])));(all_goals(try omega)))
    all_goals(try(simp only[lZ]at hLl;omega))
    all_goals(refine⟨_,rfl,?_⟩)
    all_goals(exact lM (k+3) (k+1) wL)
   refine fD rfl ?_;refine sT ?_;refine⟨L,by simp only[bne_eq_false_iff_eq]at hf;rw[cY,<-bL,hL,gY,if_pos hf,aR],?_⟩;exact fW
  intro l hl;(repeat(first|(refine bY rfl ?_)|(refine eZ rfl ?_)|(refine iF rfl [1,2,3,4,5] [] rfl (λ K hK=>?_);refine sT ?_;(refine hK _ _ _ _ (λ hx=>?_));clear hx hK;refine sT ?_;clear K)|(refine fD rfl ?_;simp-dsimp-implicitDefEqProofs only[go_sem,eq_self,↓reduceIte])));refine⟨i+1,oO,oO,?_⟩;rw[wrap_i64 oO oO,<-hl,show((i+1:Nat):Int)=(i:Int)+1 from rfl];exact fW
 simp only[dFn]at hf;refine jU rfl ?_;refine rR ?_;apply zN;(repeat(first|(refine bY rfl ?_)|(refine eZ rfl ?_)|(refine iF rfl [1,2,3,4,5] [] rfl (λ K hK=>?_);refine sT ?_;(refine hK _ _ _ _ (λ hx=>?_));clear hx hK;refine sT ?_;clear K)|(refine fD rfl ?_;simp-dsimp-implicitDefEqProofs only[go_sem,eq_self,↓reduceIte])));have hi':i=s.ns:=oO;subst hi';refine DO rfl (id:=k+1) (s:=3) (l:=jL Flt.row (l2++bF (gY s) s.ns)) 2 sL sL ?_;exact⟨_,rfl,by rw[fZ,<-hl2',if_neg (by simp[heq])];exact aK _⟩
end Go.Proofs.T
end
