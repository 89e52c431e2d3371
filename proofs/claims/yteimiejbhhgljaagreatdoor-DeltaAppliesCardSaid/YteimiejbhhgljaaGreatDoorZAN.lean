import Derived.Test.YteimiejbhhgljaaGreatDoorZAM
import Derived.Lib.ItoaNum
import Derived.Lib.ItoaMem
import Derived.Lib.AtoiAll
import Derived.Lib.Split
import Derived.Shelf.Strconv.Itoa3
import Derived.Shelf.Strconv.AtoiAll
import Derived.Shelf.Strings.Split
import Derived.Lib.ParseIntBCases
import Derived.Test.YteimiejbhhgljaaGreatDoorRows
set_option linter.unusedVariables false
set_option linter.unusedSimpArgs false
set_option maxHeartbeats 0
set_option maxRecDepth 100000
open Array renaming getElem?_append_left->gR,getElem?_eq_some_iff->cZ
open Bool renaming and_eq_true->aC,eq_iff_iff->aY
open Int renaming toNat_natCast->gX
open Go.IntKind renaming i64->aN,u32->jF,u64->bN
open List renaming all_eq_true->aW,append_assoc->bL,append_nil->aR,cons_append->dQ,ext_getElem?->kP,filter_congr->bAO,getD_eq_getElem?_getD->bD,getElem?_cons_zero->iX,getElem?_eq_getElem->aE,getElem?_eq_none->cI,getElem?_map->aQ,getElem?_toArray->cH,getElem_mem->bKH,length_filter_le->bFZ,length_map->bP,map->jL,map_append->aH,map_cons->bG,map_map->jD,map_nil->aV,mem_cons_of_mem->fP,mem_filter->jY,mem_map->cL,nil_append->cN,range->aM,range_succ->CI,size_toArray->gW,take_length->aHS
open Nat renaming add_assoc->fS,add_comm->bFX,add_sub_cancel->rN,add_sub_cancel_left->iW,add_zero->jX,eq_zero_or_pos->jJ,le_refl->aF,mul_one->bAM,not_lt_zero->bJ,sub_self->PG,zero_le->aJ
open Option renaming some->mB
open Go.Proofs.Tryz renaming f21->aHO,prog->aA,underlying22->iL,underlying26->bAI,underlying3->dB,underlying33->CH,underlying36->bAH,underlying4->lW,underlying50->jB
open Go.Value renaming okWide->bFS
section
namespace Go.Proofs.T
open Go Go.AM Go.Proofs
variable{Γ:List (Nat×List AVal)}
attribute [local irreducible] gK del
theorem aKG{H r:aS}{id j s:Nat}{l:List (List AVal)}(h:j≠id):ID H id (cA j s l r)=(iU H j s l/\ID H id r):=by
 cases l with
 |nil=>simp[cA,iU]
 |cons x l=>simp[cA,ID,iU,h]
attribute [go_sem] aKG
theorem rb1(a b:St)(hnk:a.nk<=1000)(gnk:b.nk=a.nk)(gu:a.nu=a.nk)(gu':b.nu=a.nk)(k:Nat)(Q:AQ)(n0 n1:Nat)(f0 f1:Nat->List AVal)(e0:rows 2 ((fC (fG a.clk b.clk) a.nk).map jM)= .rd 2 n0 f0)(e1:rows 2 ((fC (fG a.cur b.cur) a.nk).map jM)= .rd 2 n1 f1)
 (hrest:W aA Γ 240 k (fR (dZ Tryz.f17) [1,1,1,1,1,1]) Q (k+6) [(8,.ptr (k+3) 0 0),(5,(0:Int)),(4,.ptr (k+2) 0 0),(3,.ptr (k+1) 0 0),(2,.ptr k 0 0)] [(k+2,⟨6,true,[[(),(),(),(),(),()]]⟩),(k+1,⟨7,true,[b.cells]⟩),(k,⟨7,true,[a.cells]⟩),(k+3,⟨6,false,[[.rd 2 n0 f0,.rd 2 n1 f1,(),(),(),()]]⟩)]):
 W aA Γ 240 k (fR (dZ Tryz.f17) [0,1,0,1,1,1,1,1]) (yT 0 (pL (W aA Γ 240 k (fR (dZ Tryz.f17) [1,1,1,1,1,1]) Q) Q)) (k+4) [(9,(0:Int)),(8,.ptr (k+3) 0 0),(5,(0:Int)),(4,.ptr (k+2) 0 0),(3,.ptr (k+1) 0 0),(2,.ptr k 0 0)] [(k+2,⟨6,true,[[(),(),(),(),(),()]]⟩),(k+1,⟨7,true,[b.cells]⟩),(k,⟨7,true,[a.cells]⟩),(k+3,⟨6,true,[[(),(),(),(),(),()]]⟩)]:=by
 refine dI (sE (k+3) (by simp-dsimp-implicitDefEqProofs only[go_sem,eq_self,↓reduceIte];rfl)) ?_;refine rR ?_;apply zN;refine bE (X:=Nat) rfl [0,1,2,3,4,5,6,7,8,9,10,11,12,14,15,16,17,25,36,42,55,78,95,112,131,150,171,187,203,228] (k+6) (λ i=>[(9,i)]) (λ i=>cA (k+4) 2 ((fC (fG a.clk b.clk) i).map jM) (cA (k+5) 2 ((fC (fG a.cur b.cur) i).map jM) [(k+2,⟨6,true,[[(),(),(),(),(),()]]⟩),(k+1,⟨7,true,[b.cells]⟩),(k,⟨7,true,[a.cells]⟩),(k+3,⟨6,false,[[bV (k+4) ((fC (fG a.clk b.clk) i).map jM),bV (k+5) ((fC (fG a.cur b.cur) i).map jM),(),(),(),()]]⟩)])) (λ i=>i<=a.nk) (λ i=>a.nk-i) 0 ?_ (aJ _) ?_;.rw[lG,lG,aV];refine rR ?_;apply zN;exact fW
 intro i hi;have hf0:=jH (qD a.clk b.clk) i;have hf1:=jH (qD a.cur b.cur) i;obtain⟨A,eA,hA⟩:∃x,x=((fC (fG a.clk b.clk) i).map jM)/\x.length<=i:=⟨_,rfl,by simp;omega⟩;obtain⟨B,eB,hB⟩:∃x,x=((fC (fG a.cur b.cur) i).map jM)/\x.length<=i:=⟨_,rfl,by simp;omega⟩;obtain⟨A',eA'⟩:∃x,x=((fC (fG a.clk b.clk) (i+1)).map jM):=⟨_,rfl⟩;obtain⟨B',eB'⟩:∃x,x=((fC (fG a.cur b.cur) (i+1)).map jM):=⟨_,rfl⟩;have sA:A'=A++(fG a.clk b.clk i).map jM:=by rw[eA',kL,aH,<-eA]
 have sB:B'=B++(fG a.cur b.cur i).map jM:=by rw[eB',kL,aH,<-eB]
 have hA':A'.length<=i+1:=by rw[sA];have:=qD a.clk b.clk i;simp;omega
 rw[<-eA,<-eB];refine rR ?_;apply zN;refine bY rfl ?_;refine bY rfl ?_;(refine gL rfl [0,1,2,3,4,5,6,7,8,9,10,11,12,14,15,16,17,25,36,42,55,78,95,112,131,150,171,187,203,228] rfl rfl (λ K hK=>?_));refine sT ?_;(refine hK _ _ _ _ (λ hx=>?_));clear hx hK;refine sT ?_;clear K;refine gA rfl _ rfl (λ ht=>?_) (λ ht=>?_)
 .simp only[nf]at ht;refine fD rfl ?_;refine rR ?_;apply zN;refine bY rfl ?_;refine eZ rfl ?_;refine VR rfl [0,1,2,3,4,5,6,7,8,9,10,11,12,14,15,16,17,25,36,42,55,78,95,112,131,150,171,187,203,228] (k+8) [] (cA (k+4) 2 A' (cA (k+5) 2 B [(k+2,⟨6,true,[[(),(),(),(),(),()]]⟩),(k+1,⟨7,true,[b.cells]⟩),(k,⟨7,true,[a.cells]⟩),(k+3,⟨6,false,[[bV (k+4) A',bV (k+5) B,(),(),(),()]]⟩)])) ?_ ?_
  .clear eB;rcases A with _|⟨x0,A⟩
   .have kp:=fI k [0,1,2,3,4,5,6,7,8,9,10,11,12,14,15,16,17,25,36,42,55,78,95,112,131,150,171,187,203,228];refine wl ?_;refine dD ⟨λ ht=>zN ?_⟩ ⟨λ ht=>zN ?_⟩
    .have hd:fG a.clk b.clk i=[((i:Int),b.clk i)]:=by rw[fG,uG,if_pos (by simp;omega)]
     rw[sA,hd,bG,aV,cN];refine rR ?_;apply zN;exact lM (k+7) (k+4) wL
    have hd:fG a.clk b.clk i=[]:=by rw[fG,uG,if_neg (by simp;omega)]
    rw[sA,hd,aV,aR];refine rR ?_;apply zN;exact fW
   have hL:A.length+1<=i:=by simpa using hA
   have kp:=fI k [0,1,2,3,4,5,6,7,8,9,10,11,12,14,15,16,17,25,36,42,55,78,95,112,131,150,171,187,203,228];refine wl ?_;refine dD ⟨λ ht=>zN ?_⟩ ⟨λ ht=>zN ?_⟩
   .have hd:fG a.clk b.clk i=[((i:Int),b.clk i)]:=by rw[fG,uG,if_pos (by simp;omega)]
    rw[sA,hd,bG,aV,dQ];refine rR ?_;apply zN;exact lM (k+7) (k+4) wL
   have hd:fG a.clk b.clk i=[]:=by rw[fG,uG,if_neg (by simp;omega)]
   rw[sA,hd,aV,aR];refine rR ?_;apply zN;exact fW
  refine rR ?_;apply zN;clear eA sA;rcases B with _|⟨x0,B⟩
  .have kp:=fI k [0,1,2,3,4,5,6,7,8,9,10,11,12,14,15,16,17,25,36,42,55,78,95,112,131,150,171,187,203,228];refine wl ?_;refine dD ⟨λ ht=>zN ?_⟩ ⟨λ ht=>zN ?_⟩
   .have hd:fG a.cur b.cur i=[((i:Int),b.cur i)]:=by rw[fG,uG,if_pos (by simp;omega)]
    refine⟨i+1,oO,oO,?_⟩;rw[<-eA',<-eB'];rw[sB,hd,bG,aV,cN];refine rR ?_;apply zN;exact lM (k+9) (k+5) wL
   have hd:fG a.cur b.cur i=[]:=by rw[fG,uG,if_neg (by simp;omega)]
   refine⟨i+1,oO,oO,?_⟩;rw[<-eA',<-eB'];rw[sB,hd,aV,aR];refine rR ?_;apply zN;exact fW
  have hL:B.length+1<=i:=by simpa using hB
  have kp:=fI k [0,1,2,3,4,5,6,7,8,9,10,11,12,14,15,16,17,25,36,42,55,78,95,112,131,150,171,187,203,228];refine wl ?_;refine dD ⟨λ ht=>zN ?_⟩ ⟨λ ht=>zN ?_⟩
  .have hd:fG a.cur b.cur i=[((i:Int),b.cur i)]:=by rw[fG,uG,if_pos (by simp;omega)]
   refine⟨i+1,oO,oO,?_⟩;rw[<-eA',<-eB'];rw[sB,hd,bG,aV,dQ];refine rR ?_;apply zN;exact lM (k+9) (k+5) wL
  have hd:fG a.cur b.cur i=[]:=by rw[fG,uG,if_neg (by simp;omega)]
  refine⟨i+1,oO,oO,?_⟩;rw[<-eA',<-eB'];rw[sB,hd,aV,aR];refine rR ?_;apply zN;exact fW
 simp only[nf]at ht;refine jU rfl ?_;refine rR ?_;apply zN;have hin:i=a.nk:=oO;subst hin;clear sA sB eA' eB' hA';refine dI (fX (id:=k+4) (s:=2) (D:=k+3) (sz:=6) (l:=A) (row:=[bV (k+4) A,bV (k+5) B,.lit (.slice none 0 0),.lit (.slice none 0 0),.lit (.slice none 0 0),.lit (.slice none 0 0)]) 0 (.rd 2 n0 f0) [(8,.ptr (k+3) 0 0),(5,(0:Int)),(4,.ptr (k+2) 0 0),(3,.ptr (k+1) 0 0),(2,.ptr k 0 0)] (cA (k+5) 2 B [(k+2,⟨6,true,[[(),(),(),(),(),()]]⟩),(k+1,⟨7,true,[b.cells]⟩),(k,⟨7,true,[a.cells]⟩)]) oO sL rfl sL (by rw[eA,e0];exact aK _) sL sL sL) ?_;refine dI (fX (id:=k+5) (s:=2) (D:=k+3) (sz:=6) (l:=B) (row:=[.rd 2 n0 f0,bV (k+5) B,.lit (.slice none 0 0),.lit (.slice none 0 0),.lit (.slice none 0 0),.lit (.slice none 0 0)]) 1 (.rd 2 n1 f1) [(8,.ptr (k+3) 0 0),(5,(0:Int)),(4,.ptr (k+2) 0 0),(3,.ptr (k+1) 0 0),(2,.ptr k 0 0)] [(k+2,⟨6,true,[[(),(),(),(),(),()]]⟩),(k+1,⟨7,true,[b.cells]⟩),(k,⟨7,true,[a.cells]⟩)] oO sL rfl sL (by rw[eB,e1];exact aK _) sL sL sL) ?_;refine dI (kU (k1:=k+6) (fr1:=[(8,.ptr (k+3) 0 0),(5,.lit (.int .i64 0)),(4,.ptr (k+2) 0 0),(3,.ptr (k+1) 0 0),(2,.ptr k 0 0)]) (H1:=[(k+2,⟨6,true,[[.lit (.slice none 0 0),.lit (.slice none 0 0),.lit (.slice none 0 0),.lit (.slice none 0 0),.lit (.slice none 0 0),.lit (.slice none 0 0)]]⟩),(k+1,⟨7,true,[b.cells]⟩),(k,⟨7,true,[a.cells]⟩),(k+3,⟨6,false,[[.rd 2 n0 f0,.rd 2 n1 f1,.lit (.slice none 0 0),.lit (.slice none 0 0),.lit (.slice none 0 0),.lit (.slice none 0 0)]]⟩)]) wL) ?_;exact hrest
def DQ(f:Nat->List AVal)(i:Nat):List (List AVal):=(aM i).map f
theorem rT(f:Nat->List AVal):DQ f 0=[]:=rfl
theorem rU(f:Nat->List AVal)(i:Nat):DQ f (i+1)=DQ f i++[f i]:=CT
theorem qE(f:Nat->List AVal)(i:Nat):(DQ f i).length=i:=by simp[DQ]
theorem AN(s:Nat)(f:Nat->List AVal)(n:Nat):VLe (rows s (DQ f n)) (.rd s n f):=by rw[rows,qE];exact nQ _ _ _
attribute [go_sem] qE
theorem aVO(d:DE)(hd:d.size<=100000)(k:Nat)(Q:AQ)(hQ:∀k1 fr H,AM.look fr 2=some (.ptr (k+1) 0 0)->AM.look H (k+1)=some ⟨6,true,[d.cells]⟩->Q .ret k1 fr H):
 W aA Γ 78 k (fR (dZ Tryz.f19) [0,1,0,1,1]) (yT 0 (pL (W aA Γ 78 k (fR (dZ Tryz.f19) [1,1,1]) Q) Q)) (k+7) [(24,(0:Int)),(23,d.n0),(22,.rd 2 d.n0 d.f0),(3,.ptr (k+4) 0 0),(2,.ptr (k+1) 0 0),(1,.ptr k 0 0)] [(k+4,⟨6,true,[[(),(),(),.rd 1 d.n3 d.f3,.rd 8 d.n4 d.f4,()]]⟩),(k+1,⟨6,true,[[(),(),(),(),(),()]]⟩),(k,⟨6,true,[d.cells]⟩)]:=by
 unfold DE.size at hd;refine dI (sE (k+4) (by simp-dsimp-implicitDefEqProofs only[go_sem,eq_self,↓reduceIte];rfl)) ?_;refine rR ?_;apply zN;refine bE (X:=Nat) rfl [0,1,2,3,5,7,9,11,22,23,24,25,36,37,38,39,50,51,52,53,64,65,66,67] (k+8) (λ i=>[(24,i)]) (λ i=>cA (k+7) 2 (DQ d.f0 i) [(k+4,⟨6,false,[[bV (k+7) (DQ d.f0 i),(),(),.rd 1 d.n3 d.f3,.rd 8 d.n4 d.f4,()]]⟩),(k+1,⟨6,true,[[(),(),(),(),(),()]]⟩),(k,⟨6,true,[d.cells]⟩)]) (λ i=>i<=d.n0) (λ i=>d.n0-i) 0 ?_ (aJ _) ?_;.rw[rT];refine rR ?_;apply zN;exact fW
 intro i hi;obtain⟨l,el,hl⟩:∃x,x=DQ d.f0 i/\x.length=i:=⟨_,rfl,qE _ _⟩;rw[<-el];refine rR ?_;apply zN;have kp:=fI k [0,1,2,3,5,7,9,11,22,23,24,25,36,37,38,39,50,51,52,53,64,65,66,67];refine wl ?_;refine dD ⟨λ ht=>zN ?_⟩ ⟨λ ht=>zN ?_⟩;.refine⟨i+1,oO,oO,?_⟩;rw[rU,<-el];refine rR ?_;apply zN;exact lM (k+10) (k+7) wL
 have hin:i=d.n0:=oO;subst hin;refine dI (fX (id:=k+7) (s:=2) (D:=k+4) (sz:=6) (l:=l) (row:=[bV (k+7) l,.lit (.slice none 0 0),.lit (.slice none 0 0),.rd 1 d.n3 d.f3,.rd 8 d.n4 d.f4,.lit (.slice none 0 0)]) 0 (.rd 2 d.n0 d.f0) [(38,(0:Int)),(37,d.n1),(36,.rd 2 d.n1 d.f1),(3,.ptr (k+4) 0 0),(2,.ptr (k+1) 0 0),(1,.ptr k 0 0)] [(k+1,⟨6,true,[[(),(),(),(),(),()]]⟩),(k,⟨6,true,[d.cells]⟩)] oO sL rfl sL (by rw[el];exact AN _ _ _) sL sL sL) ?_;refine dI (kU (k1:=k+8) (fr1:=[(38,.lit (.int .i64 0)),(37,.lit (.int .i64 (d.n1:Int))),(36,.rd 2 d.n1 d.f1),(3,.ptr (k+4) 0 0),(2,.ptr (k+1) 0 0),(1,.ptr k 0 0)]) (H1:=[(k+4,⟨6,false,[[.rd 2 d.n0 d.f0,.lit (.slice none 0 0),.lit (.slice none 0 0),.rd 1 d.n3 d.f3,.rd 8 d.n4 d.f4,.lit (.slice none 0 0)]]⟩),(k+1,⟨6,true,[[.lit (.slice none 0 0),.lit (.slice none 0 0),.lit (.slice none 0 0),.lit (.slice none 0 0),.lit (.slice none 0 0),.lit (.slice none 0 0)]]⟩),(k,⟨6,true,[d.cells]⟩)]) wL) ?_;clear el hl;clear l;refine rR ?_;apply zN;refine bE (X:=Nat) rfl [0,1,2,3,5,7,9,11,22,23,24,25,36,37,38,39,50,51,52,53,64,65,66,67] (k+9) (λ i=>[(38,i)]) (λ i=>cA (k+8) 2 (DQ d.f1 i) [(k+4,⟨6,false,[[.rd 2 d.n0 d.f0,bV (k+8) (DQ d.f1 i),(),.rd 1 d.n3 d.f3,.rd 8 d.n4 d.f4,()]]⟩),(k+1,⟨6,true,[[(),(),(),(),(),()]]⟩),(k,⟨6,true,[d.cells]⟩)]) (λ i=>i<=d.n1) (λ i=>d.n1-i) 0 ?_ (aJ _) ?_;.rw[rT];refine rR ?_;apply zN;exact fW
 intro i hi;obtain⟨l,el,hl⟩:∃x,x=DQ d.f1 i/\x.length=i:=⟨_,rfl,qE _ _⟩;rw[<-el];refine rR ?_;apply zN;refine wl ?_;refine dD ⟨λ ht=>zN ?_⟩ ⟨λ ht=>zN ?_⟩;.refine⟨i+1,oO,oO,?_⟩;rw[rU,<-el];refine rR ?_;apply zN;exact lM (k+11) (k+8) wL
 have hin:i=d.n1:=oO;subst hin;refine dI (fX (id:=k+8) (s:=2) (D:=k+4) (sz:=6) (l:=l) (row:=[.rd 2 d.n0 d.f0,bV (k+8) l,.lit (.slice none 0 0),.rd 1 d.n3 d.f3,.rd 8 d.n4 d.f4,.lit (.slice none 0 0)]) 1 (.rd 2 d.n1 d.f1) [(52,(0:Int)),(51,d.n2),(50,.rd 2 d.n2 d.f2),(3,.ptr (k+4) 0 0),(2,.ptr (k+1) 0 0),(1,.ptr k 0 0)] [(k+1,⟨6,true,[[(),(),(),(),(),()]]⟩),(k,⟨6,true,[d.cells]⟩)] oO sL rfl sL (by rw[el];exact AN _ _ _) sL sL sL) ?_;refine dI (kU (k1:=k+9) (fr1:=[(52,.lit (.int .i64 0)),(51,.lit (.int .i64 (d.n2:Int))),(50,.rd 2 d.n2 d.f2),(3,.ptr (k+4) 0 0),(2,.ptr (k+1) 0 0),(1,.ptr k 0 0)]) (H1:=[(k+4,⟨6,false,[[.rd 2 d.n0 d.f0,.rd 2 d.n1 d.f1,.lit (.slice none 0 0),.rd 1 d.n3 d.f3,.rd 8 d.n4 d.f4,.lit (.slice none 0 0)]]⟩),(k+1,⟨6,true,[[.lit (.slice none 0 0),.lit (.slice none 0 0),.lit (.slice none 0 0),.lit (.slice none 0 0),.lit (.slice none 0 0),.lit (.slice none 0 0)]]⟩),(k,⟨6,true,[d.cells]⟩)]) wL) ?_;clear el hl;clear l;refine rR ?_;apply zN;refine bE (X:=Nat) rfl [0,1,2,3,5,7,9,11,22,23,24,25,36,37,38,39,50,51,52,53,64,65,66,67] (k+10) (λ i=>[(52,i)]) (λ i=>cA (k+9) 2 (DQ d.f2 i) [(k+4,⟨6,false,[[.rd 2 d.n0 d.f0,.rd 2 d.n1 d.f1,bV (k+9) (DQ d.f2 i),.rd 1 d.n3 d.f3,.rd 8 d.n4 d.f4,()]]⟩),(k+1,⟨6,true,[[(),(),(),(),(),()]]⟩),(k,⟨6,true,[d.cells]⟩)]) (λ i=>i<=d.n2) (λ i=>d.n2-i) 0 ?_ (aJ _) ?_;.rw[rT];refine rR ?_;apply zN;exact fW
 intro i hi;obtain⟨l,el,hl⟩:∃x,x=DQ d.f2 i/\x.length=i:=⟨_,rfl,qE _ _⟩;rw[<-el];refine rR ?_;apply zN;refine wl ?_;refine dD ⟨λ ht=>zN ?_⟩ ⟨λ ht=>zN ?_⟩;.refine⟨i+1,oO,oO,?_⟩;rw[rU,<-el];refine rR ?_;apply zN;exact lM (k+12) (k+9) wL
 have hin:i=d.n2:=oO;subst hin;refine dI (fX (id:=k+9) (s:=2) (D:=k+4) (sz:=6) (l:=l) (row:=[.rd 2 d.n0 d.f0,.rd 2 d.n1 d.f1,bV (k+9) l,.rd 1 d.n3 d.f3,.rd 8 d.n4 d.f4,.lit (.slice none 0 0)]) 2 (.rd 2 d.n2 d.f2) [(66,(0:Int)),(65,d.n5),(64,.rd 5 d.n5 d.f5),(3,.ptr (k+4) 0 0),(2,.ptr (k+1) 0 0),(1,.ptr k 0 0)] [(k+1,⟨6,true,[[(),(),(),(),(),()]]⟩),(k,⟨6,true,[d.cells]⟩)] oO sL rfl sL (by rw[el];exact AN _ _ _) sL sL sL) ?_;refine dI (kU (k1:=k+10) (fr1:=[(66,.lit (.int .i64 0)),(65,.lit (.int .i64 (d.n5:Int))),(64,.rd 5 d.n5 d.f5),(3,.ptr (k+4) 0 0),(2,.ptr (k+1) 0 0),(1,.ptr k 0 0)]) (H1:=[(k+4,⟨6,false,[[.rd 2 d.n0 d.f0,.rd 2 d.n1 d.f1,.rd 2 d.n2 d.f2,.rd 1 d.n3 d.f3,.rd 8 d.n4 d.f4,.lit (.slice none 0 0)]]⟩),(k+1,⟨6,true,[[.lit (.slice none 0 0),.lit (.slice none 0 0),.lit (.slice none 0 0),.lit (.slice none 0 0),.lit (.slice none 0 0),.lit (.slice none 0 0)]]⟩),(k,⟨6,true,[d.cells]⟩)]) wL) ?_;clear el hl;clear l;refine rR ?_;apply zN;refine bE (X:=Nat) rfl [0,1,2,3,5,7,9,11,22,23,24,25,36,37,38,39,50,51,52,53,64,65,66,67] (k+11) (λ i=>[(66,i)]) (λ i=>cA (k+10) 5 (DQ d.f5 i) [(k+4,⟨6,false,[[.rd 2 d.n0 d.f0,.rd 2 d.n1 d.f1,.rd 2 d.n2 d.f2,.rd 1 d.n3 d.f3,.rd 8 d.n4 d.f4,bV (k+10) (DQ d.f5 i)]]⟩),(k+1,⟨6,true,[[(),(),(),(),(),()]]⟩),(k,⟨6,true,[d.cells]⟩)]) (λ i=>i<=d.n5) (λ i=>d.n5-i) 0 ?_ (aJ _) ?_;.rw[rT];refine rR ?_;apply zN;exact fW
 intro i hi;obtain⟨l,el,hl⟩:∃x,x=DQ d.f5 i/\x.length=i:=⟨_,rfl,qE _ _⟩;rw[<-el];refine rR ?_;apply zN;refine bY rfl ?_;(refine gL rfl [0,1,2,3,5,7,9,11,22,23,24,25,36,37,38,39,50,51,52,53,64,65,66,67] rfl rfl (λ K hK=>?_));refine sT ?_;(refine hK _ _ _ _ (λ hx=>?_));clear hx hK;refine sT ?_;clear K;refine bY rfl ?_;refine gA rfl _ rfl (λ ht=>?_) (λ ht=>?_);.simp only[nf]at ht;refine fD rfl ?_;refine rR ?_;apply zN;refine wl ?_;refine aU (zs ?_);refine⟨i+1,oO,oO,?_⟩;rw[rU,<-el];refine rR ?_;apply zN;exact lM (k+13) (k+10) wL
 simp only[nf]at ht;refine jU rfl ?_;refine rR ?_;apply zN;have hin:i=d.n5:=oO;subst hin;refine dI (fX (id:=k+10) (s:=5) (D:=k+4) (sz:=6) (l:=l) (row:=[.rd 2 d.n0 d.f0,.rd 2 d.n1 d.f1,.rd 2 d.n2 d.f2,.rd 1 d.n3 d.f3,.rd 8 d.n4 d.f4,bV (k+10) l]) 5 (.rd 5 d.n5 d.f5) [(3,.ptr (k+4) 0 0),(2,.ptr (k+1) 0 0)] [(k+1,⟨6,true,[[(),(),(),(),(),()]]⟩),(k,⟨6,true,[d.cells]⟩)] oO sL rfl sL (by rw[el];exact AN _ _ _) sL sL sL) ?_;clear el hl;refine rR ?_;apply zN;refine wl ?_;refine aU (zs ?_);exact aX rfl (hQ _ _ _ sL sL)
theorem a4I(d:DE)(n:Nat):(((aM n).map d.f3).all λ row=>row.all AM.one)=true:=by rw[aW];intro row hr;obtain⟨i,_,rfl⟩:=cL.1 hr;rfl
theorem a4H(d:DE)(n:Nat):(((aM n).map d.f4).all λ row=>row.all AM.one)=true:=by rw[aW];intro row hr;obtain⟨i,_,rfl⟩:=cL.1 hr;rfl
theorem KH(d:DE)(hd:d.size<=100000):AM.Pure aA Γ 19 [.agg d.cells] (.agg d.cells):=by
 have hd':=hd;unfold DE.size at hd';refine aZ Tryz.func19 rfl 78 rfl bB rfl λ k=>?_;have hfin:=aVO (Γ:=Γ) d hd k (yD aA Tryz.f19 λ _ r1 _=>VLe r1 (.agg d.cells)) (λ k1 fr H h1 h2=>by refine⟨.agg d.cells,?_,aK _⟩;simp-dsimp-implicitDefEqProofs only[go_sem,h1,h2,eq_self,↓reduceIte])
 have o3:=a4I d;have o4:=a4H d;rcases jJ d.n3 with h3|h3
 .rcases jJ d.n4 with h4|h4;.simp only[DE.cells,h3,h4]at hfin;have kp:=fI k [0,1,2,3,5,7,9,11,22,23,24,25,36,37,38,39,50,51,52,53,64,65,66,67];have uU:=DP @h3 @h4 @o3 @o4;refine wl ?_;refine aU (zs ?_);refine dI (dJ (k+2) (by simp-dsimp-implicitDefEqProofs only[go_sem,h3,h4,o3,o4,eq_self,↓reduceIte];rfl) rfl) ?_;simp-dsimp-implicitDefEqProofs only[kX,fE,go_sem,h3,h4,o3,o4,eq_self,↓reduceIte];refine dI (dJ (k+3) (by simp-dsimp-implicitDefEqProofs only[go_sem,h3,h4,o3,o4,eq_self,↓reduceIte];rfl) rfl) ?_;simp-dsimp-implicitDefEqProofs only[kX,fE,go_sem,h3,h4,o3,o4,eq_self,↓reduceIte];refine dI (Mv.row (k+4) (l:=[]) [(),(),(),.rd 1 0 d.f3,.rd 8 0 d.f4,()] (by simp-dsimp-implicitDefEqProofs only[go_sem,h3,h4,o3,o4,aH,Flt.row,eq_self,↓reduceIte];rfl) (.cons (aK _) (.cons (aK _) (.cons (aK _) (.cons (VLe.rd (λ i hi=>absurd hi oO)) (.cons (VLe.rd (λ i hi=>absurd hi oO)) (.cons (aK _) .nil)))))) rfl) ?_;refine rR ?_;apply zN;refine dI (kU (k1:=k+7) (fr1:=[(24,.lit (.int .i64 0)),(23,.lit (.int .i64 (d.n0:Int))),(22,.rd 2 d.n0 d.f0),(3,.ptr (k+4) 0 0),(2,.ptr (k+1) 0 0),(1,.ptr k 0 0)]) (H1:=[(k+4,⟨6,true,[[.lit (.slice none 0 0),.lit (.slice none 0 0),.lit (.slice none 0 0),.rd 1 0 d.f3,.rd 8 0 d.f4,.lit (.slice none 0 0)]]⟩),(k+1,⟨6,true,[[.lit (.slice none 0 0),.lit (.slice none 0 0),.lit (.slice none 0 0),.lit (.slice none 0 0),.lit (.slice none 0 0),.lit (.slice none 0 0)]]⟩),(k,⟨6,true,[[.rd 2 d.n0 d.f0,.rd 2 d.n1 d.f1,.rd 2 d.n2 d.f2,.rd 1 0 d.f3,.rd 8 0 d.f4,.rd 5 d.n5 d.f5]]⟩)]) (wV (DP (@h3) (@h4) (@o3) (@o4)))) ?_;exact hfin
  have h4':d.n4≠0:=oO;simp only[DE.cells,h3]at hfin;have kp:=fI k [0,1,2,3,5,7,9,11,22,23,24,25,36,37,38,39,50,51,52,53,64,65,66,67];have uU:=xY @h3 @h4 @h4' @o3 @o4;refine wl ?_;refine aU (zs ?_);refine dI (dJ (k+2) (by simp-dsimp-implicitDefEqProofs only[go_sem,h3,h4,h4',o3,o4,eq_self,↓reduceIte];rfl) rfl) ?_;simp-dsimp-implicitDefEqProofs only[kX,fE,go_sem,h3,h4,h4',o3,o4,eq_self,↓reduceIte];refine dI (dJ (k+4) (by simp-dsimp-implicitDefEqProofs only[go_sem,h3,h4,h4',o3,o4,eq_self,↓reduceIte];rfl) rfl) ?_;simp-dsimp-implicitDefEqProofs only[kX,fE,go_sem,h3,h4,h4',o3,o4,eq_self,↓reduceIte];refine dI (Mv.row (k+5) (l:=[]) [(),(),(),.rd 1 0 d.f3,.rd 8 d.n4 d.f4,()] (by simp-dsimp-implicitDefEqProofs only[go_sem,h3,h4,h4',o3,o4,aH,Flt.row,eq_self,↓reduceIte];rfl) (.cons (aK _) (.cons (aK _) (.cons (aK _) (.cons (VLe.rd (λ i hi=>absurd hi oO)) (.cons (nQ _ _ _) (.cons (aK _) .nil)))))) rfl) ?_;refine rR ?_;apply zN;refine dI (lM (k+5) (k+4) (k1:=k+7) (fr1:=[(24,.lit (.int .i64 0)),(23,.lit (.int .i64 (d.n0:Int))),(22,.rd 2 d.n0 d.f0),(3,.ptr (k+4) 0 0),(2,.ptr (k+1) 0 0),(1,.ptr k 0 0)]) (H1:=[(k+4,⟨6,true,[[.lit (.slice none 0 0),.lit (.slice none 0 0),.lit (.slice none 0 0),.rd 1 0 d.f3,.rd 8 d.n4 d.f4,.lit (.slice none 0 0)]]⟩),(k+1,⟨6,true,[[.lit (.slice none 0 0),.lit (.slice none 0 0),.lit (.slice none 0 0),.lit (.slice none 0 0),.lit (.slice none 0 0),.lit (.slice none 0 0)]]⟩),(k,⟨6,true,[[.rd 2 d.n0 d.f0,.rd 2 d.n1 d.f1,.rd 2 d.n2 d.f2,.rd 1 0 d.f3,.rd 8 d.n4 d.f4,.rd 5 d.n5 d.f5]]⟩)]) (wV (xY (@h3) (@h4) (@h4') (@o3) (@o4)))) ?_;exact hfin
 rcases jJ d.n4 with h4|h4;.have h3':d.n3≠0:=oO;simp only[DE.cells,h4]at hfin;have kp:=fI k [0,1,2,3,5,7,9,11,22,23,24,25,36,37,38,39,50,51,52,53,64,65,66,67];have uU:=xY @h3 @h3' @h4 @o3 @o4;refine wl ?_;refine aU (zs ?_);refine dI (dJ (k+3) (by simp-dsimp-implicitDefEqProofs only[go_sem,h3,h3',h4,o3,o4,eq_self,↓reduceIte];rfl) rfl) ?_;simp-dsimp-implicitDefEqProofs only[kX,fE,go_sem,h3,h3',h4,o3,o4,eq_self,↓reduceIte];refine dI (dJ (k+4) (by simp-dsimp-implicitDefEqProofs only[go_sem,h3,h3',h4,o3,o4,eq_self,↓reduceIte];rfl) rfl) ?_;simp-dsimp-implicitDefEqProofs only[kX,fE,go_sem,h3,h3',h4,o3,o4,eq_self,↓reduceIte];refine dI (Mv.row (k+5) (l:=[]) [(),(),(),.rd 1 d.n3 d.f3,.rd 8 0 d.f4,()] (by simp-dsimp-implicitDefEqProofs only[go_sem,h3,h3',h4,o3,o4,aH,Flt.row,eq_self,↓reduceIte];rfl) (.cons (aK _) (.cons (aK _) (.cons (aK _) (.cons (nQ _ _ _) (.cons (VLe.rd (λ i hi=>absurd hi oO)) (.cons (aK _) .nil)))))) rfl) ?_;refine rR ?_;apply zN;refine dI (lM (k+5) (k+4) (k1:=k+7) (fr1:=[(24,.lit (.int .i64 0)),(23,.lit (.int .i64 (d.n0:Int))),(22,.rd 2 d.n0 d.f0),(3,.ptr (k+4) 0 0),(2,.ptr (k+1) 0 0),(1,.ptr k 0 0)]) (H1:=[(k+4,⟨6,true,[[.lit (.slice none 0 0),.lit (.slice none 0 0),.lit (.slice none 0 0),.rd 1 d.n3 d.f3,.rd 8 0 d.f4,.lit (.slice none 0 0)]]⟩),(k+1,⟨6,true,[[.lit (.slice none 0 0),.lit (.slice none 0 0),.lit (.slice none 0 0),.lit (.slice none 0 0),.lit (.slice none 0 0),.lit (.slice none 0 0)]]⟩),(k,⟨6,true,[[.rd 2 d.n0 d.f0,.rd 2 d.n1 d.f1,.rd 2 d.n2 d.f2,.rd 1 d.n3 d.f3,.rd 8 0 d.f4,.rd 5 d.n5 d.f5]]⟩)]) (wV (xY (@h3) (@h3') (@h4) (@o3) (@o4)))) ?_;exact hfin
 have h3':d.n3≠0:=oO;have h4':d.n4≠0:=oO;have kp:=fI k [0,1,2,3,5,7,9,11,22,23,24,25,36,37,38,39,50,51,52,53,64,65,66,67];have uU:=qQ @h3 @h4 @h3' @h4' @o3 @o4;refine wl ?_;refine aU (zs ?_);refine dI (dJ (k+3) (by simp-dsimp-implicitDefEqProofs only[go_sem,h3,h4,h3',h4',o3,o4,eq_self,↓reduceIte];rfl) rfl) ?_;simp-dsimp-implicitDefEqProofs only[kX,fE,go_sem,h3,h4,h3',h4',o3,o4,eq_self,↓reduceIte];refine dI (dJ (k+5) (by simp-dsimp-implicitDefEqProofs only[go_sem,h3,h4,h3',h4',o3,o4,eq_self,↓reduceIte];rfl) rfl) ?_;simp-dsimp-implicitDefEqProofs only[kX,fE,go_sem,h3,h4,h3',h4',o3,o4,eq_self,↓reduceIte];refine dI (Mv.row (k+6) (l:=[]) [(),(),(),.rd 1 d.n3 d.f3,.rd 8 d.n4 d.f4,()] (by simp-dsimp-implicitDefEqProofs only[go_sem,h3,h4,h3',h4',o3,o4,aH,Flt.row,eq_self,↓reduceIte];rfl) (.cons (aK _) (.cons (aK _) (.cons (aK _) (.cons (nQ _ _ _) (.cons (nQ _ _ _) (.cons (aK _) .nil)))))) rfl) ?_;refine rR ?_;apply zN;refine dI (lM (k+6) (k+4) (k1:=k+7) (fr1:=[(24,.lit (.int .i64 0)),(23,.lit (.int .i64 (d.n0:Int))),(22,.rd 2 d.n0 d.f0),(3,.ptr (k+4) 0 0),(2,.ptr (k+1) 0 0),(1,.ptr k 0 0)]) (H1:=[(k+4,⟨6,true,[[.lit (.slice none 0 0),.lit (.slice none 0 0),.lit (.slice none 0 0),.rd 1 d.n3 d.f3,.rd 8 d.n4 d.f4,.lit (.slice none 0 0)]]⟩),(k+1,⟨6,true,[[.lit (.slice none 0 0),.lit (.slice none 0 0),.lit (.slice none 0 0),.lit (.slice none 0 0),.lit (.slice none 0 0),.lit (.slice none 0 0)]]⟩),(k,⟨6,true,[d.cells]⟩)]) (wV (qQ (@h3) (@h4) (@h3') (@h4') (@o3) (@o4)))) ?_;exact hfin
theorem aSK(k D id E:Nat)(hD:D<k)(hid:id<k)(hne:D≠id)(hE:E<k)(hDE:D≠E)(hEi:E≠id)(l0:List (Int×Int×Sp))(hl0:l0.length<=10000)(a b:St)(g n m p:Nat)(hm:m=n)(hp:p=n)(hn:n<=1000)(c1 c2 c3 c4 c5:AVal)(e1:∀p,iC p c1=true)(e2:∀p,iC p c2=true)(e3:∀p,iC p c3=true)(e4:∀p,iC p c4=true)(e5:∀p,iC p c5=true)(L:List (Int×Int×Sp))(eL:L=l0++fC (jN a b g) n):
 Tr aA Γ 59 k [.rd 3 m (sf a g),.rd 3 p (sf b g),.fn 60 [.ptr D 0 0,.ptr E 0 0]] (cA id 5 (l0.map pR) [(D,⟨6,false,[[c1,c2,c3,c4,c5,bV id (l0.map pR)]]⟩),(E,⟨1,true,[[g]]⟩)]) (λ k1 r1 H1=>k1=k+1/\r1= .tup []/\H1=cA k 5 (L.map pR) [(D,⟨6,false,[[c1,c2,c3,c4,c5,bV k (L.map pR)]]⟩),(E,⟨1,true,[[g]]⟩)]):=by subst hm hp eL;exact aYX k D hD id hid hne E hE hDE hEi l0 hl0 a b g _ hn c1 c2 c3 c4 c5 e1 e2 e3 e4 e5
theorem a5J{loc:aS}{D E i0 id sz sz':Nat}{l l':List (List AVal)}{B B' C:Blk}(h1:AM.look loc D=none)(h2:AM.look loc id=none)(h3:AM.look loc i0=none)(h4:AM.look loc E=none):DL loc (cA i0 sz l [(D,B),(E,C)]) (cA id sz' l' [(D,B'),(E,C)]):=λ i hi=>by
 by_cases hD:i=D;.subst hD;exact h1
 by_cases hI:i=id;.subst hI;exact h2
 by_cases hJ:i=i0;.subst hJ;exact h3
 by_cases hE:i=E;.subst hE;exact h4
 exfalso;rcases hi with h|h;.cases l<;>simp[cA,dX,AM.look,Ne.symm hD,Ne.symm hJ,Ne.symm hE]at h
 cases l'<;>simp[cA,dX,AM.look,Ne.symm hD,Ne.symm hI,Ne.symm hE]at h
theorem ML(a b:St)(n:Nat):∀g,(fC (λ g=>fC (jN a b g) n) g).length<=g*n:=jH λ g=>by have:=jH (MX a b g) n;omega
theorem aTS(a b:St)(hns:a.ns<=12)(gns:b.ns=a.ns)(hnk:a.nk<=12)(hsp:∀g,g<a.ns->a.nsp g=a.nk)(hsp':∀g,g<a.ns->b.nsp g=a.nk)(k:Nat)(R:List AVal)(n0 n1 n2 n3 n4:Nat)(f0 f1 f2 f3 f4:Nat->List AVal)
 (hR:R=[.rd 2 n0 f0,.rd 2 n1 f1,.rd 2 n2 f2,.rd 1 n3 f3,.rd 8 n4 f4,rows 5 ((fC (λ g=>fC (jN a b g) a.nk) a.ns).map pR)]):
 W aA Γ 139 k (fR (dZ aHO) [1,1,1,1,1,1,1,1,1,1,1,1,1]) (yD aA aHO λ _ r1 _=>VLe r1 (.tup [.agg R,(0:Int)])) (k+11) [(10,.ptr (k+3) 0 0),(5,(0:Int)),(4,.ptr (k+2) 0 0),(3,.ptr (k+1) 0 0),(2,.ptr k 0 0)] [(k+2,⟨6,true,[[(),(),(),(),(),()]]⟩),(k+1,⟨7,true,[b.cells]⟩),(k,⟨7,true,[a.cells]⟩),(k+3,⟨6,false,[[.rd 2 n0 f0,.rd 2 n1 f1,.rd 2 n2 f2,.rd 1 n3 f3,.rd 8 n4 f4,()]]⟩)]:=by
 obtain⟨n5,f5,e5⟩:∃n f,rows 5 ((fC (λ g=>fC (jN a b g) a.nk) a.ns).map pR)= .rd 5 n f:=⟨_,_,rfl⟩;rw[e5]at hR;refine VR rfl [0,1,2,3,4,5,6,7,9,10,11,13,15,16,17,18,19,20,28,30,31,32,33,39,64,65,66,67,76,77,78,79,95,107,109,122,123,124,125] (k+12) [] [(k+3,⟨6,false,[[.rd 2 n0 f0,.rd 2 n1 f1,.rd 2 n2 f2,.rd 1 n3 f3,.rd 8 n4 f4,.rd 5 n5 f5]]⟩),(k+2,⟨6,true,[[(),(),(),(),(),()]]⟩),(k+1,⟨7,true,[b.cells]⟩),(k,⟨7,true,[a.cells]⟩)] ?_ ?_
 .have kp:=fI k [0,1,2,3,4,5,6,7,9,10,11,13,15,16,17,18,19,20,28,30,31,32,33,39,64,65,66,67,76,77,78,79,95,107,109,122,123,124,125];refine wl ?_;refine aU (zs ?_);refine bE (X:=Nat) rfl [0,1,2,3,4,5,6,7,9,10,11,13,15,16,17,18,19,20,28,30,31,32,33,39,64,65,66,67,76,77,78,79,95,107,109,122,123,124,125] (k+12) (λ i=>[(124,i)]) (λ i=>cA (k+11) 5 ((fC (λ g=>fC (jN a b g) a.nk) i).map pR) [(k+2,⟨6,true,[[(),(),(),(),(),()]]⟩),(k+1,⟨7,true,[b.cells]⟩),(k,⟨7,true,[a.cells]⟩),(k+3,⟨6,false,[[.rd 2 n0 f0,.rd 2 n1 f1,.rd 2 n2 f2,.rd 1 n3 f3,.rd 8 n4 f4,bV (k+11) ((fC (λ g=>fC (jN a b g) a.nk) i).map pR)]]⟩)]) (λ i=>i<=a.ns) (λ i=>a.ns-i) 0 ?_ (aJ _) ?_;.rw[lG,aV];refine rR ?_;apply zN;exact fW
  intro g hg;have hfl:=ML a b a.nk g;have hgn:g*a.nk<=12*12:=Nat.mul_le_mul oO hnk;obtain⟨l,el,hl⟩:∃x,x=fC (λ g=>fC (jN a b g) a.nk) g/\x.length<=144:=⟨_,rfl,oO⟩;obtain⟨m,em⟩:∃x,x=fC (λ g=>fC (jN a b g) a.nk) (g+1):=⟨_,rfl⟩;have es:m=l++fC (jN a b g) a.nk:=by rw[em,kL,<-el]
  rw[<-el];refine rR ?_;apply zN;refine wl ?_;refine dD ⟨λ ht=>zN ?_⟩ ⟨λ ht=>zN ?_⟩
  .refine dI (kU (k1:=k+13) (fr1:=[(19,.ptr (k+12) 0 0),(20,.rd 3 (b.nsp g) (sf b g)),(123,.lit (.int .i64 (b.ns:Int))),(122,.rd 1 b.ns (VU b)),(10,.ptr (k+3) 0 0),(5,.lit (.int .i64 0)),(4,.ptr (k+2) 0 0),(3,.ptr (k+1) 0 0),(2,.ptr k 0 0),(124,.lit (.int .i64 (g:Int)))]) (H1:=(k+2,⟨6,true,[[(),(),(),(),(),()]]⟩)::(k+1,⟨7,true,[b.cells]⟩)::(k,⟨7,true,[a.cells]⟩)::cA (k+11) 5 (l.map pR) [(k+3,⟨6,false,[[.rd 2 n0 f0,.rd 2 n1 f1,.rd 2 n2 f2,.rd 1 n3 f3,.rd 8 n4 f4,bV (k+11) (l.map pR)]]⟩),(k+12,⟨1,true,[[g]]⟩)]) wL) ?_;refine cl [.far (.tup []) (k+14) [(k+2,⟨6,true,[[(),(),(),(),(),()]]⟩),(k+1,⟨7,true,[b.cells]⟩),(k,⟨7,true,[a.cells]⟩)] (cA (k+11) 5 (l.map pR) [(k+3,⟨6,false,[[.rd 2 n0 f0,.rd 2 n1 f1,.rd 2 n2 f2,.rd 1 n3 f3,.rd 8 n4 f4,bV (k+11) (l.map pR)]]⟩),(k+12,⟨1,true,[[g]]⟩)]) (cA (k+13) 5 (m.map pR) [(k+3,⟨6,false,[[.rd 2 n0 f0,.rd 2 n1 f1,.rd 2 n2 f2,.rd 1 n3 f3,.rd 8 n4 f4,bV (k+13) (m.map pR)]]⟩),(k+12,⟨1,true,[[g]]⟩)])] ?_;refine DT (zs ?_) (zs ?_) (zs ?_) (zs ?_);.exact λ _=>rfl
   .exact a5J (by simp only[AM.look];repeat(rw[if_neg oO])) (by simp only[AM.look];repeat(rw[if_neg oO])) (by simp only[AM.look];repeat(rw[if_neg oO])) (by simp only[AM.look];repeat(rw[if_neg oO]))
   .exact aSK (k+13) (k+3) (k+11) (k+12) oO oO oO oO oO oO l oO a b g a.nk (a.nsp g) (b.nsp g) (hsp g oO) (hsp' g oO) oO _ _ _ _ _ (λ _=>rfl) (λ _=>rfl) (λ _=>rfl) (λ _=>rfl) (λ _=>rfl) m es
   refine wl ?_;refine aU (zs ?_);refine⟨g+1,oO,oO,?_⟩;rw[<-em];refine rR ?_;apply zN;exact lM (k+13) (k+11) wL
  have hgn:g=a.ns:=oO;subst hgn;rw[el];exact fX (id:=k+11) (s:=5) (D:=k+3) (sz:=6) (l:=((fC (λ g=>fC (jN a b g) a.nk) a.ns).map pR)) (row:=[.rd 2 n0 f0,.rd 2 n1 f1,.rd 2 n2 f2,.rd 1 n3 f3,.rd 8 n4 f4,bV (k+11) ((fC (λ g=>fC (jN a b g) a.nk) a.ns).map pR)]) 5 (.rd 5 n5 f5) [(10,.ptr (k+3) 0 0),(5,(0:Int)),(4,.ptr (k+2) 0 0),(3,.ptr (k+1) 0 0),(2,.ptr k 0 0)] [(k+2,⟨6,true,[[(),(),(),(),(),()]]⟩),(k+1,⟨7,true,[b.cells]⟩),(k,⟨7,true,[a.cells]⟩)] oO sL rfl sL (by rw[e5];exact aK _) sL sL sL
 refine rR ?_;apply zN;have kp:=fI k [0,1,2,3,4,5,6,7,9,10,11,13,15,16,17,18,19,20,28,30,31,32,33,39,64,65,66,67,76,77,78,79,95,107,109,122,123,124,125];refine wl ?_;refine aU (zs ?_);refine cR (zN ?_);rw[hR];exact aK _
theorem rb2(a b:St)(hnk:a.nk<=12)(hns:a.ns<=12)(gns:b.ns=a.ns)(gg:b.ng=a.ng)(gsg:a.ns=a.ng)(hsp:∀g,g<a.ns->a.nsp g=a.nk)(hsp':∀g,g<a.ns->b.nsp g=a.nk)(k:Nat)(Q:AQ)(n0 n1 n2 n5:Nat)(f0 f1 f2 f5:Nat->List AVal)(e2:rows 2 ((fC (fG a.wt b.wt) a.ns).map jM)= .rd 2 n2 f2)(e5:rows 5 ((fC (λ g=>fC (jN a b g) a.nk) a.ns).map pR)= .rd 5 n5 f5)
 (hrest:W aA Γ 240 k (fR (dZ Tryz.f17) [1,1,1,1,1,1,1]) Q (k+8) [(8,.ptr (k+3) 0 0),(5,(0:Int)),(4,.ptr (k+2) 0 0),(3,.ptr (k+1) 0 0),(2,.ptr k 0 0)] [(k+2,⟨6,true,[[(),(),(),(),(),()]]⟩),(k+1,⟨7,true,[b.cells]⟩),(k,⟨7,true,[a.cells]⟩),(k+3,⟨6,false,[[.rd 2 n0 f0,.rd 2 n1 f1,.rd 2 n2 f2,(),(),.rd 5 n5 f5]]⟩)]):
 W aA Γ 240 k (fR (dZ Tryz.f17) [1,1,1,1,1,1]) Q (k+6) [(8,.ptr (k+3) 0 0),(5,(0:Int)),(4,.ptr (k+2) 0 0),(3,.ptr (k+1) 0 0),(2,.ptr k 0 0)] [(k+2,⟨6,true,[[(),(),(),(),(),()]]⟩),(k+1,⟨7,true,[b.cells]⟩),(k,⟨7,true,[a.cells]⟩),(k+3,⟨6,false,[[.rd 2 n0 f0,.rd 2 n1 f1,(),(),(),()]]⟩)]:=by
 have kp:=fI k [0,1,2,3,4,5,6,7,8,9,10,11,12,14,15,16,17,25,36,42,55,78,95,112,131,150,171,187,203,228];refine wl ?_;refine aU (zs ?_);refine bE (X:=Nat) rfl [0,1,2,3,4,5,6,7,8,9,10,11,12,14,15,16,17,25,36,42,55,78,95,112,131,150,171,187,203,228] (k+8) (λ i=>[(10,i)]) (λ i=>cA (k+6) 2 ((fC (fG a.wt b.wt) i).map jM) (cA (k+7) 5 ((fC (λ g=>fC (jN a b g) a.nk) i).map pR) [(k+2,⟨6,true,[[(),(),(),(),(),()]]⟩),(k+1,⟨7,true,[b.cells]⟩),(k,⟨7,true,[a.cells]⟩),(k+3,⟨6,false,[[.rd 2 n0 f0,.rd 2 n1 f1,bV (k+6) ((fC (fG a.wt b.wt) i).map jM),(),(),bV (k+7) ((fC (λ g=>fC (jN a b g) a.nk) i).map pR)]]⟩)])) (λ i=>i<=a.ns) (λ i=>a.ns-i) 0 ?_ (aJ _) ?_;.rw[lG,lG,aV,aV];refine rR ?_;apply zN;exact fW
 intro g hi;have hf0:=jH (qD a.wt b.wt) g;have hf1:=ML a b a.nk g;have hgn:g*a.nk<=12*12:=Nat.mul_le_mul oO hnk;obtain⟨A,eA,hA⟩:∃x,x=((fC (fG a.wt b.wt) g).map jM)/\x.length<=g:=⟨_,rfl,by simp;omega⟩;obtain⟨l0,el0,hl0⟩:∃x,x=fC (λ g=>fC (jN a b g) a.nk) g/\x.length<=144:=⟨_,rfl,oO⟩;obtain⟨A',eA'⟩:∃x,x=((fC (fG a.wt b.wt) (g+1)).map jM):=⟨_,rfl⟩;have sA:A'=A++(fG a.wt b.wt g).map jM:=by rw[eA',kL,aH,<-eA]
 have hA':A'.length<=g+1:=by rw[sA];have:=qD a.wt b.wt g;simp;omega
 rw[<-eA,<-el0];refine rR ?_;apply zN;refine bY rfl ?_;refine bY rfl ?_;(refine gL rfl [0,1,2,3,4,5,6,7,8,9,10,11,12,14,15,16,17,25,36,42,55,78,95,112,131,150,171,187,203,228] rfl rfl (λ K hK=>?_));refine sT ?_;(refine hK _ _ _ _ (λ hx=>?_));clear hx hK;refine sT ?_;clear K;refine gA rfl _ rfl (λ ht=>?_) (λ ht=>?_)
 .simp only[nf]at ht;refine fD rfl ?_;refine rR ?_;apply zN;refine bY rfl ?_;refine eZ rfl ?_;refine VR rfl [0,1,2,3,4,5,6,7,8,9,10,11,12,14,15,16,17,25,36,42,55,78,95,112,131,150,171,187,203,228] (k+10) [] (cA (k+6) 2 A' (cA (k+7) 5 (l0.map pR) [(k+2,⟨6,true,[[(),(),(),(),(),()]]⟩),(k+1,⟨7,true,[b.cells]⟩),(k,⟨7,true,[a.cells]⟩),(k+3,⟨6,false,[[.rd 2 n0 f0,.rd 2 n1 f1,bV (k+6) A',(),(),bV (k+7) (l0.map pR)]]⟩)])) ?_ ?_
  .clear el0;rcases A with _|⟨x0,A⟩
   .refine wl ?_;refine dD ⟨λ ht=>zN ?_⟩ ⟨λ ht=>zN ?_⟩
    .have hd:fG a.wt b.wt g=[((g:Int),b.wt g)]:=by rw[fG,uG,if_pos (by simp;omega)]
     rw[sA,hd,bG,aV,cN];refine rR ?_;apply zN;exact lM (k+9) (k+6) wL
    have hd:fG a.wt b.wt g=[]:=by rw[fG,uG,if_neg (by simp;omega)]
    rw[sA,hd,aV,aR];refine rR ?_;apply zN;exact fW
   have hL:A.length+1<=g:=by simpa using hA
   refine wl ?_;refine dD ⟨λ ht=>zN ?_⟩ ⟨λ ht=>zN ?_⟩
   .have hd:fG a.wt b.wt g=[((g:Int),b.wt g)]:=by rw[fG,uG,if_pos (by simp;omega)]
    rw[sA,hd,bG,aV,dQ];refine rR ?_;apply zN;exact lM (k+9) (k+6) wL
   have hd:fG a.wt b.wt g=[]:=by rw[fG,uG,if_neg (by simp;omega)]
   rw[sA,hd,aV,aR];refine rR ?_;apply zN;exact fW
  refine rR ?_;apply zN;clear eA sA;have hg1:=hsp g oO;have hg2:=hsp' g oO;refine wl ?_;refine aU (zs ?_);refine bE (X:=Nat) rfl [0,1,2,3,4,5,6,7,8,9,10,11,12,14,15,16,17,25,36,42,55,78,95,112,131,150,171,187,203,228] (k+10) (λ c=>[(11,c)]) (λ c=>cA (k+6) 2 A' (cA (k+7) 5 ((l0++fC (jN a b g) c).map pR) [(k+2,⟨6,true,[[(),(),(),(),(),()]]⟩),(k+1,⟨7,true,[b.cells]⟩),(k,⟨7,true,[a.cells]⟩),(k+3,⟨6,false,[[.rd 2 n0 f0,.rd 2 n1 f1,bV (k+6) A',(),(),bV (k+7) ((l0++fC (jN a b g) c).map pR)]]⟩)])) (λ c=>c<=a.nk) (λ c=>a.nk-c) 0 ?_ (aJ _) ?_;.rw[lG,aR];refine rR ?_;apply zN;exact fW
  intro c hc;have hf2:=jH (MX a b g) c;obtain⟨C,eC,hC⟩:∃x,x=((l0++fC (jN a b g) c).map pR)/\x.length<=1000:=⟨_,rfl,by simp;omega⟩;obtain⟨C',eC'⟩:∃x,x=((l0++fC (jN a b g) (c+1)).map pR):=⟨_,rfl⟩;have sC:C'=C++(jN a b g c).map pR:=by rw[eC',kL,<-bL,aH,<-eC]
  rw[<-eC];refine rR ?_;apply zN;refine bY rfl ?_;refine bY rfl ?_;(refine gL rfl [0,1,2,3,4,5,6,7,8,9,10,11,12,14,15,16,17,25,36,42,55,78,95,112,131,150,171,187,203,228] rfl rfl (λ K hK=>?_));refine sT ?_;(refine hK _ _ _ _ (λ hx=>?_));clear hx hK;refine sT ?_;clear K;refine gA rfl _ rfl (λ ht=>?_) (λ ht=>?_)
  .simp only[nf]at ht;refine fD rfl ?_;refine rR ?_;apply zN;refine bY rfl ?_;refine eZ rfl ?_;rcases C with _|⟨x0,C⟩
   .refine wl ?_;refine dD ⟨λ ht=>zN ?_⟩ ⟨λ ht=>zN ?_⟩
    .have hd:jN a b g c=[((g:Int),(c:Int),b.sp g c)]:=by rw[jN,uG,if_pos (by simp[wO]at ht⊢;omega)]
     refine⟨c+1,oO,oO,?_⟩;rw[<-eC'];rw[sC,hd,bG,aV,cN];refine rR ?_;apply zN;exact lM (k+11) (k+7) wL
    have hd:jN a b g c=[]:=by rw[jN,uG,if_neg (by simp[wO]at ht⊢;omega)]
    refine⟨c+1,oO,oO,?_⟩;rw[<-eC'];rw[sC,hd,aV,aR];refine rR ?_;apply zN;exact fW
   have hL:C.length+1<=1000:=by simpa using hC
   refine wl ?_;refine dD ⟨λ ht=>zN ?_⟩ ⟨λ ht=>zN ?_⟩
   .have hd:jN a b g c=[((g:Int),(c:Int),b.sp g c)]:=by rw[jN,uG,if_pos (by simp[wO]at ht⊢;omega)]
    refine⟨c+1,oO,oO,?_⟩;rw[<-eC'];rw[sC,hd,bG,aV,dQ];refine rR ?_;apply zN;exact lM (k+11) (k+7) wL
   have hd:jN a b g c=[]:=by rw[jN,uG,if_neg (by simp[wO]at ht⊢;omega)]
   refine⟨c+1,oO,oO,?_⟩;rw[<-eC'];rw[sC,hd,aV,aR];refine rR ?_;apply zN;exact fW
  simp only[nf]at ht;refine jU rfl ?_;refine rR ?_;apply zN;refine wl ?_;refine aU (zs ?_);refine⟨g+1,oO,oO,?_⟩;have hcn:c=a.nk:=oO;subst hcn;rw[<-eA',kL,<-el0,<-eC];refine rR ?_;apply zN;exact fW
 simp only[nf]at ht;refine jU rfl ?_;refine rR ?_;apply zN;have hin:g=a.ns:=oO;subst hin;clear sA eA' hA';refine dI (fX (id:=k+6) (s:=2) (D:=k+3) (sz:=6) (l:=A) (row:=[.rd 2 n0 f0,.rd 2 n1 f1,bV (k+6) A,.lit (.slice none 0 0),.lit (.slice none 0 0),bV (k+7) (l0.map pR)]) 2 (.rd 2 n2 f2) [(8,.ptr (k+3) 0 0),(5,(0:Int)),(4,.ptr (k+2) 0 0),(3,.ptr (k+1) 0 0),(2,.ptr k 0 0)] (cA (k+7) 5 (l0.map pR) [(k+2,⟨6,true,[[(),(),(),(),(),()]]⟩),(k+1,⟨7,true,[b.cells]⟩),(k,⟨7,true,[a.cells]⟩)]) oO sL rfl sL (by rw[eA,e2];exact aK _) sL sL sL) ?_;refine dI (fX (id:=k+7) (s:=5) (D:=k+3) (sz:=6) (l:=l0.map pR) (row:=[.rd 2 n0 f0,.rd 2 n1 f1,.rd 2 n2 f2,.lit (.slice none 0 0),.lit (.slice none 0 0),bV (k+7) (l0.map pR)]) 5 (.rd 5 n5 f5) [(8,.ptr (k+3) 0 0),(5,(0:Int)),(4,.ptr (k+2) 0 0),(3,.ptr (k+1) 0 0),(2,.ptr k 0 0)] [(k+2,⟨6,true,[[(),(),(),(),(),()]]⟩),(k+1,⟨7,true,[b.cells]⟩),(k,⟨7,true,[a.cells]⟩)] oO sL rfl sL (by rw[el0,e5];exact aK _) sL sL sL) ?_;refine dI (kU (k1:=k+8) (fr1:=[(8,.ptr (k+3) 0 0),(5,.lit (.int .i64 0)),(4,.ptr (k+2) 0 0),(3,.ptr (k+1) 0 0),(2,.ptr k 0 0)]) (H1:=[(k+2,⟨6,true,[[.lit (.slice none 0 0),.lit (.slice none 0 0),.lit (.slice none 0 0),.lit (.slice none 0 0),.lit (.slice none 0 0),.lit (.slice none 0 0)]]⟩),(k+1,⟨7,true,[b.cells]⟩),(k,⟨7,true,[a.cells]⟩),(k+3,⟨6,false,[[.rd 2 n0 f0,.rd 2 n1 f1,.rd 2 n2 f2,.lit (.slice none 0 0),.lit (.slice none 0 0),.rd 5 n5 f5]]⟩)]) wL) ?_;exact hrest
theorem a5V{P:Program}{nt kb k id d1 d2 t1 t2:Nat}{fr:Fr}{H:aS}{Q:AQ}{c:Code}{p:List Nat}{x:Operand}{p1 p2:String}{a1 a2:Array Edge}{ops:Array Oper}
 (hc:fR c p= .region id ops false) (hops:ops.toList=[⟨some d1,.next x false,t1,p1,a1,none⟩,⟨some d2,.extract (.tmp d1) 0,t2,p2,a2,none⟩]) (hd:mM nt ops=true) {rds:List Nat} {outs:Out->Prop}
 (hN:GoodN P Γ ⟨some d1,.next x false,t1,p1,a1,none⟩ (kB Γ fr) (AM.look H) k rds outs)
 (h:∀out,outs out->∃bb vs,out.v= .tup (.lit (.bool bb)::vs)/\(Q .normal k (gK (gK fr (some d1) out.v) (some d2) (.lit (.bool bb))) (lD H out.upd))):W P Γ nt kb (fR c p) Q k fr H:=by
 rw[hc];refine SC hops hd rfl hN λ out ho=>?_;obtain⟨bb,vs,e,hq⟩:=h out ho;refine .inr ⟨rfl,⟨.lit (.bool bb),k,[],[]⟩,uY ?_,λ _=>hq⟩;have e1:kB Γ (gK fr (some d1) out.v) (.tmp d1)=some (.tup (.lit (.bool bb)::vs)):=by show AM.look (gK fr (some d1) out.v) d1=_;rw[tI,if_pos rfl,e]
 rw[a1Q,e1];rfl
theorem a5I{loc:aS}{id sz sz':Nat}{l l':List (List AVal)}(h:AM.look loc id=none):DL loc (cA id sz l []) (cA id sz' l' []):=λ i hi=>by
 by_cases hI:i=id;.subst hI;exact h
 exfalso;rcases hi with h|h;.cases l<;>simp[cA,dX,AM.look,Ne.symm hI]at h
 cases l'<;>simp[cA,dX,AM.look,Ne.symm hI]at h
theorem aUK{id:Nat}{l m:List Int}(h:l.length=m.length):bV id (l.map nR)=bV id (m.map nR):=by cases l<;>cases m<;>simp_all [bV]
theorem aXI{a b:St}(i:Nat):(IW a b i).length<=a.nt:=by have h1:(IW a b i).length<=(oH a a.nt).length:=bFZ _ _;simpa [oH]using h1
attribute [local go_sem] nR aXU
theorem aTT(a b:St)(ha:IdOk a)(hb:IdOk b)(hnt:a.nt<=1000)(hns:a.ns<=12)(gns:b.ns=a.ns)(hnk:a.nk<=12)(hsp:∀g,g<a.ns->a.nsp g=a.nk)(hsp':∀g,g<a.ns->b.nsp g=a.nk)(k:Nat)(R:List AVal)(n0 n1 n2 n4:Nat)(f0 f1 f2 f4:Nat->List AVal)
 (hR:R=[.rd 2 n0 f0,.rd 2 n1 f1,.rd 2 n2 f2,rows 1 ((yI a b).map nR),.rd 8 n4 f4,rows 5 ((fC (λ g=>fC (jN a b g) a.nk) a.ns).map pR)]):
 W aA Γ 139 k (fR (dZ aHO) [0,0,1,1,1,1,1,1,1,1,1,1,1]) (pL (W aA Γ 139 k (fR (dZ aHO) [1,0,1,1,1,1,1,1,1,1,1,1,1]) (pL (W aA Γ 139 k (fR (dZ aHO) [1,1,1,1,1,1,1,1,1,1,1,1]) (yD aA aHO λ _ r1 _=>VLe r1 (.tup [.agg R,(0:Int)]))) (yD aA aHO λ _ r1 _=>VLe r1 (.tup [.agg R,(0:Int)])))) (pL (W aA Γ 139 k (fR (dZ aHO) [1,1,1,1,1,1,1,1,1,1,1,1]) (yD aA aHO λ _ r1 _=>VLe r1 (.tup [.agg R,(0:Int)]))) (yD aA aHO λ _ r1 _=>VLe r1 (.tup [.agg R,(0:Int)])))) (k+9) [(11,.mp (k+7)),(10,.ptr (k+3) 0 0),(5,(0:Int)),(4,.ptr (k+2) 0 0),(3,.ptr (k+1) 0 0),(2,.ptr k 0 0)] [(k+7,⟨3,true,CB (IW a b b.nt) a.nt⟩),(k+2,⟨6,true,[[(),(),(),(),(),()]]⟩),(k+1,⟨7,true,[b.cells]⟩),(k,⟨7,true,[a.cells]⟩),(k+3,⟨6,false,[[.rd 2 n0 f0,.rd 2 n1 f1,.rd 2 n2 f2,(),.rd 8 n4 f4,()]]⟩)]:=by
 obtain⟨l,el⟩:∃x,x=IW a b b.nt:=⟨_,rfl⟩;have hst:(l.map (·.2.2)).Nodup:=by rw[el];exact aCC
 have hold:∀e∈l,e.2.2<a.nt:=by rw[el];exact aXH
 have hlen:l.length<=1000:=by rw[el];have:=aXI (a:=a) (b:=b) b.nt;omega
 have hgo:l.map (·.1)=yI a b:=by rw[el];exact XV
 rw[<-el];have kp:=fI k [0,1,2,3,4,5,6,7,9,10,11,13,15,16,17,18,19,20,28,30,31,32,33,39,64,65,66,67,76,77,78,79,95,107,109,122,123,124,125];refine cl [.raw (some 107) ⟨.it (k+9),k+10,[(k+9,some ⟨3,false,IE (k+7) a.nt [] a.nt⟩)],[k+7]⟩] ?_;refine dD (zs ?_) (zs ?_);.exact KY (l:=l) (clock:=a.nt) rfl aGB rfl (by simp-dsimp-implicitDefEqProofs only[go_sem,aH,Flt.row,eq_self,↓reduceIte];rfl)
 refine eZ rfl ?_;refine bE (X:=List Nat×List Int) rfl [0,1,2,3,4,5,6,7,9,10,11,13,15,16,17,18,19,20,28,30,31,32,33,39,64,65,66,67,76,77,78,79,95,107,109,122,123,124,125] (k+11) (λ x=>[]) (λ x=>cA (k+10) 1 (x.2.map nR) [(k+9,⟨3,false,IE (k+7) a.nt x.1 a.nt⟩),(k+7,⟨3,true,CB l a.nt⟩),(k+2,⟨6,true,[[(),(),(),(),(),()]]⟩),(k+1,⟨7,true,[b.cells]⟩),(k,⟨7,true,[a.cells]⟩),(k+3,⟨6,false,[[.rd 2 n0 f0,.rd 2 n1 f1,.rd 2 n2 f2,bV (k+10) (x.2.map nR),.rd 8 n4 f4,()]]⟩)]) (λ x=>FT l x) (λ x=>(lE l x.1).length) ([],[]) ?_ aCM ?_;.rw[aV];refine rR ?_;apply zN;exact fW
 rintro⟨seen,acc⟩ hF;have hal:=aKQ hF;refine rR ?_;apply zN;refine bY rfl ?_;refine a5V rfl rfl rfl (QI (mid:=k+7) (it:=k+9) (since:=a.nt) (c0:=a.nt) (clock:=a.nt) (q:= .i64) (l:=l) (seen:=seen) rfl rfl (by first|(simp-dsimp-implicitDefEqProofs only[go_sem,aH,Flt.row,eq_self,↓reduceIte];done)|(simp-dsimp-implicitDefEqProofs only[go_sem,aH,Flt.row,eq_self,↓reduceIte];rfl)) (by first|(simp-dsimp-implicitDefEqProofs only[go_sem,aH,Flt.row,eq_self,↓reduceIte];done)|(simp-dsimp-implicitDefEqProofs only[go_sem,aH,Flt.row,eq_self,↓reduceIte];rfl)) hold (aF _)) ?_;rintro out (⟨hnil,rfl⟩|⟨e,he,rfl⟩)
 .refine⟨false,_,rfl,?_⟩;refine rR ?_;apply zN;refine wl ?_;refine aU ⟨λ ht=>zN ?_⟩;have hpg:(yI a b).Perm acc:=by rw[<-hgo];exact aKR hF hnil
  have eA:bV (k+10) (acc.map nR)=bV (k+10) ((yI a b).map nR):=aUK hpg.length_eq.symm;obtain⟨n3,f3,e3⟩:∃n f,rows 1 ((yI a b).map nR)= .rd 1 n f:=⟨_,_,rfl⟩;rw[e3]at hR;refine dI (kU (k1:=k+11) (fr1:=[(10,.ptr (k+3) 0 0),(5,.lit (.int .i64 0)),(4,.ptr (k+2) 0 0),(3,.ptr (k+1) 0 0),(2,.ptr k 0 0)]) (H1:=(k+2,⟨6,true,[[(),(),(),(),(),()]]⟩)::(k+1,⟨7,true,[b.cells]⟩)::(k,⟨7,true,[a.cells]⟩)::(k+3,⟨6,false,[[.rd 2 n0 f0,.rd 2 n1 f1,.rd 2 n2 f2,bV (k+10) (acc.map nR),.rd 8 n4 f4,()]]⟩)::cA (k+10) 1 (acc.map nR) []) wL) ?_;refine cl [.far (.tup []) (k+11) [(k+2,⟨6,true,[[(),(),(),(),(),()]]⟩),(k+1,⟨7,true,[b.cells]⟩),(k,⟨7,true,[a.cells]⟩),(k+3,⟨6,false,[[.rd 2 n0 f0,.rd 2 n1 f1,.rd 2 n2 f2,bV (k+10) (acc.map nR),.rd 8 n4 f4,()]]⟩)] (cA (k+10) 1 (acc.map nR) []) (cA (k+10) 1 ((yI a b).map nR) [])] ?_;refine DT (zs ?_) (zs ?_) (zs ?_) (zs ?_);.exact λ _=>rfl
  .exact a5I (by simp only[AM.look];repeat(rw[if_neg oO]))
  .exact aWH (k+11) (k+10) acc (yI a b) hpg (YF ha.st) oO
  rw[eA];refine dI (fX (id:=k+10) (s:=1) (D:=k+3) (sz:=6) (l:=(yI a b).map nR) (row:=[.rd 2 n0 f0,.rd 2 n1 f1,.rd 2 n2 f2,bV (k+10) ((yI a b).map nR),.rd 8 n4 f4,.lit (.slice none 0 0)]) 3 (.rd 1 n3 f3) [(10,.ptr (k+3) 0 0),(5,(0:Int)),(4,.ptr (k+2) 0 0),(3,.ptr (k+1) 0 0),(2,.ptr k 0 0)] [(k+2,⟨6,true,[[(),(),(),(),(),()]]⟩),(k+1,⟨7,true,[b.cells]⟩),(k,⟨7,true,[a.cells]⟩)] oO sL rfl sL (by rw[e3];exact aK _) sL sL sL) ?_;refine dI (kU (k1:=k+11) (fr1:=[(10,.ptr (k+3) 0 0),(5,.lit (.int .i64 0)),(4,.ptr (k+2) 0 0),(3,.ptr (k+1) 0 0),(2,.ptr k 0 0)]) (H1:=[(k+2,⟨6,true,[[.lit (.slice none 0 0),.lit (.slice none 0 0),.lit (.slice none 0 0),.lit (.slice none 0 0),.lit (.slice none 0 0),.lit (.slice none 0 0)]]⟩),(k+1,⟨7,true,[b.cells]⟩),(k,⟨7,true,[a.cells]⟩),(k+3,⟨6,false,[[.rd 2 n0 f0,.rd 2 n1 f1,.rd 2 n2 f2,.rd 1 n3 f3,.rd 8 n4 f4,.lit (.slice none 0 0)]]⟩)]) wL) ?_;exact aTS a b hns gns hnk hsp hsp' k R n0 n1 n2 n3 n4 f0 f1 f2 f3 f4 hR
 refine⟨true,_,rfl,?_⟩;refine rR ?_;apply zN;refine wl ?_;refine aU ⟨λ ht=>zN ?_⟩;obtain⟨q,eq⟩:∃q,q=e.1:=⟨_,rfl⟩;obtain⟨v,ev⟩:∃v,v=e.2.1:=⟨_,rfl⟩;obtain⟨T,eT⟩:∃T,T=acc.map nR:=⟨_,rfl⟩;have hTl:T.length<=1000:=by rw[eT,bP];omega
 rw[<-eT];refine cl [.raw (some 110) ⟨.tup [q,.lit v],k+11,[],[k+9,k+7]⟩] ?_;refine dD (zs ?_) (zs ?_);.rw[eq,ev];exact MV (l:=l) (seen:=seen) (e:=e) (since:=a.nt) (clock:=a.nt) rfl rfl (by first|(simp-dsimp-implicitDefEqProofs only[go_sem,aH,Flt.row,eq_self,↓reduceIte];done)|(simp-dsimp-implicitDefEqProofs only[go_sem,aH,Flt.row,eq_self,↓reduceIte];rfl)) (by first|(simp-dsimp-implicitDefEqProofs only[go_sem,aH,Flt.row,eq_self,↓reduceIte];done)|(simp-dsimp-implicitDefEqProofs only[go_sem,aH,Flt.row,eq_self,↓reduceIte];rfl)) (jY.1 he).1 hst
 refine wl ?_;refine aU (zs ?_);refine⟨(seen++[e.2.2],acc++[e.1]),aCN hst hF he,aTB hst he,?_⟩;rw[aH,<-eT,bG,aV,<-eq];refine rR ?_;apply zN;exact lM (k+12) (k+10) wL
theorem GA(x y:Tk):aAO x y= !(x.id==y.id&&(x.group==y.group&&(x.weight==y.weight&&(x.cpu==y.cpu&&(x.mask==y.mask&&(x.ready==y.ready&&(x.v==y.v&&x.r==y.r))))))):=by simp only[aAO,decide_not,Bool.decide_and];rfl
theorem LM{a b:St}{i j:Nat}(hf:xI a (b.tsk i).id=some j)(h:aAO (a.tsk j) (b.tsk i)=true):iG a b i=[b.tsk i]:=by rw[iG,aJW,hf];simp only[h];rfl
theorem LN{a b:St}{i j:Nat}(hf:xI a (b.tsk i).id=some j)(h:aAO (a.tsk j) (b.tsk i)=false):iG a b i=[]:=by rw[iG,aJW,hf];simp only[h];rfl
theorem aXG{o:Oper}{ev:Operand->Option AVal}{get:Nat->Option Blk}{k id:Nat}{a b:St}{i:Nat}{v:AVal}(hf:xI a (b.tsk i).id=none)(h:AM.Good aA Γ o ev get k ⟨.tup [v,.lit (.bool (xI a (b.tsk i).id).isSome)],k,[],[id]⟩):AM.Good aA Γ o ev get k ⟨.tup [v,false],k,[],[id]⟩:=by rw[hf]at h;exact h
theorem aPX{o:Oper}{ev:Operand->Option AVal}{get:Nat->Option Blk}{k id:Nat}{a b:St}{i j:Nat}{v:AVal}(hf:xI a (b.tsk i).id=some j)(h:AM.Good aA Γ o ev get k ⟨.tup [v,.lit (.bool (xI a (b.tsk i).id).isSome)],k,[],[id]⟩):AM.Good aA Γ o ev get k ⟨.tup [v,true],k,[],[id]⟩:=by rw[hf]at h;exact h
attribute [local go_sem] tR
theorem aTU(a b:St)(ha:IdOk a)(hb:IdOk b)(hnt:a.nt<=1000)(hnt':b.nt<=1000)(hns:a.ns<=12)(gns:b.ns=a.ns)(hnk:a.nk<=12)(hsp:∀g,g<a.ns->a.nsp g=a.nk)(hsp':∀g,g<a.ns->b.nsp g=a.nk)(k:Nat)(R:List AVal)(n0 n1 n2:Nat)(f0 f1 f2:Nat->List AVal)
 (hR:R=[.rd 2 n0 f0,.rd 2 n1 f1,.rd 2 n2 f2,rows 1 ((yI a b).map nR),rows 8 ((fC (iG a b) b.nt).map tR),rows 5 ((fC (λ g=>fC (jN a b g) a.nk) a.ns).map pR)]):
 W aA Γ 139 k (fR (dZ aHO) [1,1,1,1,1,1,1,1]) (yD aA aHO λ _ r1 _=>VLe r1 (.tup [.agg R,(0:Int)])) (k+7) [(10,.ptr (k+3) 0 0),(5,(0:Int)),(4,.ptr (k+2) 0 0),(3,.ptr (k+1) 0 0),(2,.ptr k 0 0)] [(k+2,⟨6,true,[[(),(),(),(),(),()]]⟩),(k+1,⟨7,true,[b.cells]⟩),(k,⟨7,true,[a.cells]⟩),(k+3,⟨6,false,[[.rd 2 n0 f0,.rd 2 n1 f1,.rd 2 n2 f2,(),(),()]]⟩)]:=by
 have kp:=fI k [0,1,2,3,4,5,6,7,9,10,11,13,15,16,17,18,19,20,28,30,31,32,33,39,64,65,66,67,76,77,78,79,95,107,109,122,123,124,125];refine wl ?_;refine aU (zs ?_);refine cl [.raw (some 62) ⟨.mp (k+7),k+8,[(k+7,some ⟨3,true,CB (oH a 0) 0⟩)],[]⟩] ?_;refine dD (zs ?_) (zs ?_);.exact LV .i64 rfl
 refine wl ?_;refine aU (zs ?_);refine bE (X:=Nat) rfl [0,1,2,3,4,5,6,7,9,10,11,13,15,16,17,18,19,20,28,30,31,32,33,39,64,65,66,67,76,77,78,79,95,107,109,122,123,124,125] (k+8) (λ i=>[(66,i)]) (λ i=>[(k+7,⟨3,true,CB (oH a i) i⟩),(k+2,⟨6,true,[[(),(),(),(),(),()]]⟩),(k+1,⟨7,true,[b.cells]⟩),(k,⟨7,true,[a.cells]⟩),(k+3,⟨6,false,[[.rd 2 n0 f0,.rd 2 n1 f1,.rd 2 n2 f2,(),(),()]]⟩)]) (λ i=>i<=a.nt) (λ i=>a.nt-i) 0 ?_ (aJ _) ?_;.refine rR ?_;apply zN;exact fW
 intro i hi;refine rR ?_;apply zN;refine wl ?_;refine dD ⟨λ ht=>zN ?_⟩ ⟨λ ht=>zN ?_⟩
 .refine cl [.raw none ⟨.junk,k+9,[(k+7,some ⟨3,true,CB (oH a (i+1)) (i+1)⟩)],[k+7]⟩] ?_;refine dD (zs ?_) (zs ?_);.exact a3B ha oO rfl rfl rfl rfl sL
  refine wl ?_;refine aU (zs ?_);refine⟨i+1,oO,oO,?_⟩;exact fW
 have hin:i=a.nt:=oO;subst hin;rw[<-aQE (b:=b)];refine bE (X:=Nat) rfl [0,1,2,3,4,5,6,7,9,10,11,13,15,16,17,18,19,20,28,30,31,32,33,39,64,65,66,67,76,77,78,79,95,107,109,122,123,124,125] (k+9) (λ i=>[(78,i)]) (λ i=>cA (k+8) 8 ((fC (iG a b) i).map tR) [(k+7,⟨3,true,CB (IW a b i) a.nt⟩),(k+2,⟨6,true,[[(),(),(),(),(),()]]⟩),(k+1,⟨7,true,[b.cells]⟩),(k,⟨7,true,[a.cells]⟩),(k+3,⟨6,false,[[.rd 2 n0 f0,.rd 2 n1 f1,.rd 2 n2 f2,(),bV (k+8) ((fC (iG a b) i).map tR),()]]⟩)]) (λ i=>i<=b.nt) (λ i=>b.nt-i) 0 ?_ (aJ _) ?_;.rw[lG,aV];refine rR ?_;apply zN;exact fW
 intro i hi;have hfl:=jH (GN a b) i;obtain⟨l,el,hl⟩:∃x,x=((fC (iG a b) i).map tR)/\x.length<=i:=⟨_,rfl,by simp;omega⟩;have es:((fC (iG a b) (i+1)).map tR)=l++(iG a b i).map tR:=by rw[kL,aH,<-el]
 rw[<-el];refine rR ?_;apply zN;refine wl ?_;refine dD ⟨λ ht=>zN ?_⟩ ⟨λ ht=>zN ?_⟩
 .obtain⟨T,eT⟩:∃T,T=aIF a (b.tsk i).id:=⟨_,rfl⟩
  cases hf:xI a (b.tsk i).id with
  |none=>
   have hn:iG a b i=[b.tsk i]:=by rw[iG,aJW,hf];rfl
   refine cl [.raw (some 86) ⟨.tup [.agg (tR T),false],k+10,[],[k+7]⟩] ?_;refine dD (zs ?_) (zs ?_);.rw[eT];refine aXG hf ?_;exact aGF (c:=a.nt) ha hb oO rfl rfl rfl sL
   refine wl ?_;refine aU ⟨λ ht=>zN ?_⟩;refine cl [.raw none ⟨.lit (.tuple #[]),k+13,[(k+7,some ⟨3,true,CB (IW a b (i+1)) a.nt⟩)],[k+7]⟩] ?_;refine dD (zs ?_) (zs ?_);.exact aDL (c:=a.nt) ha hb oO rfl rfl rfl sL
   refine wl ?_;refine aU (zs ?_);refine⟨i+1,oO,oO,?_⟩;rw[es,hn,bG,aV];refine rR ?_;apply zN;exact lM (k+12) (k+8) wL
  |some j=>
   obtain⟨hj,hid⟩:=BP hf;have eT2:T=a.tsk j:=by rw[eT,aIF,hf]
   refine cl [.raw (some 86) ⟨.tup [.agg (tR T),true],k+10,[],[k+7]⟩] ?_;refine dD (zs ?_) (zs ?_);.rw[eT];refine aPX hf ?_;exact aGF (c:=a.nt) ha hb oO rfl rfl rfl sL
   refine wl ?_;refine dD ⟨λ ht=>zN ?_⟩ ⟨λ ht=>zN ?_⟩
   .have hn:iG a b i=[b.tsk i]:=LM hf (by rw[GA,<-eT2,ht];rfl);refine cl [.raw none ⟨.lit (.tuple #[]),k+13,[(k+7,some ⟨3,true,CB (IW a b (i+1)) a.nt⟩)],[k+7]⟩] ?_;refine dD (zs ?_) (zs ?_);.exact aDL (c:=a.nt) ha hb oO rfl rfl rfl sL
    refine wl ?_;refine aU (zs ?_);refine⟨i+1,oO,oO,?_⟩;rw[es,hn,bG,aV];refine rR ?_;apply zN;exact lM (k+12) (k+8) wL
   have hn:iG a b i=[]:=LN hf (by rw[GA,<-eT2,ht];rfl);refine cl [.raw none ⟨.lit (.tuple #[]),k+11,[(k+7,some ⟨3,true,CB (IW a b (i+1)) a.nt⟩)],[k+7]⟩] ?_;refine dD (zs ?_) (zs ?_);.exact aDL (c:=a.nt) ha hb oO rfl rfl rfl sL
   refine wl ?_;refine aU (zs ?_);refine⟨i+1,oO,oO,?_⟩;rw[es,hn,aV,aR];refine rR ?_;apply zN;exact fW
 have hin:i=b.nt:=oO;subst hin;rw[el];obtain⟨n4,f4,e4⟩:∃n f,rows 8 ((fC (iG a b) b.nt).map tR)= .rd 8 n f:=⟨_,_,rfl⟩;rw[e4]at hR;refine dI (fX (id:=k+8) (s:=8) (D:=k+3) (sz:=6) (l:=((fC (iG a b) b.nt).map tR)) (row:=[.rd 2 n0 f0,.rd 2 n1 f1,.rd 2 n2 f2,.lit (.slice none 0 0),bV (k+8) ((fC (iG a b) b.nt).map tR),.lit (.slice none 0 0)]) 4 (.rd 8 n4 f4) [(11,.mp (k+7)),(10,.ptr (k+3) 0 0),(5,(0:Int)),(4,.ptr (k+2) 0 0),(3,.ptr (k+1) 0 0),(2,.ptr k 0 0)] [(k+7,⟨3,true,CB (IW a b b.nt) a.nt⟩),(k+2,⟨6,true,[[(),(),(),(),(),()]]⟩),(k+1,⟨7,true,[b.cells]⟩),(k,⟨7,true,[a.cells]⟩)] oO sL rfl sL (by rw[e4];exact aK _) sL sL sL) ?_;refine dI (kU (k1:=k+9) (fr1:=[(11,.mp (k+7)),(10,.ptr (k+3) 0 0),(5,.lit (.int .i64 0)),(4,.ptr (k+2) 0 0),(3,.ptr (k+1) 0 0),(2,.ptr k 0 0)]) (H1:=[(k+7,⟨3,true,CB (IW a b b.nt) a.nt⟩),(k+2,⟨6,true,[[.lit (.slice none 0 0),.lit (.slice none 0 0),.lit (.slice none 0 0),.lit (.slice none 0 0),.lit (.slice none 0 0),.lit (.slice none 0 0)]]⟩),(k+1,⟨7,true,[b.cells]⟩),(k,⟨7,true,[a.cells]⟩),(k+3,⟨6,false,[[.rd 2 n0 f0,.rd 2 n1 f1,.rd 2 n2 f2,.lit (.slice none 0 0),.rd 8 n4 f4,.lit (.slice none 0 0)]]⟩)]) wL) ?_;exact aTT a b ha hb hnt hns gns hnk hsp hsp' k R n0 n1 n2 n4 f0 f1 f2 f4 hR
attribute [local go_sem] tR nR
theorem BM(a b:St)(i:Nat):qZ a b i=uG (!(IG b.tsk b.nt (a.tsk i).id).isSome) (a.tsk i).id:=by rw[aGT];rfl
theorem RB(a b:St)(i:Nat):(qZ a b i).length<=1:=EN _ _
theorem rb3(a b:St)(hnt:a.nt<=1000)(hnt':b.nt<=1000)(k:Nat)(Q:AQ)(n0 n1 n2 n3 n5:Nat)(f0 f1 f2 f3 f5:Nat->List AVal)(e3:rows 1 ((fC (qZ a b) a.nt).map nR)= .rd 1 n3 f3)
 (hrest:W aA Γ 240 k (fR (dZ Tryz.f17) [1,1,1,1,1,1,1,1]) Q (k+9) [(8,.ptr (k+3) 0 0),(5,(0:Int)),(4,.ptr (k+2) 0 0),(3,.ptr (k+1) 0 0),(2,.ptr k 0 0)] [(k+2,⟨6,true,[[(),(),(),(),(),()]]⟩),(k+1,⟨7,true,[b.cells]⟩),(k,⟨7,true,[a.cells]⟩),(k+3,⟨6,false,[[.rd 2 n0 f0,.rd 2 n1 f1,.rd 2 n2 f2,.rd 1 n3 f3,(),.rd 5 n5 f5]]⟩)]):
 W aA Γ 240 k (fR (dZ Tryz.f17) [1,1,1,1,1,1,1]) Q (k+8) [(8,.ptr (k+3) 0 0),(5,(0:Int)),(4,.ptr (k+2) 0 0),(3,.ptr (k+1) 0 0),(2,.ptr k 0 0)] [(k+2,⟨6,true,[[(),(),(),(),(),()]]⟩),(k+1,⟨7,true,[b.cells]⟩),(k,⟨7,true,[a.cells]⟩),(k+3,⟨6,false,[[.rd 2 n0 f0,.rd 2 n1 f1,.rd 2 n2 f2,(),(),.rd 5 n5 f5]]⟩)]:=by
 have kp:=fI k [0,1,2,3,4,5,6,7,8,9,10,11,12,14,15,16,17,25,36,42,55,78,95,112,131,150,171,187,203,228];refine wl ?_;refine aU (zs ?_);refine bE (X:=Nat) rfl [0,1,2,3,4,5,6,7,8,9,10,11,12,14,15,16,17,25,36,42,55,78,95,112,131,150,171,187,203,228] (k+9) (λ i=>[(12,i)]) (λ i=>cA (k+8) 1 ((fC (qZ a b) i).map nR) [(k+2,⟨6,true,[[(),(),(),(),(),()]]⟩),(k+1,⟨7,true,[b.cells]⟩),(k,⟨7,true,[a.cells]⟩),(k+3,⟨6,false,[[.rd 2 n0 f0,.rd 2 n1 f1,.rd 2 n2 f2,bV (k+8) ((fC (qZ a b) i).map nR),(),.rd 5 n5 f5]]⟩)]) (λ i=>i<=a.nt) (λ i=>a.nt-i) 0 ?_ (aJ _) ?_;.rw[lG,aV];refine rR ?_;apply zN;exact fW
 intro i hi;have hf0:=jH (RB a b) i;obtain⟨A,eA,hA⟩:∃x,x=((fC (qZ a b) i).map nR)/\x.length<=i:=⟨_,rfl,by simp;omega⟩;obtain⟨A',eA'⟩:∃x,x=((fC (qZ a b) (i+1)).map nR):=⟨_,rfl⟩;have sA:A'=A++(qZ a b i).map nR:=by rw[eA',kL,aH,<-eA]
 rw[<-eA];refine rR ?_;apply zN;refine bY rfl ?_;refine bY rfl ?_;(refine gL rfl [0,1,2,3,4,5,6,7,8,9,10,11,12,14,15,16,17,25,36,42,55,78,95,112,131,150,171,187,203,228] rfl rfl (λ K hK=>?_));refine sT ?_;(refine hK _ _ _ _ (λ hx=>?_));clear hx hK;refine sT ?_;clear K;refine gA rfl _ rfl (λ ht=>?_) (λ ht=>?_)
 .simp only[nf]at ht;refine fD rfl ?_;refine rR ?_;apply zN;refine bY rfl ?_;refine eZ rfl ?_;obtain⟨T,eT⟩:∃T,T=GY b.tsk b.nt (a.tsk i).id:=⟨_,rfl⟩;obtain⟨z,ez⟩:∃z,z=(IG b.tsk b.nt (a.tsk i).id).isSome:=⟨_,rfl⟩;refine wl ?_;refine aU (zs ?_);refine dl [.ret (.tup [.agg (tR T),z])] ?_;refine dD (zs ?_) (zs ?_);.rw[eT,ez];exact AJ b.nt oO b.tsk (a.tsk i).id
  rcases A with _|⟨x0,A⟩
  .refine wl ?_;refine dD ⟨λ ht=>zN ?_⟩ ⟨λ ht=>zN ?_⟩
   .have hd:qZ a b i=[(a.tsk i).id]:=by rw[BM,<-ez];simp_all [uG]
    refine⟨i+1,oO,oO,?_⟩;rw[<-eA'];rw[sA,hd,bG,aV,cN];refine rR ?_;apply zN;exact lM (k+11) (k+8) wL
   have hd:qZ a b i=[]:=by rw[BM,<-ez];simp_all [uG]
   refine⟨i+1,oO,oO,?_⟩;rw[<-eA'];rw[sA,hd,aV,aR];refine rR ?_;apply zN;exact fW
  have hL:A.length+1<=i:=by simpa using hA
  refine wl ?_;refine dD ⟨λ ht=>zN ?_⟩ ⟨λ ht=>zN ?_⟩
  .have hd:qZ a b i=[(a.tsk i).id]:=by rw[BM,<-ez];simp_all [uG]
   refine⟨i+1,oO,oO,?_⟩;rw[<-eA'];rw[sA,hd,bG,aV,dQ];refine rR ?_;apply zN;exact lM (k+11) (k+8) wL
  have hd:qZ a b i=[]:=by rw[BM,<-ez];simp_all [uG]
  refine⟨i+1,oO,oO,?_⟩;rw[<-eA'];rw[sA,hd,aV,aR];refine rR ?_;apply zN;exact fW
 simp only[nf]at ht;refine jU rfl ?_;refine rR ?_;apply zN;have hin:i=a.nt:=oO;subst hin;clear sA eA';refine dI (fX (id:=k+8) (s:=1) (D:=k+3) (sz:=6) (l:=A) (row:=[.rd 2 n0 f0,.rd 2 n1 f1,.rd 2 n2 f2,bV (k+8) A,.lit (.slice none 0 0),.rd 5 n5 f5]) 3 (.rd 1 n3 f3) [(8,.ptr (k+3) 0 0),(5,(0:Int)),(4,.ptr (k+2) 0 0),(3,.ptr (k+1) 0 0),(2,.ptr k 0 0)] [(k+2,⟨6,true,[[(),(),(),(),(),()]]⟩),(k+1,⟨7,true,[b.cells]⟩),(k,⟨7,true,[a.cells]⟩)] oO sL rfl sL (by rw[eA,e3];exact aK _) sL sL sL) ?_;refine dI (kU (k1:=k+9) (fr1:=[(8,.ptr (k+3) 0 0),(5,.lit (.int .i64 0)),(4,.ptr (k+2) 0 0),(3,.ptr (k+1) 0 0),(2,.ptr k 0 0)]) (H1:=[(k+2,⟨6,true,[[.lit (.slice none 0 0),.lit (.slice none 0 0),.lit (.slice none 0 0),.lit (.slice none 0 0),.lit (.slice none 0 0),.lit (.slice none 0 0)]]⟩),(k+1,⟨7,true,[b.cells]⟩),(k,⟨7,true,[a.cells]⟩),(k+3,⟨6,false,[[.rd 2 n0 f0,.rd 2 n1 f1,.rd 2 n2 f2,.rd 1 n3 f3,.lit (.slice none 0 0),.rd 5 n5 f5]]⟩)]) wL) ?_;exact hrest
theorem aPL{a b:St}{i:Nat}(hf:xI a (b.tsk i).id=none):iG a b i=[b.tsk i]:=by rw[iG,aJW,hf];rfl
theorem rb4(a b:St)(hnt:a.nt<=1000)(hnt':b.nt<=1000)(k:Nat)(R:List AVal)(n0 n1 n2 n3 n5:Nat)(f0 f1 f2 f3 f5:Nat->List AVal)
 (hR:R=[.rd 2 n0 f0,.rd 2 n1 f1,.rd 2 n2 f2,.rd 1 n3 f3,rows 8 ((fC (iG a b) b.nt).map tR),.rd 5 n5 f5]):
 W aA Γ 240 k (fR (dZ Tryz.f17) [1,1,1,1,1,1,1,1]) (yD aA Tryz.f17 λ _ r1 _=>VLe r1 (.tup [.agg R,(0:Int)])) (k+9) [(8,.ptr (k+3) 0 0),(5,(0:Int)),(4,.ptr (k+2) 0 0),(3,.ptr (k+1) 0 0),(2,.ptr k 0 0)] [(k+2,⟨6,true,[[(),(),(),(),(),()]]⟩),(k+1,⟨7,true,[b.cells]⟩),(k,⟨7,true,[a.cells]⟩),(k+3,⟨6,false,[[.rd 2 n0 f0,.rd 2 n1 f1,.rd 2 n2 f2,.rd 1 n3 f3,(),.rd 5 n5 f5]]⟩)]:=by
 obtain⟨n4,f4,e4⟩:∃n f,rows 8 ((fC (iG a b) b.nt).map tR)= .rd 8 n f:=⟨_,_,rfl⟩;rw[e4]at hR;have kp:=fI k [0,1,2,3,4,5,6,7,8,9,10,11,12,14,15,16,17,25,36,42,55,78,95,112,131,150,171,187,203,228];refine wl ?_;refine aU (zs ?_);refine bE (X:=Nat) rfl [0,1,2,3,4,5,6,7,8,9,10,11,12,14,15,16,17,25,36,42,55,78,95,112,131,150,171,187,203,228] (k+10) (λ i=>[(15,i)]) (λ i=>cA (k+9) 8 ((fC (iG a b) i).map tR) [(k+2,⟨6,true,[[(),(),(),(),(),()]]⟩),(k+1,⟨7,true,[b.cells]⟩),(k,⟨7,true,[a.cells]⟩),(k+3,⟨6,false,[[.rd 2 n0 f0,.rd 2 n1 f1,.rd 2 n2 f2,.rd 1 n3 f3,bV (k+9) ((fC (iG a b) i).map tR),.rd 5 n5 f5]]⟩)]) (λ i=>i<=b.nt) (λ i=>b.nt-i) 0 ?_ (aJ _) ?_;.rw[lG,aV];refine rR ?_;apply zN;exact fW
 intro i hi;have hf0:=jH (GN a b) i;obtain⟨A,eA,hA⟩:∃x,x=((fC (iG a b) i).map tR)/\x.length<=i:=⟨_,rfl,by simp;omega⟩;obtain⟨A',eA'⟩:∃x,x=((fC (iG a b) (i+1)).map tR):=⟨_,rfl⟩;have sA:A'=A++(iG a b i).map tR:=by rw[eA',kL,aH,<-eA]
 rw[<-eA];refine rR ?_;apply zN;refine bY rfl ?_;refine bY rfl ?_;(refine gL rfl [0,1,2,3,4,5,6,7,8,9,10,11,12,14,15,16,17,25,36,42,55,78,95,112,131,150,171,187,203,228] rfl rfl (λ K hK=>?_));refine sT ?_;(refine hK _ _ _ _ (λ hx=>?_));clear hx hK;refine sT ?_;clear K;refine gA rfl _ rfl (λ ht=>?_) (λ ht=>?_)
 .simp only[nf]at ht;refine fD rfl ?_;refine rR ?_;apply zN;refine bY rfl ?_;refine eZ rfl ?_;obtain⟨T,eT⟩:∃T,T=GY a.tsk a.nt (b.tsk i).id:=⟨_,rfl⟩;refine wl ?_;refine aU (zs ?_)
  cases hf:xI a (b.tsk i).id with
  |none=>
   refine dl [.ret (.tup [.agg (tR T),false])] ?_;refine dD (zs ?_) (zs ?_);.have h:=AJ (Γ:=Γ) a.nt oO a.tsk (b.tsk i).id;have hf':IG a.tsk a.nt (b.tsk i).id=none:=hf;rw[hf']at h;rw[eT];exact h
   have hd:iG a b i=[b.tsk i]:=aPL hf;rcases A with _|⟨x0,A⟩;.refine wl ?_;refine aU ⟨λ ht=>zN ?_⟩;refine⟨i+1,oO,oO,?_⟩;rw[<-eA',sA,hd,bG,aV,cN];refine rR ?_;apply zN;exact lM (k+12) (k+9) wL
   have hL:A.length+1<=i:=by simpa using hA
   refine wl ?_;refine aU ⟨λ ht=>zN ?_⟩;refine⟨i+1,oO,oO,?_⟩;rw[<-eA',sA,hd,bG,aV,dQ];refine rR ?_;apply zN;exact lM (k+12) (k+9) wL
  |some j=>
   have eT2:T=a.tsk j:=by have hf':IG a.tsk a.nt (b.tsk i).id=some j:=hf;rw[eT,GY,hf']
   refine dl [.ret (.tup [.agg (tR T),true])] ?_;refine dD (zs ?_) (zs ?_);.have h:=AJ (Γ:=Γ) a.nt oO a.tsk (b.tsk i).id;have hf':IG a.tsk a.nt (b.tsk i).id=some j:=hf;rw[hf']at h;rw[eT];exact h
   rcases A with _|⟨x0,A⟩
   .refine wl ?_;refine dD ⟨λ ht=>zN ?_⟩ ⟨λ ht=>zN ?_⟩;.have hd:iG a b i=[b.tsk i]:=LM hf (by rw[GA,<-eT2,ht];rfl);refine⟨i+1,oO,oO,?_⟩;rw[<-eA'];rw[sA,hd,bG,aV,cN];refine rR ?_;apply zN;exact lM (k+12) (k+9) wL
    have hd:iG a b i=[]:=LN hf (by rw[GA,<-eT2,ht];rfl);refine⟨i+1,oO,oO,?_⟩;rw[<-eA'];rw[sA,hd,aV,aR];refine rR ?_;apply zN;exact fW
   have hL:A.length+1<=i:=by simpa using hA
   refine wl ?_;refine dD ⟨λ ht=>zN ?_⟩ ⟨λ ht=>zN ?_⟩;.have hd:iG a b i=[b.tsk i]:=LM hf (by rw[GA,<-eT2,ht];rfl);refine⟨i+1,oO,oO,?_⟩;rw[<-eA'];rw[sA,hd,bG,aV,dQ];refine rR ?_;apply zN;exact lM (k+12) (k+9) wL
   have hd:iG a b i=[]:=LN hf (by rw[GA,<-eT2,ht];rfl);refine⟨i+1,oO,oO,?_⟩;rw[<-eA'];rw[sA,hd,aV,aR];refine rR ?_;apply zN;exact fW
 simp only[nf]at ht;refine jU rfl ?_;refine rR ?_;apply zN;have hin:i=b.nt:=oO;subst hin;clear sA eA';refine dI (fX (id:=k+9) (s:=8) (D:=k+3) (sz:=6) (l:=A) (row:=[.rd 2 n0 f0,.rd 2 n1 f1,.rd 2 n2 f2,.rd 1 n3 f3,bV (k+9) A,.rd 5 n5 f5]) 4 (.rd 8 n4 f4) [(8,.ptr (k+3) 0 0),(5,(0:Int)),(4,.ptr (k+2) 0 0),(3,.ptr (k+1) 0 0),(2,.ptr k 0 0)] [(k+2,⟨6,true,[[(),(),(),(),(),()]]⟩),(k+1,⟨7,true,[b.cells]⟩),(k,⟨7,true,[a.cells]⟩)] oO sL rfl sL (by rw[eA,e4];exact aK _) sL sL sL) ?_;refine rR ?_;apply zN;refine wl ?_;refine aU (zs ?_);refine cR (zN ?_);rw[hR];exact aK _
theorem aJS{a b:St}(hn:¬pI a b):xZ a b a.ng=false↔(0<(kE a b).length/\((kE a b).getD 0 zF).r=17):=by
 rw[kE,if_neg hn];constructor;.intro h;rw[if_pos h];exact⟨sS,rfl⟩
 rintro⟨h1,h2⟩;by_cases h:xZ a b a.ng=false;.exact h
 rw[if_neg h]at h1 h2;have hm:(oM a b).getD 0 zF∈oM a b:=by rw[bD,aE h1];exact bKH h1
 rcases LO a b _ hm with e|e<;>omega
theorem aZC{a b:St}(h:xZ a b a.ng=true):fC (vE a b) a.ng=fC (fG a.wt b.wt) a.ng:=mE λ i hi=>by simp only[xZ,dTt]at h;have e:=h.2.2.2 i hi;rw[vE,fG];congr 1;rw[aY];simp only[dTt,bne_iff_ne,ne_eq];omega
theorem a5G(a b:St)(hq:PreOk a)(hq':PreOk b)(hk:Kinds a)(hk':Kinds b):AM.Pure aA Γ 49 [.agg a.cells,.agg b.cells] (.tup [.rd 3 (kE a b).length (λ j=>Flt.row ((kE a b).getD j zF)),(mU a b)]):=
 nS (aNM a b hq hq' hk hk') (nZ (.cons (aOR _) (.cons (aK _) .nil)))
theorem aOW(a b:St)(hq:PreOk a)(hq':PreOk b)(hk:Kinds a)(hk':Kinds b):AM.Pure aA Γ 17 [.agg a.cells,.agg b.cells] (.tup [.agg (OF a b).cells,(vF a b)]):=by
 obtain⟨⟨hng,hnk,hnu,hnt,hns,hnsp⟩,h12,hp12⟩:=id hq;obtain⟨⟨hng',hnk',hnu',hnt',hns',hnsp'⟩,h12',hp12'⟩:=id hq';refine aZ Tryz.func17 rfl 240 rfl bB rfl λ k=>?_;obtain⟨R,eR⟩:∃R,R=(OF a b).cells:=⟨_,rfl⟩;obtain⟨E,eE⟩:∃E,E=vF a b:=⟨_,rfl⟩;rw[<-eR,<-eE];obtain⟨F,eF⟩:∃F,F=kE a b:=⟨_,rfl⟩;obtain⟨S,eS⟩:∃S,S=mU a b:=⟨_,rfl⟩;have kp:=fI k [0,1,2,3,4,5,6,7,8,9,10,11,12,14,15,16,17,25,36,42,55,78,95,112,131,150,171,187,203,228];refine wl ?_;refine aU (zs ?_);refine cl [.ret (.tup [.rd 3 F.length (λ j=>Flt.row (F.getD j zF)),S])] ?_;refine dD (zs ?_) (zs ?_);.rw[eF,eS];exact a5G a b hq hq' hk hk'
 by_cases hbad:pI a b
 .have hS:S=320:=by rw[eS,mU,if_pos hbad]
  subst hS;refine wl ?_;refine aU ⟨λ ht=>zN ?_⟩;refine cR (zN ?_);obtain⟨h1,h2⟩:=aHI hbad;rw[eR,eE,h1,h2];exact nZ (.cons (oA (JJ rfl)) (.cons (aK _) .nil))
 have hS:S=0:=by rw[eS,mU,if_neg hbad]
 subst hS;have hoi:=aJS hbad;rw[<-eF]at hoi;by_cases hal:xZ a b a.ng=false;.obtain⟨h1,h2⟩:=RR hbad hal;obtain⟨hFl,hF0⟩:=hoi.1 hal;have uU:=zA @Flt.row.eq_1 @hF0;refine wl ?_;refine aU ⟨λ ht ht=>⟨λ hg=>⟨?_⟩⟩⟩;have uU:=zA @Flt.row.eq_1 @hF0;refine cR (zN ?_);rw[eR,eE,h1,h2];exact nZ (.cons (oA (JJ rfl)) (.cons (aK _) .nil))
 have hall:xZ a b a.ng=true:=by simpa using hal
 obtain⟨h1,h2⟩:=aTL hbad hall;have hwa:(bW a).length=0:=by unfold pI at hbad;omega
 have hwb:(bW b).length=0:=by unfold pI at hbad;omega
 obtain⟨gnk,gns,gnsp⟩:=FG hwa hwb hall;obtain⟨gu,gu',gg,gsg,gsk⟩:a.nu=a.nk/\b.nu=a.nk/\b.ng=a.ng/\a.ns=a.ng/\∀g,g<a.ns->a.nsp g=a.nk:=by obtain⟨_,ha⟩:=lV hwa;obtain⟨_,hb⟩:=lV hwb;obtain⟨h1,h2,h3,h4⟩:=shapes_nil ha;obtain⟨k1,k2,k3,k4⟩:=shapes_nil hb;simp only[xZ,dTt]at hall;obtain⟨e1,_,e3,_⟩:=hall;exact⟨oO,oO,oO,oO,λ g hg=>by have:=h4 g hg;omega⟩
 have hno:¬(0<F.length/\(F.getD 0 zF).r=17):=λ h=>hal (hoi.2 h);have hE:E=0:=by rw[eE,h2]
 subst hE;have hg1:1<=a.ng:=(eY (lV hwa).1).1.2.2.2.1;have hk12:a.nk<=12:=by rw[<-gsk 0 oO];exact hp12 0 oO
 obtain⟨n0,f0,e0⟩:∃n f,rows 2 ((fC (fG a.clk b.clk) a.nk).map jM)= .rd 2 n f:=⟨_,_,rfl⟩;obtain⟨n1,f1,e1⟩:∃n f,rows 2 ((fC (fG a.cur b.cur) a.nk).map jM)= .rd 2 n f:=⟨_,_,rfl⟩;obtain⟨n2,f2,e2⟩:∃n f,rows 2 ((fC (fG a.wt b.wt) a.ns).map jM)= .rd 2 n f:=⟨_,_,rfl⟩;obtain⟨n3,f3,e3⟩:∃n f,rows 1 ((fC (qZ a b) a.nt).map nR)= .rd 1 n f:=⟨_,_,rfl⟩;obtain⟨n5,f5,e5⟩:∃n f,rows 5 ((fC (λ g=>fC (jN a b g) a.nk) a.ns).map pR)= .rd 5 n f:=⟨_,_,rfl⟩;have hR:R=[.rd 2 n0 f0,.rd 2 n1 f1,.rd 2 n2 f2,.rd 1 n3 f3,rows 8 ((fC (iG a b) b.nt).map tR),.rd 5 n5 f5]:=by rw[eR,h1,<-e0,<-e1,<-e2,<-e3,<-e5,gsg,<-aZC hall,<-gsg];unfold HK Dl.cells yI;rw[gsg]
 have h4:=rb4 (Γ:=Γ) a b hnt hnt' k R n0 n1 n2 n3 n5 f0 f1 f2 f3 f5 hR;have h3:=rb3 (Γ:=Γ) a b hnt hnt' k _ n0 n1 n2 n3 n5 f0 f1 f2 f3 f5 e3 h4;have h2':=rb2 (Γ:=Γ) a b hk12 h12 gns gg gsg gsk (λ g hg=>by rw[gnsp g hg,gsk g hg]) k _ n0 n1 n2 n5 f0 f1 f2 f5 e2 e5 h3;have hl:=rb1 (Γ:=Γ) a b hnk gnk gu gu' k _ n0 n1 f0 f1 e0 e1 h2';clear h4 h3 h2';have uU:= @Flt.row.eq_1;refine wl ?_;refine dD ⟨λ ht ht=>⟨λ hg=>⟨?_⟩⟩⟩ ⟨λ ht ht=>⟨λ hg=>⟨?_⟩⟩⟩;all_goals(refine dI (kU (k1:=k+4) (fr1:=[(9,.lit (.int .i64 0)),(8,.ptr (k+3) 0 0),(5,.lit (.int .i64 0)),(4,.ptr (k+2) 0 0),(3,.ptr (k+1) 0 0),(2,.ptr k 0 0)]) (H1:=[(k+2,⟨6,true,[[.lit (.slice none 0 0),.lit (.slice none 0 0),.lit (.slice none 0 0),.lit (.slice none 0 0),.lit (.slice none 0 0),.lit (.slice none 0 0)]]⟩),(k+1,⟨7,true,[b.cells]⟩),(k,⟨7,true,[a.cells]⟩),(k+3,⟨6,true,[[.lit (.slice none 0 0),.lit (.slice none 0 0),.lit (.slice none 0 0),.lit (.slice none 0 0),.lit (.slice none 0 0),.lit (.slice none 0 0)]]⟩)]) wL) ?_;exact hl)
theorem aZU(a b:St)(hq:PreOk a)(hq':PreOk b)(hk:Kinds a)(hk':Kinds b):AM.Pure aA Γ 21 [.agg a.cells,.agg b.cells] (.tup [.agg (OF a b).cells,(vF a b)]):=by
 obtain⟨⟨hng,hnk,hnu,hnt,hns,hnsp⟩,h12,hp12⟩:=id hq;obtain⟨⟨hng',hnk',hnu',hnt',hns',hnsp'⟩,h12',hp12'⟩:=id hq';refine aZ Tryz.func21 rfl 139 rfl bB rfl λ k=>?_;obtain⟨R,eR⟩:∃R,R=(OF a b).cells:=⟨_,rfl⟩;obtain⟨E,eE⟩:∃E,E=vF a b:=⟨_,rfl⟩;rw[<-eR,<-eE];obtain⟨F,eF⟩:∃F,F=kE a b:=⟨_,rfl⟩;obtain⟨S,eS⟩:∃S,S=mU a b:=⟨_,rfl⟩;have kp:=fI k [0,1,2,3,4,5,6,7,9,10,11,13,15,16,17,18,19,20,28,30,31,32,33,39,64,65,66,67,76,77,78,79,95,107,109,122,123,124,125];refine wl ?_;refine aU (zs ?_);refine cl [.ret (.tup [.rd 3 F.length (λ j=>Flt.row (F.getD j zF)),S])] ?_;refine dD (zs ?_) (zs ?_);.rw[eF,eS];exact bAD a b hq hq' hk hk'
 by_cases hbad:pI a b
 .have hS:S=320:=by rw[eS,mU,if_pos hbad]
  subst hS;refine wl ?_;refine aU ⟨λ ht=>zN ?_⟩;refine cR (zN ?_);obtain⟨h1,h2⟩:=aHI hbad;rw[eR,eE,h1,h2];exact nZ (.cons (oA (JJ rfl)) (.cons (aK _) .nil))
 have hS:S=0:=by rw[eS,mU,if_neg hbad]
 subst hS;by_cases hal:xZ a b a.ng=false
 .obtain⟨h1,h2⟩:=RR hbad hal;have hF:F=[⟨17,0,0⟩]:=by rw[eF,kE,if_neg hbad,if_pos hal]
  have hFl:F.length=1:=by rw[hF];rfl
  have hF0:(F.getD 0 zF).r=17:=by rw[hF];rfl
  have uU:= @Flt.row.eq_1;refine wl ?_;refine aU ⟨λ ht=>zN ?_⟩;refine bE (X:=Nat) rfl [0,1,2,3,4,5,6,7,9,10,11,13,15,16,17,18,19,20,28,30,31,32,33,39,64,65,66,67,76,77,78,79,95,107,109,122,123,124,125] (k+3) (λ i=>[(32,i)]) (λ i=>[(k+2,⟨6,true,[[(),(),(),(),(),()]]⟩),(k+1,⟨7,true,[b.cells]⟩),(k,⟨7,true,[a.cells]⟩)]) (λ i=>i=0) (λ i=>0) 0 ?_ rfl ?_;.refine rR ?_;apply zN;exact kU wL
  rintro i rfl;refine rR ?_;apply zN;refine wl ?_;refine aU ⟨λ ht=>zN ?_⟩;refine cl [.ret (.lit (.string ⟨#[111,116,104,101,114]⟩))] ?_;refine dD (zs ?_) (zs ?_);.rw[hF0];exact bBW
  refine wl ?_;refine aU ⟨λ ht=>zN ?_⟩;have uU:= @Flt.row.eq_1;refine cR (zN ?_);rw[eR,eE,h1,h2];exact nZ (.cons (oA (JJ rfl)) (.cons (aK _) .nil))
 have hall:xZ a b a.ng=true:=by simpa using hal
 obtain⟨h1,h2⟩:=aTL hbad hall;have hF:F=oM a b:=by rw[eF,kE,if_neg hbad,if_neg (by rw[hall];simp)]
 have hFr:∀f∈F,f.r=15\/f.r=16:=by rw[hF];exact LO a b
 have hFl:F.length<=100000:=by rw[eF];exact aAV a b hq
 have hwa:(bW a).length=0:=by unfold pI at hbad;omega
 have hwb:(bW b).length=0:=by unfold pI at hbad;omega
 obtain⟨gnk,gns,gnsp⟩:=FG hwa hwb hall;have gna:a.nu=a.nk/\b.nu=a.nk/\b.ng=a.ng/\a.ns=a.ng/\∀g,g<a.ns->a.nsp g=a.nk:=by obtain⟨_,ha⟩:=lV hwa;obtain⟨_,hb⟩:=lV hwb;obtain⟨h1,h2,h3,h4⟩:=shapes_nil ha;obtain⟨k1,k2,k3,k4⟩:=shapes_nil hb;simp only[xZ,dTt]at hall;obtain⟨e1,_,e3,_⟩:=hall;exact⟨oO,oO,oO,oO,λ g hg=>by have:=h4 g hg;omega⟩
 obtain⟨gu,gu',gg,gsg,gsk⟩:=gna;have uU:= @Flt.row.eq_1;refine wl ?_;refine aU ⟨λ ht=>zN ?_⟩;refine bE (X:=Nat) rfl [0,1,2,3,4,5,6,7,9,10,11,13,15,16,17,18,19,20,28,30,31,32,33,39,64,65,66,67,76,77,78,79,95,107,109,122,123,124,125] (k+3) (λ i=>[(32,i)]) (λ i=>[(k+2,⟨6,true,[[(),(),(),(),(),()]]⟩),(k+1,⟨7,true,[b.cells]⟩),(k,⟨7,true,[a.cells]⟩)]) (λ i=>i<=F.length) (λ i=>F.length-i) 0 ?_ (aJ _) ?_;.refine rR ?_;apply zN;exact kU wL
 intro i hi;refine rR ?_;apply zN;refine wl ?_;refine dD ⟨λ ht=>zN ?_⟩ ⟨λ ht=>zN ?_⟩
 .obtain⟨s,hs,hnm⟩:=bBV (Γ:=Γ) hFr (i:=i) oO;refine cl [.ret (.lit (.string s))] ?_;refine aU (zs ?_);refine wl ?_;refine dD ⟨λ ht=>zN ?_⟩ ⟨λ ht=>zN ?_⟩;.rcases hs with rfl|rfl<;>exact absurd ht (by decide+kernel)
  refine⟨i+1,oO,oO,?_⟩;exact kU wL
 obtain⟨L0,e0⟩:∃L,L=fC (fG a.clk b.clk) a.nk:=⟨_,rfl⟩;obtain⟨L1,e1⟩:∃L,L=fC (fG a.cur b.cur) a.nu:=⟨_,rfl⟩;obtain⟨L2,e2⟩:∃L,L=fC (vE a b) a.ng:=⟨_,rfl⟩;refine dI (sE (k+3) (by simp-dsimp-implicitDefEqProofs only[go_sem,Flt.row,eq_self,↓reduceIte];rfl)) ?_;refine dI (kU (k1:=k+4) (fr1:=[(10,.ptr (k+3) 0 0),(5,.lit (.int .i64 0)),(4,.ptr (k+2) 0 0),(3,.ptr (k+1) 0 0),(2,.ptr k 0 0)]) (H1:=[(k+2,⟨6,true,[[.lit (.slice none 0 0),.lit (.slice none 0 0),.lit (.slice none 0 0),.lit (.slice none 0 0),.lit (.slice none 0 0),.lit (.slice none 0 0)]]⟩),(k+1,⟨7,true,[b.cells]⟩),(k,⟨7,true,[a.cells]⟩)]++[(k+3,⟨6,false,[[.lit (.slice none 0 0),.lit (.slice none 0 0),.lit (.slice none 0 0),.lit (.slice none 0 0),.lit (.slice none 0 0),.lit (.slice none 0 0)]]⟩)]) wL) ?_;refine cl [.far (.tup []) (k+5) [(k+2,⟨6,true,[[(),(),(),(),(),()]]⟩),(k+1,⟨7,true,[b.cells]⟩),(k,⟨7,true,[a.cells]⟩)] [(k+3,⟨6,false,[[(),(),(),(),(),()]]⟩)] (cA (k+4) 2 (L0.map jM) [(k+3,⟨6,false,[[bV (k+4) (L0.map jM),(),(),(),(),()]]⟩)])] ?_;refine DT (zs ?_) (zs ?_) (zs ?_) (zs ?_);.exact λ _=>rfl
 .exact aEG (by simp only[AM.look];repeat(rw[if_neg oO])) (by simp only[AM.look];repeat(rw[if_neg oO]))
 .exact aSN (k+4) (k+3) oO a.clk b.clk a.nk b.nk gnk hnk _ _ _ _ _ (λ _=>rfl) (λ _=>rfl) (λ _=>rfl) (λ _=>rfl) (λ _=>rfl) L0 e0
 refine dI (fX (id:=k+4) (s:=2) (D:=k+3) (sz:=6) (l:=L0.map jM) (row:=[bV (k+4) (L0.map jM),.lit (.slice none 0 0),.lit (.slice none 0 0),.lit (.slice none 0 0),.lit (.slice none 0 0),.lit (.slice none 0 0)]) 0 (rows 2 (L0.map jM)) [(10,.ptr (k+3) 0 0),(5,(0:Int)),(4,.ptr (k+2) 0 0),(3,.ptr (k+1) 0 0),(2,.ptr k 0 0)] [(k+2,⟨6,true,[[(),(),(),(),(),()]]⟩),(k+1,⟨7,true,[b.cells]⟩),(k,⟨7,true,[a.cells]⟩)] oO sL rfl sL (aK _) sL sL sL) ?_;refine dI (kU (k1:=k+5) (fr1:=[(10,.ptr (k+3) 0 0),(5,.lit (.int .i64 0)),(4,.ptr (k+2) 0 0),(3,.ptr (k+1) 0 0),(2,.ptr k 0 0)]) (H1:=[(k+2,⟨6,true,[[.lit (.slice none 0 0),.lit (.slice none 0 0),.lit (.slice none 0 0),.lit (.slice none 0 0),.lit (.slice none 0 0),.lit (.slice none 0 0)]]⟩),(k+1,⟨7,true,[b.cells]⟩),(k,⟨7,true,[a.cells]⟩)]++[(k+3,⟨6,false,[[rows 2 (L0.map jM),.lit (.slice none 0 0),.lit (.slice none 0 0),.lit (.slice none 0 0),.lit (.slice none 0 0),.lit (.slice none 0 0)]]⟩)]) wL) ?_;refine wl ?_;refine aU (zs ?_);refine cl [.far (.tup []) (k+6) [(k+2,⟨6,true,[[(),(),(),(),(),()]]⟩),(k+1,⟨7,true,[b.cells]⟩),(k,⟨7,true,[a.cells]⟩)] [(k+3,⟨6,false,[[rows 2 (L0.map jM),(),(),(),(),()]]⟩)] (cA (k+5) 2 (L1.map jM) [(k+3,⟨6,false,[[rows 2 (L0.map jM),bV (k+5) (L1.map jM),(),(),(),()]]⟩)])] ?_;refine DT (zs ?_) (zs ?_) (zs ?_) (zs ?_);.exact λ _=>rfl
 .exact aEG (by simp only[AM.look];repeat(rw[if_neg oO])) (by simp only[AM.look];repeat(rw[if_neg oO]))
 .exact aSM (k+5) (k+3) oO a.cur b.cur a.nu b.nu oO hnu _ _ _ _ _ (λ _=>rfl) (λ _=>rfl) (λ _=>rfl) (λ _=>rfl) (λ _=>rfl) L1 e1
 refine dI (fX (id:=k+5) (s:=2) (D:=k+3) (sz:=6) (l:=L1.map jM) (row:=[rows 2 (L0.map jM),bV (k+5) (L1.map jM),.lit (.slice none 0 0),.lit (.slice none 0 0),.lit (.slice none 0 0),.lit (.slice none 0 0)]) 1 (rows 2 (L1.map jM)) [(10,.ptr (k+3) 0 0),(5,(0:Int)),(4,.ptr (k+2) 0 0),(3,.ptr (k+1) 0 0),(2,.ptr k 0 0)] [(k+2,⟨6,true,[[(),(),(),(),(),()]]⟩),(k+1,⟨7,true,[b.cells]⟩),(k,⟨7,true,[a.cells]⟩)] oO sL rfl sL (aK _) sL sL sL) ?_;refine dI (kU (k1:=k+6) (fr1:=[(10,.ptr (k+3) 0 0),(5,.lit (.int .i64 0)),(4,.ptr (k+2) 0 0),(3,.ptr (k+1) 0 0),(2,.ptr k 0 0)]) (H1:=[(k+2,⟨6,true,[[.lit (.slice none 0 0),.lit (.slice none 0 0),.lit (.slice none 0 0),.lit (.slice none 0 0),.lit (.slice none 0 0),.lit (.slice none 0 0)]]⟩),(k+1,⟨7,true,[b.cells]⟩),(k,⟨7,true,[a.cells]⟩)]++[(k+3,⟨6,false,[[rows 2 (L0.map jM),rows 2 (L1.map jM),.lit (.slice none 0 0),.lit (.slice none 0 0),.lit (.slice none 0 0),.lit (.slice none 0 0)]]⟩)]) wL) ?_;refine wl ?_;refine aU (zs ?_);refine cl [.far (.tup []) (k+7) [(k+2,⟨6,true,[[(),(),(),(),(),()]]⟩),(k+1,⟨7,true,[b.cells]⟩),(k,⟨7,true,[a.cells]⟩)] [(k+3,⟨6,false,[[rows 2 (L0.map jM),rows 2 (L1.map jM),(),(),(),()]]⟩)] (cA (k+6) 2 (L2.map jM) [(k+3,⟨6,false,[[rows 2 (L0.map jM),rows 2 (L1.map jM),bV (k+6) (L2.map jM),(),(),()]]⟩)])] ?_;refine DT (zs ?_) (zs ?_) (zs ?_) (zs ?_);.exact λ _=>rfl
 .exact aEG (by simp only[AM.look];repeat(rw[if_neg oO])) (by simp only[AM.look];repeat(rw[if_neg oO]))
 .exact aSL (k+6) (k+3) oO a b a.ng b.ng oO hng _ _ _ _ _ (λ _=>rfl) (λ _=>rfl) (λ _=>rfl) (λ _=>rfl) (λ _=>rfl) L2 e2
 refine dI (fX (id:=k+6) (s:=2) (D:=k+3) (sz:=6) (l:=L2.map jM) (row:=[rows 2 (L0.map jM),rows 2 (L1.map jM),bV (k+6) (L2.map jM),.lit (.slice none 0 0),.lit (.slice none 0 0),.lit (.slice none 0 0)]) 2 (rows 2 (L2.map jM)) [(10,.ptr (k+3) 0 0),(5,(0:Int)),(4,.ptr (k+2) 0 0),(3,.ptr (k+1) 0 0),(2,.ptr k 0 0)] [(k+2,⟨6,true,[[(),(),(),(),(),()]]⟩),(k+1,⟨7,true,[b.cells]⟩),(k,⟨7,true,[a.cells]⟩)] oO sL rfl sL (aK _) sL sL sL) ?_;refine dI (kU (k1:=k+7) (fr1:=[(10,.ptr (k+3) 0 0),(5,.lit (.int .i64 0)),(4,.ptr (k+2) 0 0),(3,.ptr (k+1) 0 0),(2,.ptr k 0 0)]) (H1:=[(k+2,⟨6,true,[[.lit (.slice none 0 0),.lit (.slice none 0 0),.lit (.slice none 0 0),.lit (.slice none 0 0),.lit (.slice none 0 0),.lit (.slice none 0 0)]]⟩),(k+1,⟨7,true,[b.cells]⟩),(k,⟨7,true,[a.cells]⟩)]++[(k+3,⟨6,false,[[rows 2 (L0.map jM),rows 2 (L1.map jM),rows 2 (L2.map jM),.lit (.slice none 0 0),.lit (.slice none 0 0),.lit (.slice none 0 0)]]⟩)]) wL) ?_;have ha:=BL hwa;have hb:=BL hwb;have hE:E=0:=by rw[eE,h2]
 have hg1:1<=a.ng:=(eY (lV hwa).1).1.2.2.2.1;subst hE;refine aTU a b ha hb hnt hnt' h12 gns (by rw[<-gsk 0 oO];exact hp12 0 oO) gsk (λ g hg=>by rw[gnsp g hg,gsk g hg]) k R _ _ _ _ _ _ ?_;rw[eR,h1];unfold HK Dl.cells;rw[e0,e1,e2,gu];rfl
def DM(s:St):Prop:=s.cpus<=10/\s.ng<=10/\s.nt<=40/\s.nk<=20/\s.nu<=20/\s.ns<=12/\∀g,g<s.ns->s.nsp g<=12
instance (s:St):Decidable (DM s):=by unfold DM;infer_instance
theorem aNW{s:St}(h:DM s):VM s:=by obtain⟨h1,h2,h3,h4,h5,h6,h7⟩:=h;exact⟨h1,h2,oO,oO,h3,h6,h7⟩
theorem aWI(s:St):AM.Pure aA Γ 37 [.agg s.cells] (decide (DM s)):=by
 refine aZ Tryz.func37 rfl 51 rfl bB rfl λ k=>?_;have kp:=fI k [0,1,2,4,39,41,42,43,44,49];refine wl ?_;refine zq7 ⟨λ ht=>⟨λ hg hg hg hg hg=>⟨?_⟩⟩⟩ ⟨λ ht=>⟨λ hg hg hg hg hg=>⟨?_⟩⟩⟩ ⟨λ ht=>⟨λ hg hg hg hg hg=>⟨?_⟩⟩⟩ ⟨λ ht=>⟨λ hg hg hg hg=>⟨?_⟩⟩⟩ ⟨λ ht=>⟨λ hg hg hg=>⟨?_⟩⟩⟩ ⟨λ ht=>⟨λ hg hg=>⟨?_⟩⟩⟩ ⟨λ ht=>⟨λ hg=>⟨?_⟩⟩⟩;any_goals (refine aX rfl ⟨_,rfl,aI ?_⟩;rw[decide_eq_false (by rintro⟨h1,h2,h3,h4,h5,h6,_⟩;omega)])
 refine bE (X:=Nat) rfl [0,1,2,4,39,41,42,43,44,49] (k+1) (λ i=>[(43,i)]) (λ i=>[(k,⟨7,true,[s.cells]⟩)]) (λ i=>i<=s.ns/\∀g,g<i->s.nsp g<=12) (λ i=>s.ns-i) 0 ?_ ⟨aJ _,λ g hg=>absurd hg (bJ _)⟩ ?_;.refine rR ?_;apply zN;exact fW
 rintro i ⟨hi,hall⟩;refine rR ?_;apply zN;refine wl ?_;refine wM ⟨λ ht ht=>zN ?_⟩ ⟨λ ht ht=>zN ?_⟩ ⟨λ ht=>zN ?_⟩;.refine aX rfl ⟨_,rfl,aI ?_⟩;rw[decide_eq_false (by rintro⟨h1,h2,h3,h4,h5,h6,h7⟩;have:=h7 i oO;omega)]
 .refine⟨i+1,⟨oO,λ g hg=>?_⟩,oO,?_⟩
  .by_cases he:g=i;.subst he;omega
   exact hall g oO
  refine rR ?_;apply zN;exact fW
 refine aX rfl ⟨_,rfl,aI ?_⟩;rw[decide_eq_true (by refine⟨oO,oO,oO,oO,oO,oO,λ g hg=>hall g oO⟩)]
theorem bDD(d e:DE)(hd:d.size<=100000)(he:e.size<=100000):AM.Pure aA Γ 38 [.agg d.cells,.agg e.cells] (eqD d e):=by
 refine aZ Tryz.func38 rfl 9 rfl bB rfl λ k=>?_;obtain⟨z,ez⟩:∃z,z=eqD d e:=⟨_,rfl⟩;rw[<-ez];have kp:=fI k [0,1,2,3,4];refine wl ?_;refine aU (zs ?_);refine dl [.ret (.agg e.cells),.ret z] ?_;refine wM (zs ?_) (zs ?_) (zs ?_);.exact KH e he
 .rw[ez];exact UC d e hd he
 refine aX rfl ⟨_,rfl,aI ?_⟩;rfl
theorem YW(d:DE):eqD d d=true:=by unfold eqD;rw[lR rfl (λ i _=>cV_iff.2 rfl),lR rfl (λ i _=>cV_iff.2 rfl),lR rfl (λ i _=>cV_iff.2 rfl),lR rfl (λ i _=>sS),lR rfl (λ i _=>cT_iff.2 rfl),lR rfl (λ i _=>cP_iff.2 rfl)];rfl
def dOf(x:Dl):DE:=⟨x.ck.length,x.cu.length,x.wg.length,x.gn.length,x.tk.length,x.sp.length,λ i=>x.ck.getD i (0,0),λ i=>x.cu.getD i (0,0),λ i=>x.wg.getD i (0,0),λ i=>x.gn.getD i 0,λ i=>x.tk.getD i zT,λ i=>x.sp.getD i (0,0,⟨0,0,0⟩)⟩
theorem BH{α:Type}(s:Nat)(f:α->List AVal)(z:α)(l:List α):VLe (rows s (l.map f)) (.rd s l.length (λ i=>f (l.getD i z))):=by rw[rows,bP];exact VLe.rd λ i hi=>by simp[bD,hi]
theorem aSV(x:Dl):VLe (.agg x.cells) (.agg (dOf x).cells):=
 oA (.cons (BH _ _ _ _) (.cons (BH _ _ _ _) (.cons (BH _ _ _ _) (.cons (BH _ _ _ _) (.cons (BH _ _ _ _) (.cons (BH _ _ _ _) .nil))))))
theorem ZK{a b:St}(hq:PreOk a)(hq':PreOk b)(hnk:a.nk<=1000):(dOf (OF a b)).size<=20000:=by
 obtain⟨⟨hng,_,hnu,hnt,hns,hnsp⟩,h12,hp12⟩:=id hq;have hnt':=hq'.sm.nt;have h0:∀x:Dl,(dOf x).size=x.ck.length+x.cu.length+x.wg.length+x.gn.length+x.tk.length+x.sp.length:=λ _=>rfl;rw[h0];unfold OF;split;.simp[noDl]
 split;.simp[noDl]
 have l0:=jH (qD a.clk b.clk) a.nk;have l1:=jH (qD a.cur b.cur) a.nk;have l2:=jH (YY a b) a.ng;have l3:=jH (RB a b) a.nt;have l4:=jH (GN a b) b.nt;have l5:=ML a b a.nk a.ns;have l6:a.ns*a.nk<=12*1000:=Nat.mul_le_mul h12 hnk;simp only[HK,yI];omega
theorem RS(a b:St)(hq:PreOk a)(hq':PreOk b)(hk:Kinds a)(hk':Kinds b):AM.Pure aA Γ 21 [.agg a.cells,.agg b.cells] (.tup [.agg (dOf (OF a b)).cells,(vF a b)]):=
 nS (aZU a b hq hq' hk hk') (nZ (.cons (aSV _) (.cons (aK _) .nil)))
theorem aBG(a b:St)(hq:PreOk a)(hq':PreOk b)(hk:Kinds a)(hk':Kinds b):AM.Pure aA Γ 17 [.agg a.cells,.agg b.cells] (.tup [.agg (dOf (OF a b)).cells,(vF a b)]):=
 nS (aOW a b hq hq' hk hk') (nZ (.cons (aSV _) (.cons (aK _) .nil)))
end Go.Proofs.T
end
section
namespace Go.Proofs.T
open Go Go.AM Go.Proofs
theorem sR{α:Type}(v:Nat->α)(n:Nat):(pre v n).length=n:=by simp[pre]
theorem tY{α:Type}{v:Nat->α}{n i:Nat}{z:α}(h:i<n):(pre v n).getD i z=v i:=by simp[pre,bD,h]
theorem mem_pre{α:Type}{v:Nat->α}{n:Nat}{x:α}:x∈pre v n↔∃i,i<n/\v i=x:=by simp[pre]
theorem a3E{α:Type}(z:α){l:List α}{v:Nat->α}{n:Nat}:l=pre v n↔l.length=n/\∀i,i<n->l.getD i z=v i:=by
 constructor;.rintro rfl;exact⟨sR v n,λ i hi=>tY hi⟩
 rintro⟨h1,h2⟩;refine kP λ i=>?_;by_cases hi:i<n;.have:=h2 i hi;rw[nV oO]at this;rw[aE oO,this];simp[pre,hi]
 rw[cI oO,cI (by rw[sR];omega)]
def lI(d:DE):Dl:=⟨pre d.ck d.n0,pre d.cu d.n1,pre d.wg d.n2,pre d.gn d.n3,pre d.tk d.n4,pre d.sp d.n5⟩
theorem BQ{α:Type}(z:α){l:List α}{v:Nat->α}{n:Nat}{c:α->α->Bool}(hc:∀x y,c x y=true↔x=y):wK l.length n (λ i=>c (l.getD i z) (v i))=true↔l=pre v n:=by
 rw[aYK,a3E z];constructor;.rintro⟨h1,h2⟩;exact⟨h1,λ i hi=>(hc _ _).1 (h2 i oO)⟩
 rintro⟨h1,h2⟩;exact⟨h1,λ i hi=>(hc _ _).2 (h2 i oO)⟩
theorem aYL(x:Dl)(d:DE):eqD (dOf x) d=true↔x=lI d:=by obtain⟨ck,cu,wg,gn,tk,sp⟩:=x;unfold eqD dOf lI;simp only[aC,Dl.mk.injEq];rw[BQ (0,0) (λ _ _=>cV_iff),BQ (0,0) (λ _ _=>cV_iff),BQ (0,0) (λ _ _=>cV_iff),BQ zT (λ _ _=>cT_iff),BQ (0,0,⟨0,0,0⟩) (λ _ _=>cP_iff),BQ (c:=λ a b=>a==b) (0:Int) (λ a b=>sS)]
def CA(n:Nat)(now:Nat->Int)(v:Nat->Int×Int)(j:Nat):Prop:=0<=(v j).1/\(v j).1<n/\(0<j->(v (j-1)).1<(v j).1)/\now (v j).1.toNat≠(v j).2
theorem valOk_e{n:Nat}{now:Nat->Int}{v:Nat->Int×Int}{nv:Nat}:ValOk n now (pre v nv)↔∀j,j<nv->CA n now v j:=by rw[aHZ,sR];refine forall_congr' λ j=>forall_congr' λ hj=>?_;unfold okV CA;rw[tY hj,tY (oO:j-1<nv)]
theorem aUE{α:Type} [DecidableEq α]{f:Nat->α}{n:Nat}{x:α}:jI (λ i=>decide (x=f i)) n=decide (x∈pre f n):=by rw[aY,anyB_iff];simp only[dTt,mem_pre];exact⟨λ⟨i,h1,h2⟩=>⟨i,h1,h2.symm⟩,λ⟨i,h1,h2⟩=>⟨i,h1,h2.symm⟩⟩
theorem aJX(s:St)(d:DE):(mP s).filter (λ t=> !sJ d t)=yW (mP s) (lI d).gn (lI d).tk:=by
 unfold yW;refine bAO λ t _=>?_;unfold sJ;rw[Bool.not_or];congr 1;.rw[aUE];congr 1;rw[aY];simp[lI]
 congr 1
 have e:jI (λ i=>decide ((d.tk i).id=t.id)) d.n4=true↔qR (lI d).tk t.id:=by
  rw[anyB_iff];constructor;.rintro⟨i,h1,h2⟩;exact⟨d.tk i,mem_pre.2 ⟨i,h1,rfl⟩,of_decide_eq_true h2⟩
  rintro⟨t',h1,h2⟩;obtain⟨i,h3,h4⟩:=mem_pre.1 h1;exact⟨i,h3,decide_eq_true (by rw[h4];exact h2)⟩
 rw[aY,e,dTt]
end Go.Proofs.T
end
section
namespace Go.Proofs.T
open Go Go.Lib
theorem QY:∀(a s:List UInt8),(32:UInt8)∉a->index (a++32::s) [32]=(a.length:Int)
 |[],s,_=>by simp[index]
 |c::a,s,h=>by have hc:c≠32:=λ e=>h (by simp[e]);have ih:=QY a s (λ e=>h (by simp[e]));simp only[dQ,index];rw[if_neg (by simp[Ne.symm hc]),ih,if_neg sS];simp
theorem MG:∀(a:List UInt8),(32:UInt8)∉a->index a [32]= -1
 |[],_=>by simp[index]
 |c::a,h=>by have hc:c≠32:=λ e=>h (by simp[e]);have ih:=MG a (λ e=>h (by simp[e]));simp only[index];rw[if_neg (by simp[Ne.symm hc]),ih,if_pos sS]
theorem aIM{a:List UInt8}(h:(32:UInt8)∉a):split a [32]=[a]:=by unfold split;rw[count_miss (MG a h)];rfl
theorem aAX{a s:List UInt8}(h:(32:UInt8)∉a):split (a++32::s) [32]=a::split s [32]:=by
 have hi:=QY a s h;have hd:(a++32::s).drop (a.length+[(32:UInt8)].length)=s:=by rw[<-List.drop_drop,List.drop_left];rfl
 unfold split;rw[count_hit sS hi,hd,bFX,splitK,hi,if_neg sS];simp only[gX,jX,List.take_left];rw[hd]
def aQN(b:Nat->Bool):Nat->Nat->Nat
 |0,c=>c
 |f+1,c=>if b (c+1)=true then aQN b f (c+1)else c
def aON(b:Nat->Bool):Nat->Nat->List (Nat×Nat)
 |0,_=>[]
 |f+1,c=>if c<64 then(if b c=true then(c,aQN b 64 c)::aON b f (aQN b 64 c+1)else aON b f (c+1))else []
end Go.Proofs.T
end
section
namespace Go.AM
open Go Go.RowKit Go.Proofs Go.Shelf
abbrev str(l:List UInt8):ByteArray:=⟨l.toArray⟩
theorem aNK(b:ByteArray):str b.data.toList=b:=rfl
def aWC(l:List (List UInt8)):AVal:= .rd 1 l.length (λ i=>[.lit (.string (str (l.getD i [])))])
def NQ(l:List UInt8):Int:=match Lib.atoiAll l with
 | .ok v=>v
 | .range=>Lib.atoiSat l
 |_=>0
section
variable{P:Program}{ρ:Ren}{Γ:List (Nat×List AVal)}
theorem aMH(L:LaysM.n171 P ρ){g:Nat}(hg:P.globalNamed "internal/strconv.uint64pow10"=some g)(hΓ:look Γ g=some (Lib.pow10Tab.map λ z=> .lit (.int .u64 z)))(n:Int)
 (h0: -9223372036854775808<=n) (h1:n<=9223372036854775807):Pure P Γ (ρ.f 171) [.lit (.int .i64 n)] (.lit (.string (str (Lib.itoa n)))):=
 lX rfl λ w G args hG hv=>by rw[aET hv];refine(Any.strconv_Itoa L n h0 h1 w ((hG g _ hΓ).tab hg)).mono ?_;rintro e w' ⟨rfl,k,os,rfl⟩;refine⟨_,rfl,⟨rfl,rfl,rfl,by first|(simp[Sort.grow];done)|(simp[Sort.grow];omega),λ i hi=>?_⟩,.lit⟩;show((w.drewN k).heap++os)[i]? =_;rw[gR (by show i<w.heap.size;omega)];rfl
theorem aEU{w:World}{G:Nat->Prop}{ρ:cM}{A:bU}{n:Int}{x:Value}:V w G ρ A (.tup [.lit (.int .i64 n),.junk]) (.tuple #[.int .i64 n,x]):=by
 refine .tup rfl λ j v hj=>?_
 match j with
 |0=>cases hj;exact .lit
 |1=>cases hj;exact .junk
 |j+2=>simp at hj
theorem aMI(L:LaysC.n172 P ρ){te pe te' pe'}(hS:look Γ (ρ.g 15)=some [.lit (.iface te pe)])(hR:look Γ (ρ.g 16)=some [.lit (.iface te' pe')])(l:List UInt8)(hl:l.length<=281474976710656):
 Pure P Γ (ρ.f 172) [.lit (.string (str l))] (.tup [.lit (.int .i64 (NQ l)),.junk]):=
 lX rfl λ w G args hG hv=>by
  rw[aET hv];have hs:(str l).size<=281474976710656:=by simpa [ByteArray.size]using hl
  have hd:(str l).data.toList=l:=by simp
  cases h:Lib.atoiAll l
  .rename_i v;refine(Any.strconv_Atoi_ok L (str l) oO v (by rw[hd];exact h) w).mono ?_;rintro e w' ⟨rfl,hw⟩;refine⟨_,rfl,?_,by rw[NQ,h];exact aEU⟩;rcases hw with rfl|⟨t,rfl⟩;.exact Below.refl _ _
   exact Lib.bytesWorld_below _ _ _
  .refine(Any.strconv_Atoi_syntax L (str l) hs (by rw[hd];exact h) (.iface te pe) w ((hG _ _ hS).cell rfl) (.inr ⟨_,_,rfl⟩)).mono ?_;rintro e w' ⟨N,rfl,_,_,hb⟩;exact⟨_,rfl,hb,by rw[NQ,h];exact aEU⟩
  refine(Any.strconv_Atoi_range L (str l) hs (by rw[hd];exact h) (.iface te' pe') w ((hG _ _ hR).cell rfl) (.inr ⟨_,_,rfl⟩)).mono ?_;rintro e w' ⟨N,rfl,_,_,hb⟩;exact⟨_,rfl,hb,by rw[NQ,h,hd];exact aEU⟩
theorem aFA(L:Lays.n146 P ρ)(hi9:(P.info? (ρ.t 9)).map (λ i=>(i.zero,i.size,i.bytes))=some (some (.string ByteArray.empty),1,16)){m:Int}(hM:look Γ (ρ.g 1)=some [.lit (.int .i64 m)])(l sep:List UInt8)
 (hl:l.length<4294967281) (h1:1<=sep.length):Pure P Γ (ρ.f 146) [.lit (.string (str l)),.lit (.string (str sep))] (aWC (Lib.split l sep)):=
 lX rfl λ w G args hG hv=>by
  rw[VI hv];have hs:(str l).size<4294967281:=by simpa [ByteArray.size]using hl
  have h1':1<=(str sep).size:=by simpa [ByteArray.size]using h1
  refine(Any.strings_Split L hi9 (str l) (str sep) m w hs ((hG _ _ hM).cell rfl) h1').mono ?_;rintro e w' ⟨rfl,rfl⟩;have hlen:=Lib.splitB_all (str sep) h1' 0 _ (str l) rfl;have hle:=Lib.countB_le (str sep) h1' (str l).size (str l) (aF _);have hdat:=Lib.splitB_data (str sep) 0 (Lib.countB (str l) (str sep)) (str l);have hsp:Lib.split l sep=(Lib.splitB (str sep) 0 (Lib.countB (str l) (str sep)) (str l)).map (·.data.toList):=by rw[hdat];simp[Lib.split,Lib.countB]
  refine⟨_,rfl,(Below.refl _ _).alloc (aF _) _,?_⟩;unfold aWC;rw[hsp];generalize hq:Lib.splitB (str sep) 0 (Lib.countB (str l) (str sep)) (str l)=q at*
  rw[<-hlen,bP];refine .rd (λ i _=> .string (q.getD i default)) (.inr ⟨aF _,sS⟩) (aF _) (by unfold maxLen;omega) (λ i hi=>rfl) (λ i j v hi hj=>?_) (λ i j v hi hj=>?_)
  .match j with
   | 0=>
     have hi':i<q.length:=hi
     have e:0+i*1+0=i:=oO
     rw[e,World.cell?_alloc_at _ _ _ _ rfl,cH,aQ,aE hi']
     simp[List.getD,hi']
   |j+1=>simp at hj
  match j with
  | 0=>
    simp only[iX,mB.injEq]at hj
    subst hj
    have e:str (List.getD (q.map (·.data.toList)) i [])=q.getD i default:=by simp[List.getD,hi]
    rw[e];exact .lit
  |j+1=>simp at hj
end
end Go.AM
end
section
namespace Go.Proofs.T
open Go Go.Lib Go.AM
def a6R(x:Nat×Nat):List UInt8:=decDigits x.1++(if x.1<x.2 then 45::decDigits x.2 else [])
def a7R:List (Nat×Nat)->List UInt8
 |[]=>[]
 |[x]=>a6R x
 |x::y::r=>a6R x++44::a7R (y::r)
def a7A(l:List (Nat×Nat)):List UInt8:=if l=[]then [45]else a7R l
def nmL:List (List UInt8):=[[],[99,111,110,102,105,103],[115,104,97,112,101],[99,108,111,99,107],[111,114,100,101,114],[105,100],[103,114,111,117,112],[99,112,117],[109,97,115,107],[112,108,97,99,101],[116,97,115,107],[115,112,111,116],[114,111,111,116],[99,117,114,114,101,110,116],[102,108,111,111,114],[98,97,99,107],[102,101,108,108],[111,116,104,101,114]]
def nm(r:Nat):List UInt8:=nmL.getD r []
end Go.Proofs.T
end
section
namespace Go.Proofs.T
open Go Go.AM Go.Lib
def jn:List (List UInt8)->List UInt8
 |[]=>[]
 |[w]=>w
 |w::v::r=>w++32::jn (v::r)
theorem aGL{w:List UInt8}{r:List (List UInt8)}(h:r≠[]):jn (w::r)=w++32::jn r:=by
 cases r with
 |nil=>exact absurd rfl h
 |cons v r=>rfl
theorem WJ:∀ {ws:List (List UInt8)},ws≠[]->(∀w∈ws,(32:UInt8)∉w)->split (jn ws) [32]=ws
 |[],h,_=>absurd rfl h
 |[w],_,hn=>aIM (hn w sS)
 |w::v::r,_,hn=>by rw[aGL sS,aAX (hn w sS),WJ sS (λ x hx=>hn x (fP _ hx))]
def puV(B:Nat)(l:List UInt8):Int:=match parseUintB B l with
 | .ok n=>n
 | .range=>(2:Int)^B-1
 |_=>0
def a2H:List UInt8:=[99,108,111,99,107]
def aMT:List UInt8:=[99,117,114,114,101,110,116]
def aVL:List UInt8:=[119,101,105,103,104,116]
def a6J:List UInt8:=[103,111,110,101]
def a6H:List UInt8:=[116,97,115,107]
def a6I:List UInt8:=[115,112,111,116]
def a2G:List UInt8:=[114,101,97,100,121]
inductive El where
 |ck (a t:Int)
 |cu (a t:Int)
 |wg (a t:Int)
 |gn (x:Int)
 |tk (t:Tk)
 |sp (g c:Int) (p:Sp)
def IR(x:Int):Prop:= -9223372036854775808<=x/\x<=9223372036854775807
def U64(x:Int):Prop:=0<=x/\x<=18446744073709551615
def U32(x:Int):Prop:=0<=x/\x<=4294967295
def El.rng:El->Prop
 | .ck a t=>IR a/\IR t
 | .cu a t=>IR a/\IR t
 | .wg a t=>IR a/\IR t
 | .gn x=>IR x
 | .tk t=>IR t.id/\IR t.group/\IR t.weight/\IR t.cpu/\U64 t.mask/\U64 t.v/\U32 t.r
 | .sp g c p=>IR g/\IR c/\U64 p.v/\U32 p.r/\U64 p.floor
def El.ints:El->List Int
 | .ck a t=>[a,t]
 | .cu a t=>[a,t]
 | .wg a t=>[a,t]
 | .gn x=>[x]
 | .tk t=>[t.id,t.group,t.weight,t.cpu]
 | .sp g c p=>[g,c]
def El.plain (e:El):Prop:=∀x∈e.ints,0<=x
instance (e:El):Decidable e.plain:=by unfold El.plain;infer_instance
def El.kind:El->Int
 | .ck _ _=>0
 | .cu _ _=>1
 | .wg _ _=>2
 | .gn _=>3
 | .tk _=>4
 | .sp _ _ _=>5
section
variable(mT:Int->List UInt8)(pR:List UInt8->Int)(rR:List UInt8->Option Int)
def nW(ws:List (List UInt8))(i:Nat):Int:=match ws[i]? with
 |some w=>NQ w
 |none=>0
def uW(B:Nat)(ws:List (List UInt8))(i:Nat):Int:=match ws[i]? with
 |some w=>puV B w
 |none=>0
def gu(ws:List (List UInt8)):Option El:=
 if ws.headD []=a2H then some (.ck (nW ws 1) (nW ws 2))
 else if ws.headD []=aMT then some (.cu (nW ws 1) (nW ws 2))
 else if ws.headD []=aVL then some (.wg (nW ws 1) (nW ws 2))
 else if ws.headD []=a6J then some (.gn (nW ws 1))
 else if ws.headD []=a6H then some (.tk ⟨nW ws 1,nW ws 2,nW ws 3,nW ws 4,if 6<ws.length then pR (ws.getD 5 [])else 0,if 6<ws.length then decide (ws.getD 6 []=a2G)else false,uW 64 ws 7,uW 32 ws 8⟩)
 else if ws.headD []=a6I then some (.sp (nW ws 1) (nW ws 2) ⟨uW 64 ws 3,uW 32 ws 4,uW 64 ws 5⟩)
 else none
variable{mT pR rR}
end
def bCB(m:Int)(c:Nat):Bool:=m.toNat.testBit c
def a7B(m:Int):List (Nat×Nat):=aON (bCB m) 64 0
def mT(m:Int):List UInt8:=a7A (a7B m)
end Go.Proofs.T
end
section
namespace Go.AM
open Go Go.Lib
attribute [go_sem] gW aHS List.drop_zero
end Go.AM
end
section
namespace Go.Proofs.T
open Go Go.AM Go.Proofs
section
variable{H:Type}{qS:TypeId×Value->H}{P:Program}{w:World}{base:Nat}{sp:Nat->Bool}{held:Bool}{fuel:Nat}{t:TypeId}{cs:List Value}{x:DataW H×List MemPlace}{G:Nat->Prop}
theorem nY{fs:Array Field}(ht:P.underlying t=some (.struct fs))(h:DataW.trod qS P w base sp held fuel t cs=some x):
 cs.length=P.cellsOf t/\∃n,∀(i:Nat) (f:Field),fs[i]? =some f->∃y,DataW.trod qS P w base sp held n f.type ((cs.drop f.offset).take (P.cellsOf f.type))=some y:=by
 obtain⟨xs,n,_,_,h1,h2,h3⟩:=DataW.trod_struct ht h;refine⟨h1,n,λ i f hf=>?_⟩;have hi:i<xs.length:=by rw[h2];exact(cZ.1 hf).1
 exact⟨xs[i],by rw[h3 i f hf,aE hi]⟩
def Tk.cells (k:Tk):List AVal:=[.lit (.int .i64 k.id),.lit (.int .i64 k.group),.lit (.int .i64 k.weight),.lit (.int .i64 k.cpu),.lit (.int .u64 k.mask),.lit (.bool k.ready),.lit (.int .u64 k.v),.lit (.int .u32 k.r)]
def Sp.cells (k:Sp):List AVal:=[.lit (.int .u64 k.v),.lit (.int .u32 k.r),.lit (.int .u64 k.floor)]
def Tk.ok (k:Tk):Prop:=0<=k.mask/\k.mask<18446744073709551616/\k.v<=18446744073709551615/\0<=k.r
def Sp.ok (k:Sp):Prop:=0<=k.v/\k.v<=18446744073709551615/\0<=k.r
theorem a7F{cs:List Value}(h:cs.length=2):∃a b,cs=[a,b]:=by
 match cs,h with
 |[a,b],_=>exact⟨a,b,rfl⟩
theorem bCG{cs:List Value}(h:cs.length=3):∃a b c,cs=[a,b,c]:=by
 match cs,h with
 |[a,b,c],_=>exact⟨a,b,c,rfl⟩
theorem bCE{cs:List Value}(h:cs.length=7):∃a b c d e f g,cs=[a,b,c,d,e,f,g]:=by
 match cs,h with
 |[a,b,c,d,e,f,g],_=>exact⟨a,b,c,d,e,f,g,rfl⟩
theorem bCD{cs:List Value}(h:cs.length=8):∃a b c d e f g i,cs=[a,b,c,d,e,f,g,i]:=by
 match cs,h with
 |[a,b,c,d,e,f,g,i],_=>exact⟨a,b,c,d,e,f,g,i,rfl⟩
theorem aLG{n:Nat}{y:DataW H×List MemPlace}(hl:cs.length=2)(h:DataW.trod qS aA w base sp held n 111 cs=some y):
 ∃a:Int×Int,True/\Dec w G [a.1,a.2] cs:=by obtain⟨_,m,hf⟩:=nY Tryz.underlying111 h;obtain⟨c0,c1,rfl⟩:=a7F hl;obtain⟨_,h0⟩:=hf 0 _ rfl;obtain⟨_,h1⟩:=hf 1 _ rfl;obtain⟨a,d0,_⟩:=iK (G:=G) dB h0;obtain⟨b,d1,_⟩:=iK (G:=G) dB h1;exact⟨(a,b),trivial,d0.app d1⟩
theorem ZC(hG:∀b,b<w.heap.size->G b)(h:DataW.trod qS aA w base sp held fuel 26 cs=some x):∃(n:Nat) (f:Nat->Int),Dec w G [.rd 1 n (λ i=>[(f i)])] cs:=by
 obtain⟨n,f,_,d⟩:=lJ (G:=G) (λ a:Int=>[.lit (.int .i64 a)]) (λ _=>True) 0 trivial (sz:=1) oO bAI (by kernel_rfl) hG (λ n cs y hl hy=>by obtain⟨a,d,_⟩:=iK (G:=G) dB hy;exact⟨a,trivial,d⟩) h
 exact⟨n,f,d⟩
end
end Go.Proofs.T
end
section
namespace Go.Proofs.T
open Go Go.AM Go.Proofs Go.ChangeShapes Go.WideShapes Go.ChangeAt Go.WideMaps Go.WideElems Go.RowKit Go.Proofs.YteimiejbhhgljaaGreatDoor
theorem bBT:ownKnob aA.godebug=none:=by kernel_rfl
theorem TK:laidOutB aA=true:=by kernel_rfl
theorem aLX{W:World}{r:Reach}{base:Nat}{v:Value}(h:bFS aA W r base 30 v):∃cs,v= .agg cs:=by unfold bFS at h;rw[Tryz.underlying30]at h;obtain⟨cs,h1,_⟩:=h;exact⟨cs,h1⟩
def aHW:Value:= .agg #[.int .i64 0,.int .u64 0,.slice none 0 0,.slice none 0 0,.slice none 0 0,.slice none 0 0,.slice none 0 0]
end Go.Proofs.T
end
section
namespace Go.Proofs.T
open Go Go.AM Go.Proofs Go.Lib
structure DRng (d:DE):Prop where
 ck:∀i,(El.ck (d.ck i).1 (d.ck i).2).rng
 cu:∀i,(El.cu (d.cu i).1 (d.cu i).2).rng
 wg:∀i,(El.wg (d.wg i).1 (d.wg i).2).rng
 gn:∀i,(El.gn (d.gn i)).rng
 tk:∀i,(El.tk (d.tk i)).rng
 sp:∀i,(El.sp (d.sp i).1 (d.sp i).2.1 (d.sp i).2.2).rng
theorem qA{n:Int}(h:(Lit.int .i64 n).wf=true):IR n:=by simp[Lit.wf]at h;have e1:aN.min= -9223372036854775808:=rfl;have e2:aN.max=9223372036854775807:=rfl;exact⟨oO,oO⟩
theorem tP{n:Int}(h:(Lit.int .u64 n).wf=true):U64 n:=by simp[Lit.wf]at h;have e1:bN.min=0:=rfl;have e2:bN.max=18446744073709551615:=rfl;exact⟨oO,oO⟩
theorem KG{n:Int}(h:(Lit.int .u32 n).wf=true):U32 n:=by simp[Lit.wf]at h;have e1:jF.min=0:=rfl;have e2:jF.max=4294967295:=rfl;exact⟨oO,oO⟩
theorem bCF{cs:List Value}(h:cs.length=5):∃a b c d e,cs=[a,b,c,d,e]:=by
 match cs,h with
 |[a,b,c,d,e],_=>exact⟨a,b,c,d,e,rfl⟩
theorem a7E{cs:List Value}(h:cs.length=6):∃a b c d e f,cs=[a,b,c,d,e,f]:=by
 match cs,h with
 |[a,b,c,d,e,f],_=>exact⟨a,b,c,d,e,f,rfl⟩
section
variable{H:Type}{qS:TypeId×Value->H}{P:Program}{w:World}{base:Nat}{sp:Nat->Bool}{held:Bool}{fuel:Nat}{t:TypeId}{cs:List Value}{x:DataW H×List MemPlace}{G:Nat->Prop}
theorem HF{n:Nat}{y:DataW H×List MemPlace}(hl:cs.length=2)(h:DataW.trod qS aA w base sp held n 87 cs=some y):
 ∃a:Int×Int,(IR a.1/\IR a.2)/\Dec w G (jM a) cs:=by obtain⟨_,m,hf⟩:=nY Tryz.underlying87 h;obtain⟨c0,c1,rfl⟩:=a7F hl;obtain⟨_,h0⟩:=hf 0 _ rfl;obtain⟨_,h1⟩:=hf 1 _ rfl;obtain⟨a,d0,w0⟩:=iK (G:=G) dB h0;obtain⟨b,d1,w1⟩:=iK (G:=G) dB h1;exact⟨(a,b),⟨qA w0,qA w1⟩,d0.app d1⟩
theorem RN{n:Nat}{y:DataW H×List MemPlace}(hl:cs.length=8)(h:DataW.trod qS aA w base sp held n 89 cs=some y):
 ∃a:Tk,(El.tk a).rng/\Dec w G (tR a) cs:=by obtain⟨_,m,hf⟩:=nY Tryz.underlying89 h;obtain⟨c0,c1,c2,c3,c4,c5,c6,c7,rfl⟩:=bCD hl;obtain⟨_,h0⟩:=hf 0 _ rfl;obtain⟨_,h1⟩:=hf 1 _ rfl;obtain⟨_,h2⟩:=hf 2 _ rfl;obtain⟨_,h3⟩:=hf 3 _ rfl;obtain⟨_,h4⟩:=hf 4 _ rfl;obtain⟨_,h5⟩:=hf 5 _ rfl;obtain⟨_,h6⟩:=hf 6 _ rfl;obtain⟨_,h7⟩:=hf 7 _ rfl;obtain⟨a0,d0,w0⟩:=iK (G:=G) dB h0;obtain⟨a1,d1,w1⟩:=iK (G:=G) dB h1;obtain⟨a2,d2,w2⟩:=iK (G:=G) dB h2;obtain⟨a3,d3,w3⟩:=iK (G:=G) dB h3;obtain⟨a4,d4,w4⟩:=iK (G:=G) iL h4;obtain⟨a5,d5⟩:=aSR (G:=G) lW h5;obtain⟨a6,d6,w6⟩:=iK (G:=G) iL h6;obtain⟨a7,d7,w7⟩:=iK (G:=G) jB h7;exact⟨⟨a0,a1,a2,a3,a4,a5,a6,a7⟩,⟨qA w0,qA w1,qA w2,qA w3,tP w4,tP w6,KG w7⟩,d0.app (d1.app (d2.app (d3.app (d4.app (d5.app (d6.app d7))))))⟩
theorem aLF{n:Nat}{y:DataW H×List MemPlace}(hl:cs.length=5)(h:DataW.trod qS aA w base sp held n 93 cs=some y):
 ∃a:Int×Int×Sp,(El.sp a.1 a.2.1 a.2.2).rng/\Dec w G (pR a) cs:=by obtain⟨_,m,hf⟩:=nY Tryz.underlying93 h;obtain⟨c0,c1,c2,c3,c4,rfl⟩:=bCF hl;obtain⟨_,h0⟩:=hf 0 _ rfl;obtain⟨_,h1⟩:=hf 1 _ rfl;obtain⟨_,h2⟩:=hf 2 _ rfl;obtain⟨_,m',hf'⟩:=nY Tryz.underlying91 h2;obtain⟨_,k0⟩:=hf' 0 _ rfl;obtain⟨_,k1⟩:=hf' 1 _ rfl;obtain⟨_,k2⟩:=hf' 2 _ rfl;obtain⟨a0,d0,w0⟩:=iK (G:=G) dB h0;obtain⟨a1,d1,w1⟩:=iK (G:=G) dB h1;obtain⟨a2,d2,w2⟩:=iK (G:=G) iL k0;obtain⟨a3,d3,w3⟩:=iK (G:=G) jB k1;obtain⟨a4,d4,w4⟩:=iK (G:=G) iL k2;exact⟨(a0,a1,⟨a2,a3,a4⟩),⟨qA w0,qA w1,tP w2,KG w3,tP w4⟩,d0.app (d1.app (d2.app (d3.app d4)))⟩
theorem rng0:IR 0/\U64 0/\U32 0:=⟨⟨oO,oO⟩,⟨oO,oO⟩,⟨oO,oO⟩⟩
theorem RO(hG:∀b,b<w.heap.size->G b)(h:DataW.trod qS aA w base sp held fuel 36 cs=some x):∃d:DE,DRng d/\Dec w G d.cells cs:=by
 obtain⟨hl,m,hf⟩:=nY bAH h;have hl6:cs.length=6:=hl.trans (by kernel_rfl);obtain⟨c0,c1,c2,c3,c4,c5,rfl⟩:=a7E hl6;obtain⟨_,h0⟩:=hf 0 _ rfl;obtain⟨_,h1⟩:=hf 1 _ rfl;obtain⟨_,h2⟩:=hf 2 _ rfl;obtain⟨_,h3⟩:=hf 3 _ rfl;obtain⟨_,h4⟩:=hf 4 _ rfl;obtain⟨_,h5⟩:=hf 5 _ rfl;have z2:IR (0,0).1/\IR ((0,0):Int×Int).2:=⟨rng0.1,rng0.1⟩;obtain⟨n0,f0,q0,d0⟩:=lJ (G:=G) jM (λ a=>IR a.1/\IR a.2) (0,0) z2 (sz:=2) oO CH (by kernel_rfl) hG (λ n cs y hl hy=>HF hl hy) h0;obtain⟨n1,f1,q1,d1⟩:=lJ (G:=G) jM (λ a=>IR a.1/\IR a.2) (0,0) z2 (sz:=2) oO CH (by kernel_rfl) hG (λ n cs y hl hy=>HF hl hy) h1;obtain⟨n2,f2,q2,d2⟩:=lJ (G:=G) jM (λ a=>IR a.1/\IR a.2) (0,0) z2 (sz:=2) oO CH (by kernel_rfl) hG (λ n cs y hl hy=>HF hl hy) h2;obtain⟨n3,f3,q3,d3⟩:=lJ (G:=G) nR IR 0 rng0.1 (sz:=1) oO bAI (by kernel_rfl) hG (λ n cs y hl hy=>by obtain⟨a,d,w⟩:=iK (G:=G) dB hy;exact⟨a,qA w,d⟩) h3
 obtain⟨n4,f4,q4,d4⟩:=lJ (G:=G) tR (λ a=>(El.tk a).rng) zT ⟨rng0.1,rng0.1,rng0.1,rng0.1,rng0.2.1,rng0.2.1,rng0.2.2⟩ (sz:=8) oO Tryz.underlying27 (by kernel_rfl) hG (λ n cs y hl hy=>RN hl hy) h4;obtain⟨n5,f5,q5,d5⟩:=lJ (G:=G) pR (λ a=>(El.sp a.1 a.2.1 a.2.2).rng) (0,0,⟨0,0,0⟩) ⟨rng0.1,rng0.1,rng0.2.1,rng0.2.2,rng0.2.1⟩ (sz:=5) oO Tryz.underlying34 (by kernel_rfl) hG (λ n cs y hl hy=>aLF hl hy) h5;exact⟨⟨n0,n1,n2,n3,n4,n5,f0,f1,f2,f3,f4,f5⟩,⟨q0,q1,q2,q3,q4,q5⟩,d0.app (d1.app (d2.app (d3.app (d4.app d5))))⟩
end
end Go.Proofs.T
end
