import Derived.Test.YteimiejbhhgljaaGreatDoorZAPB
set_option linter.unusedVariables false
set_option linter.unusedSimpArgs false
set_option maxHeartbeats 0
set_option maxRecDepth 100000
open Go.IntKind renaming u64->bN
open List renaming getD_eq_getElem?_getD->bD,getElem?_set->fY,getElem_mem->bKH,length_set->PI,map->jL,map_append->aH,map_cons->bG,map_map->jD,map_nil->aV,range->aM,range_succ->CI
open Nat renaming add_assoc->fS,add_sub_cancel->rN,add_sub_cancel_left->iW,le_refl->aF,mul_one->bAM,sub_self->PG,zero_le->aJ
open Go.Proofs.Tryz renaming prog->aA
section
namespace Go.Proofs.T
open Go Go.AM Go.Proofs
variable{Γ:List (Nat×List AVal)}
attribute [local irreducible] gK del
attribute [local go_sem] tJ tE sH
def Lit{α:Type}(n:Nat)(f:α->List AVal)(R:List (List AVal)):Prop:=R.length=n/\∀i,i<n->∃a,R[i]? =some (f a)
theorem Lit.set {α:Type}{n:Nat}{f:α->List AVal}{R:List (List AVal)}(h:Lit n f R)(i:Nat)(a:α):Lit n f (R.set i (f a)):=by
 refine⟨by rw[PI];exact h.1,λ j hj=>?_⟩;rw[fY];by_cases e:i=j;.subst e;rw[if_pos rfl,if_pos (by rw[h.1];exact hj)];exact⟨a,rfl⟩
 rw[if_neg e];exact h.2 j hj
theorem aAA {α:Type}(n:Nat)(f:α->List AVal)(g:Nat->α):Lit n f ((aM n).map λ i=>f (g i)):=⟨sS,λ i hi=>⟨g i,by simp[hi]⟩⟩
theorem LT(q i:Int)(h0:0<=q)(h1:q<=10)(h2:0<=i)(h3:i<=1000):AM.Pure aA Γ 109 [q,i] (1000003*(q+7)+i:Int):=by refine aZ Tryz.func109 rfl 10 rfl bB rfl λ k=>?_;have kp:=fI k [0,1,4];refine bS ?_;refine aU (zs ?_);refine aX rfl ⟨_,rfl,aI ?_⟩;rfl
theorem aKC(i:Int)(h2:0<=i)(h3:i<=1000):AM.Pure aA Γ 110 [(7:Int),i] (.lit (.int .u64 (bN.wrap (bN.wrap (1000003*(7+7)+i)*11400714819323198485)))):=by
 have h:=LT (Γ:=Γ) 7 i oO oO h2 h3;obtain⟨z,ez⟩:∃z:Int,z=1000003*(7+7)+i:=⟨_,rfl⟩;rw[<-ez]at h⊢
 refine aZ Tryz.func110 rfl 10 rfl bB rfl λ k=>?_;have kp:=fI k [0,1,4];refine bS ?_;refine aU (zs ?_);refine lU [.ret z] ?_;refine aU (zs ?_);all_goals(try exact h)
 refine bS ?_;refine aU (zs ?_);refine aX rfl ⟨_,rfl,aI ?_⟩;rfl
theorem aWE(t:St)(n b k:Nat)(hb:b+21+t.ns<=k)(hg:t.ng<=1000)(hn:n<=1000)(hnt:t.nt<=1000)(hns:t.ns<=1000):AM.Tr aA Γ 47 k [.agg (sH b n t)] (oL b n t) (λ k1 r1 H1=>k1=k/\r1= .tup []/\H1=[]):=by
 refine AU (kk:=k) (V:= .tup []) (RH:=[]) (aF _) rfl rfl ?_;have i1:∀q,q<=20->b+q<k:=λ q hq=>oO;obtain⟨SR,eSR⟩:∃S:Nat->List (List AVal),S=λ g=>kI n (t.sp g):=⟨_,rfl⟩;have hSR:∀g,Lit n spc (SR g):=λ g=>by rw[eSR];exact aAA n spc (t.sp g)
 unfold oL;rw[<-eSR];clear eSR;refine iD Tryz.func47 rfl 91 rfl bB ?_;have kp:=fI k [0,1,2,3,4,5,6,7,13,28,41,54,68,78];have uU:= @i1;refine bS ?_;refine aU (zs ?_);refine bE (X:=Nat×List (List AVal)) rfl [0,1,2,3,4,5,6,7,13,28,41,54,68,78] (k+1) (λ x=>[(2,x.1)]) (λ x=>(k,⟨7,false,[sH b n t]⟩)::(b+16,⟨2,true,x.2⟩)::(b+17,⟨1,true,(fM n t.clk)⟩)::(b+18,⟨1,true,(fM n t.cur)⟩)::(b+19,⟨8,true,((mP t).map tR)⟩)::(b+20,⟨1,false,zJ (b+21) t.ns n t.ns⟩)::mK (b+21) 3 t.ns SR) (λ x=>x.1<=t.ng/\Lit t.ng jM x.2) (λ x=>t.ng-x.1) (0,gN t.ng t.par t.wt) ?_ ⟨aJ _,aAA t.ng jM (λ i=>(t.par i,t.wt i))⟩ ?_;.refine cQ ?_;apply zN;exact fH
 rintro⟨i,R⟩ ⟨hi,hR⟩;simp only at hi hR⊢
 by_cases hlt:i<t.ng
 .have hl:=hR.1;obtain⟨a,ha⟩:=hR.2 i hlt;simp only[jM]at ha;have hlt2:(i:Int)<(t.ng:Int):=oO;have hmk:=LT (Γ:=Γ) 3 (i:Int) oO oO oO oO;obtain⟨z,ez⟩:∃z:Int,z=1000003*(3+7)+(i:Int):=⟨_,rfl⟩;rw[<-ez]at hmk;have uU:=xY @hlt @hlt2 @hl @ha @i1;refine cQ ?_;apply zN;refine bS ?_;refine aU ⟨λ ht=>zN ?_⟩;refine mN [.ret z] ?_;refine aU (zs ?_);all_goals(try exact hmk)
  refine bS ?_;refine aU (zs ?_);refine⟨(i+1,R.set i ([(-77:Int),z])),⟨oO,hR.set i (-77,z)⟩,by simp only;omega,?_⟩;simp only;rw[(oO:((i+1:Nat):Int)=(i:Int)+1)];exact fH
 have hnlt:¬(i:Int)<(t.ng:Int):=oO;have uU:=zA @hnlt @i1;refine cQ ?_;apply zN;refine bS ?_;refine aU ⟨λ ht=>zN ?_⟩;clear hnlt hlt hi;obtain⟨GR,eGR⟩:∃x,x=R:=⟨_,rfl⟩;rw[<-eGR];clear eGR hR R;refine bE (X:=Nat×List (List AVal)) rfl [0,1,2,3,4,5,6,7,13,28,41,54,68,78] (k+1) (λ x=>[(3,x.1)]) (λ x=>(k,⟨7,false,[sH b n t]⟩)::(b+16,⟨2,true,GR⟩)::(b+17,⟨1,true,x.2⟩)::(b+18,⟨1,true,(fM n t.cur)⟩)::(b+19,⟨8,true,((mP t).map tR)⟩)::(b+20,⟨1,false,zJ (b+21) t.ns n t.ns⟩)::mK (b+21) 3 t.ns SR) (λ x=>x.1<=n/\Lit n nR x.2) (λ x=>n-x.1) (0,fM n t.clk) ?_ ⟨aJ _,aAA n nR t.clk⟩ ?_;.have uU:= @i1;refine cQ ?_;apply zN;exact fH
 rintro⟨i,R⟩ ⟨hi,hR⟩;simp only at hi hR⊢
 by_cases hlt:i<n
 .have hl:=hR.1;obtain⟨a,ha⟩:=hR.2 i hlt;simp only[nR]at ha;have hlt2:(i:Int)<(n:Int):=oO;have hmk:=LT (Γ:=Γ) 4 (i:Int) oO oO oO oO;obtain⟨z,ez⟩:∃z:Int,z=1000003*(4+7)+(i:Int):=⟨_,rfl⟩;rw[<-ez]at hmk;have uU:=xY @hlt @hlt2 @hl @ha @i1;refine cQ ?_;apply zN;refine bS ?_;refine aU ⟨λ ht=>zN ?_⟩;refine mN [.ret z] ?_;refine aU (zs ?_);all_goals(try exact hmk)
  refine bS ?_;refine aU (zs ?_);refine⟨(i+1,R.set i ([z])),⟨oO,hR.set i z⟩,by simp only;omega,?_⟩;simp only;rw[(oO:((i+1:Nat):Int)=(i:Int)+1)];exact fH
 have hnlt:¬(i:Int)<(n:Int):=oO;refine cQ ?_;apply zN;refine bS ?_;refine aU ⟨λ ht=>zN ?_⟩;clear hnlt hlt hi;obtain⟨KR,eKR⟩:∃x,x=R:=⟨_,rfl⟩;rw[<-eKR];clear eKR hR R;refine bE (X:=Nat×List (List AVal)) rfl [0,1,2,3,4,5,6,7,13,28,41,54,68,78] (k+1) (λ x=>[(4,x.1)]) (λ x=>(k,⟨7,false,[sH b n t]⟩)::(b+16,⟨2,true,GR⟩)::(b+17,⟨1,true,KR⟩)::(b+18,⟨1,true,x.2⟩)::(b+19,⟨8,true,((mP t).map tR)⟩)::(b+20,⟨1,false,zJ (b+21) t.ns n t.ns⟩)::mK (b+21) 3 t.ns SR) (λ x=>x.1<=n/\Lit n nR x.2) (λ x=>n-x.1) (0,fM n t.cur) ?_ ⟨aJ _,aAA n nR t.cur⟩ ?_;.have uU:= @i1;refine cQ ?_;apply zN;exact fH
 rintro⟨i,R⟩ ⟨hi,hR⟩;simp only at hi hR⊢
 by_cases hlt:i<n
 .have hl:=hR.1;obtain⟨a,ha⟩:=hR.2 i hlt;simp only[nR]at ha;have hlt2:(i:Int)<(n:Int):=oO;have hmk:=LT (Γ:=Γ) 5 (i:Int) oO oO oO oO;obtain⟨z,ez⟩:∃z:Int,z=1000003*(5+7)+(i:Int):=⟨_,rfl⟩;rw[<-ez]at hmk;have uU:=xY @hlt @hlt2 @hl @ha @i1;refine cQ ?_;apply zN;refine bS ?_;refine aU ⟨λ ht=>zN ?_⟩;refine mN [.ret z] ?_;refine aU (zs ?_);all_goals(try exact hmk)
  refine bS ?_;refine aU (zs ?_);refine⟨(i+1,R.set i ([z])),⟨oO,hR.set i z⟩,by simp only;omega,?_⟩;simp only;rw[(oO:((i+1:Nat):Int)=(i:Int)+1)];exact fH
 have hnlt:¬(i:Int)<(n:Int):=oO;refine cQ ?_;apply zN;refine bS ?_;refine aU ⟨λ ht=>zN ?_⟩;clear hnlt hlt hi;obtain⟨UR,eUR⟩:∃x,x=R:=⟨_,rfl⟩;rw[<-eUR];clear eUR hR R;refine bE (X:=Nat×List (List AVal)) rfl [0,1,2,3,4,5,6,7,13,28,41,54,68,78] (k+1) (λ x=>[(5,x.1)]) (λ x=>(k,⟨7,false,[sH b n t]⟩)::(b+16,⟨2,true,GR⟩)::(b+17,⟨1,true,KR⟩)::(b+18,⟨1,true,UR⟩)::(b+19,⟨8,true,x.2⟩)::(b+20,⟨1,false,zJ (b+21) t.ns n t.ns⟩)::mK (b+21) 3 t.ns SR) (λ x=>x.1<=t.nt/\Lit t.nt tR x.2) (λ x=>t.nt-x.1) (0,((aM t.nt).map λ i=>tR (t.tsk i))) ?_ ⟨aJ _,aAA t.nt tR t.tsk⟩ ?_;.rw[show(mP t).map tR=(aM t.nt).map λ i=>tR (t.tsk i)by unfold mP;rw[jD];rfl];have uU:= @i1;refine cQ ?_;apply zN;exact fH
 rintro⟨i,R⟩ ⟨hi,hR⟩;simp only at hi hR⊢
 by_cases hlt:i<t.nt
 .have hl:=hR.1;obtain⟨a,ha⟩:=hR.2 i hlt;simp only[tR]at ha;have hlt2:(i:Int)<(t.nt:Int):=oO;have hmk:=LT (Γ:=Γ) 6 (i:Int) oO oO oO oO;obtain⟨z,ez⟩:∃z:Int,z=1000003*(6+7)+(i:Int):=⟨_,rfl⟩;rw[<-ez]at hmk;have uU:=xY @hlt @hlt2 @hl @ha @i1;refine cQ ?_;apply zN;refine bS ?_;refine aU ⟨λ ht=>zN ?_⟩;refine mN [.ret z] ?_;refine aU (zs ?_);all_goals(try exact hmk)
  refine bS ?_;refine aU (zs ?_);refine⟨(i+1,R.set i ([z,(0:Int),(0:Int),(0:Int),.lit (.int .u64 0),false,.lit (.int .u64 0),.lit (.int .u32 0)])),⟨oO,hR.set i ⟨z,0,0,0,0,false,0,0⟩⟩,by simp only;omega,?_⟩;simp only;rw[(oO:((i+1:Nat):Int)=(i:Int)+1)];exact fH
 have hnlt:¬(i:Int)<(t.nt:Int):=oO;refine cQ ?_;apply zN;refine bS ?_;refine aU ⟨λ ht=>zN ?_⟩;clear hnlt hlt hi;obtain⟨TR,eTR⟩:∃x,x=R:=⟨_,rfl⟩;rw[<-eTR];clear eTR hR R;refine bE (X:=Nat×(Nat->List (List AVal))) rfl [0,1,2,3,4,5,6,7,13,28,41,54,68,78] (k+1) (λ x=>[(6,x.1)]) (λ x=>(k,⟨7,false,[sH b n t]⟩)::(b+16,⟨2,true,GR⟩)::(b+17,⟨1,true,KR⟩)::(b+18,⟨1,true,UR⟩)::(b+19,⟨8,true,TR⟩)::(b+20,⟨1,false,zJ (b+21) t.ns n t.ns⟩)::mK (b+21) 3 t.ns x.2) (λ x=>x.1<=t.ns/\∀g,Lit n spc (x.2 g)) (λ x=>t.ns-x.1) (0,SR) ?_ ⟨aJ _,hSR⟩ ?_;.have uU:= @i1;refine cQ ?_;apply zN;exact fH
 rintro⟨g,S⟩ ⟨hg1,hS⟩;simp only at hg1 hS⊢
 by_cases hgn:g<t.ns
 .have hgn2:(g:Int)<(t.ns:Int):=oO;have hco:=aDP (b:=b+21) (n:=n) hgn;rw[fS]at hco;have uU:=DP @hgn @hgn2 @hco @i1;refine cQ ?_;apply zN;refine bS ?_;refine aU ⟨λ ht=>zN ?_⟩;refine bE (X:=Nat×(Nat->List (List AVal))) rfl [0,1,2,3,4,5,6,7,13,28,41,54,68,78] (k+1) (λ x=>[(7,x.1)]) (λ x=>(k,⟨7,false,[sH b n t]⟩)::(b+16,⟨2,true,GR⟩)::(b+17,⟨1,true,KR⟩)::(b+18,⟨1,true,UR⟩)::(b+19,⟨8,true,TR⟩)::(b+20,⟨1,false,zJ (b+21) t.ns n t.ns⟩)::mK (b+21) 3 t.ns x.2) (λ x=>x.1<=n/\∀g,Lit n spc (x.2 g)) (λ x=>n-x.1) (0,S) ?_ ⟨aJ _,hS⟩ ?_;.refine cQ ?_;apply zN;exact fH
  rintro⟨i,S2⟩ ⟨hi,hS2⟩;simp only at hi hS2⊢
  by_cases hlt:i<n
  .have hl:=(hS2 g).1;obtain⟨a,ha⟩:=(hS2 g).2 i hlt;simp only[spc]at ha;have hlt2:(i:Int)<(n:Int):=oO;have hmk:=aKC (Γ:=Γ) (i:Int) oO oO;obtain⟨z,ez⟩:∃z:Int,z=bN.wrap (bN.wrap (1000003*(7+7)+(i:Int))*11400714819323198485):=⟨_,rfl⟩;rw[<-ez]at hmk;have uU:=qW @hgn @hgn2 @hco @hlt @hlt2 @hl @ha @i1;refine cQ ?_;apply zN;refine bS ?_;refine aU ⟨λ ht=>zN ?_⟩;refine mN [.ret (.lit (.int .u64 z))] ?_;refine aU (zs ?_);all_goals(try exact hmk)
   refine bS ?_;refine aU (zs ?_);refine⟨(i+1,λ j=>if j=g then(S2 g).set i [.lit (.int .u64 z),.lit (.int .u32 0),.lit (.int .u64 0)]else S2 j),⟨oO,λ j=>?_⟩,by simp only;omega,?_⟩
   .simp only;split;.exact(hS2 g).set i ⟨z,0,0⟩
    exact hS2 j
   simp only;rw[(oO:((i+1:Nat):Int)=(i:Int)+1)];exact fH
  have hnlt:¬(i:Int)<(n:Int):=oO;have uU:=xY @hgn @hgn2 @hco @hnlt @i1;refine cQ ?_;apply zN;refine bS ?_;refine aU ⟨λ ht=>zN ?_⟩;refine⟨(g+1,S2),⟨oO,hS2⟩,by simp only;omega,?_⟩;simp only;rw[(oO:((g+1:Nat):Int)=(g:Int)+1)];exact fH
 have hnlt:¬(g:Int)<(t.ns:Int):=oO;refine cQ ?_;apply zN;refine bS ?_;refine aU ⟨λ ht=>zN ?_⟩;exact⟨_,rfl,rfl⟩
end Go.Proofs.T
end
