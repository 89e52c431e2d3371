import Derived.Test.YteimiejbhhgljaaGreatDoorZAQ
set_option linter.unusedVariables false
set_option linter.unusedSimpArgs false
set_option maxHeartbeats 0
set_option maxRecDepth 100000
open Bool renaming and_eq_true->aC,eq_iff_iff->aY,false_eq_true->aO,not_eq_true'->aT,or_eq_true->bH,true_eq_false->bM
open Int renaming ediv_nonneg->PJ,fdiv_eq_ediv_of_nonneg->dL,pow_nonneg->qN
open Go.IntKind renaming i64->aN
open List renaming getD_eq_getElem?_getD->bD,getElem_mem->bKH,map->jL,map_append->aH,map_cons->bG,map_map->jD,map_nil->aV,range->aM,range_succ->CI
open Nat renaming add_assoc->fS,add_sub_cancel->rN,add_sub_cancel_left->iW,le_refl->aF,mul_one->bAM,not_lt_zero->bJ,sub_self->PG,zero_le->aJ
open Go.Proofs.Tryz renaming prog->aA
open Go.Value renaming bool->mG
section
namespace Go.Proofs.T
open Go Go.AM Go.Proofs
variable{Γ:List (Nat×List AVal)}
def bGB (L:LSt)(i:Nat):LSt:={L with tl:=L.tl.eraseIdx i}
theorem a1K(x:Int)(n:Nat)(h1:1<=n)(h2:n<=64)(hx:0<=x)(hx2:x<18446744073709551616):Pure aA Γ 160 [.lit (.int .u64 x),n] (decide (x/2^n≠0)):=by
 obtain⟨q,rfl⟩:∃q,n=q+1:=⟨n-1,oO⟩;have e1:aN.wrap ((q:Int)+1-1)=(q:Int):=by rw[wrap_i64 oO oO];omega
 have hp0:0<=x/2^q:=PJ hx (qN oO);have e2:x.fdiv (2^min q 64)=x/2^q:=by rw[(oO:min q 64=q),dL _ (qN oO)]
 have e3:(x/2^q).fdiv (2^min 1 64)=x/2^(q+1):=by rw[show(2:Int)^min 1 64=2 from rfl,dL _ oO,Int.ediv_ediv_of_nonneg (qN oO),Int.pow_succ]
 have e4:((q:Int)<0)=False:=eq_false oO;refine aZ Tryz.func160 rfl 11 rfl bB rfl λ k=>?_;have kp:=fI k [0,1,4];have uU:=DP @e1 @e2 @e3 @e4;refine IS ?_;refine aU (zs ?_);refine aX rfl ⟨_,rfl,aI ?_⟩;simp;rw[aY];simp
theorem apC{α:Type}{a:α}{l m:List α}:List.append (a::l) m=a::List.append l m:=rfl
theorem apE{α:Type}{m:List α}:List.append [] m=m:=rfl
section
variable{P:Program}{nt kb:Nat}{Q:AQ}{k:Nat}{fr:Fr}{H:aS}{c:Code}{p:List Nat}
theorem aUU{id:Nat}{l l':List Oper}(hc:fR c p= .region id l.toArray false)(hl:l=l')(keep:List Nat)(cs:List Orc)(hd:mM nt l'.toArray=true)
 (h:∀K:List Foot->Nat->Fr->aS->Prop,(∀tr k' fr' H',(kb<=k'->Q .normal k' (kA keep fr') H')->K tr k' fr' H')->DN P Γ l'.toArray l' cs k fr H K .mk):AM.W P Γ nt kb (fR c p) Q k fr H:=by subst hl;exact iF hc keep cs hd h
end
def ckB(s:St)(i:Nat):Bool:=decide (s.clk i<0\/281474976710656<s.clk i)
theorem a9V(t:Int):AM.Pure aA Γ 132 [t] (decide (t<0\/281474976710656<t)):=by
 refine aZ Tryz.func132 rfl 9 rfl bB rfl λ k=>?_;have kp:=fI k [0,2];refine wl ?_;refine dD ⟨⟨λ hg=>⟨?_⟩⟩⟩ ⟨⟨λ hg=>⟨?_⟩⟩⟩;all_goals(refine aX rfl ⟨_,rfl,aI ?_⟩)
 all_goals(simp only[AVal.lit.injEq,mG.injEq];rw[aY];simp only[beq_iff_eq,bne_iff_ne,ne_eq,dTt,dFn,aC,bH,aT,beq_eq_false_iff_ne,aO,bM,true_iff,false_iff,iff_true,iff_false];omega)
theorem a9W(s:St)(n:Nat)(hn:n<=1000):AM.Pure aA Γ 210 [.rd 1 n (kf s),.fn 132 []] (xF (ckB s) n):=by
 refine aZ Tryz.func210 rfl 19 rfl bB rfl λ k=>?_;have kp:=fI k [0,1,4,5,7,8,9,16];refine wl ?_;refine aU (zs ?_);refine bE (X:=Nat) rfl [0,1,4,5,7,8,9,16] k (λ i=>[(8,i)]) (λ i=>[]) (λ i=>i<=n/\∀j,j<i->ckB s j=false) (λ i=>n-i) 0 ?_ ⟨aJ _,λ j hj=>absurd hj (bJ _)⟩ ?_;.refine rR ?_;apply zN;exact fW
 rintro i ⟨hi,hall⟩;refine rR ?_;apply zN;refine wl ?_;refine dD ⟨λ ht=>zN ?_⟩ ⟨λ ht=>zN ?_⟩
 .refine cl [.ret (ckB s i)] ?_;refine dD (zs ?_) (zs ?_);.exact a9V (s.clk i)
  refine wl ?_;refine dD ⟨λ ht=>zN ?_⟩ ⟨λ ht=>zN ?_⟩;.refine aX rfl ⟨_,rfl,aI ?_⟩;rw[xF,vU hall ht oO]
  refine⟨i+1,⟨oO,λ j hj=>?_⟩,oO,?_⟩
  .by_cases he:j=i;.subst he;exact ht
   exact hall j oO
  refine rR ?_;apply zN;exact fW
 refine aX rfl ⟨_,rfl,aI ?_⟩;rw[xF,sU (λ j hj=>hall j oO)]
theorem a9X(s:St)(n:Nat)(hn:n<=1000):AM.Pure aA Γ 131 [.rd 1 n (kf s),.fn 132 []] (jI (ckB s) n):=by
 refine aZ Tryz.func131 rfl 9 rfl bB rfl λ k=>?_;have kp:=fI k [0,1,4];refine wl ?_;refine aU (zs ?_);refine cl [.ret (xF (ckB s) n)] ?_;refine dD (zs ?_) (zs ?_);.exact a9W s n hn
 refine aX rfl ⟨_,rfl,aI ?_⟩;rw[JQ]
def TC(s:St)(n:Nat)(t:Tk):Bool:=decide (1<=t.id/\t.id<=65535/\0<=t.group/\t.group<s.ns/\0<=t.cpu/\t.cpu<n/\(1<=t.weight/\t.weight<=65536)/\t.mask/2^n=0/\t.mask/2^t.cpu.toNat%2=1/\yP t.v t.r t.weight=true)
theorem aJI(s:St)(t:Tk)(n:Nat)(h1:1<=n)(h2:n<=64)(hc:s.cpus=n)(hm0:0<=t.mask)(hm1:t.mask<18446744073709551616)(hns:s.ns<=1000):
 AM.Pure aA Γ 135 [.agg s.cells,.agg (tkc t)] (TC s n t):=by
 obtain⟨T,eT⟩:∃T,T=tkc t:=⟨_,rfl⟩;obtain⟨RV,eRV⟩:∃v,v=AVal.lit (.bool (TC s n t)):=⟨_,rfl⟩;rw[<-eRV];refine aZ Tryz.func135 rfl 72 rfl bB (by rw[eRV];rfl) λ k=>?_;by_cases hcp:0<=t.cpu/\t.cpu<n
 .have hneg:(t.cpu<0)=False:=eq_false oO;have hmb:=aPT (x:=t.mask) (c:=t.cpu) hm0 hm1 hcp.1 oO;have hw:=aFU t.weight (Γ:=Γ);have hwd:=a1K t.mask n h1 h2 hm0 hm1 (Γ:=Γ);have kp:=fI k [0,1,2,3,4];have uU:=qQ @hc @tkc.eq_1 @apC @apE @hneg @hmb;refine wl ?_;refine aU (zs ?_);refine aUU (l':=?l) rfl ?hl [0,1,2,3,4] [.ret (decide (1<=t.weight/\t.weight<=65536)),.ret (decide (t.mask/2^n≠0)),.ret (qS t.v t.r t.weight),.ret (yP t.v t.r t.weight)] ?hd (λ K hK=>?h);case hl=>simp only[apC,apE];(try rfl)
  case hd=>rfl
  refine rR ?_;apply zN;((repeat'(first|(refine And.intro ?_ ?_)|(refine iI (λ hb=>?_) (λ hb=>?_)<;>(have hg:=hb;(try simp only[QH]at hg);simp-dsimp-implicitDefEqProofs only[go_sem,hc,tkc,apC,apE,hneg,hmb,hb,hg,eq_self,↓reduceIte];clear hb;(try simp only[QG]at hg))))));all_goals(try(first|exact hw|exact hwd))
  all_goals(try(exact TG _ _ _ oO oO))
  all_goals(try(exact vV _ _ _ oO oO))
  any_goals (refine hK _ _ _ _ (λ hx=>?_))
  all_goals(try(clear hx hK))
  all_goals(try(simp-dsimp-implicitDefEqProofs only[go_sem,hc,tkc,apC,apE,hneg,hmb,eq_self,↓reduceIte]))
  all_goals(refine aX rfl ⟨_,rfl,?_⟩)
  all_goals(rw[eRV];refine aI ?_;simp only[TC])
  all_goals(first
   |(rw[decide_eq_false (λ h=>by obtain⟨a1,a2,a3,a4,a5,a6,a7,a8,a9,a10⟩:=h;first|omega|exact hg a8|exact hg a7|exact hg a9)])
   |(congr 2;rw[aY,dTt];exact⟨λ h=>⟨by assumption,by assumption,by assumption,by assumption,by assumption,by assumption,by assumption,Classical.byContradiction (by assumption),by assumption,h⟩,λ h=>h.2.2.2.2.2.2.2.2.2⟩))
 skip
 have hw:=aFU t.weight (Γ:=Γ);have hwd:=a1K t.mask n h1 h2 hm0 hm1 (Γ:=Γ);have kp:=fI k [0,1,2,3,4];have uU:=xY @hc @tkc.eq_1 @apC @apE @aF;refine wl ?_;refine aU (zs ?_);refine aUU (l':=?l) rfl ?hl [0,1,2,3,4] [.ret (decide (1<=t.weight/\t.weight<=65536)),.ret (decide (t.mask/2^n≠0)),.ret (qS t.v t.r t.weight),.ret (yP t.v t.r t.weight)] ?hd (λ K hK=>?h);case hl=>simp only[apC,apE];(try rfl)
 case hd=>rfl
 refine rR ?_;apply zN;((repeat'(first|(refine And.intro ?_ ?_)|(refine iI (λ hb=>?_) (λ hb=>?_)<;>(have hg:=hb;(try simp only[QH]at hg);simp-dsimp-implicitDefEqProofs only[go_sem,hc,tkc,apC,apE,aF,hb,hg,eq_self,↓reduceIte];clear hb;(try simp only[QG]at hg))))));all_goals(try(exfalso;omega))
 all_goals(try(first|exact hw|exact hwd))
 all_goals(try(exact TG _ _ _ oO oO))
 all_goals(try(exact vV _ _ _ oO oO))
 any_goals (refine hK _ _ _ _ (λ hx=>?_))
 all_goals(try(clear hx hK))
 all_goals(try(simp-dsimp-implicitDefEqProofs only[go_sem,hc,tkc,apC,apE,aF,eq_self,↓reduceIte]))
 all_goals(refine aX rfl ⟨_,rfl,?_⟩)
 all_goals(rw[eRV];refine aI ?_;simp only[TC])
 all_goals(first
  |(rw[decide_eq_false (λ h=>by obtain⟨a1,a2,a3,a4,a5,a6,a7,a8,a9,a10⟩:=h;first|omega|exact hg a8|exact hg a7|exact hg a9)])
  |(congr 2;rw[aY,dTt];exact⟨λ h=>⟨by assumption,by assumption,by assumption,by assumption,by assumption,by assumption,by assumption,Classical.byContradiction (by assumption),by assumption,h⟩,λ h=>h.2.2.2.2.2.2.2.2.2⟩))
end Go.Proofs.T
end
