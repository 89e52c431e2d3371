import Derived.Test.YteimiejbhhgljaaGreatDoorZAP
set_option linter.unusedVariables false
set_option linter.unusedSimpArgs false
set_option maxHeartbeats 0
set_option maxRecDepth 100000
open Bool renaming and_eq_true->aC,and_false->qP,and_true->qO,eq_false_iff->dS,false_and->kD,true_and->kQ,true_or->yV
open Int renaming ediv_nonneg->PJ,fdiv_eq_ediv_of_nonneg->dL,le_refl->fA,pow_nonneg->qN,toNat_natCast->gX
open Go.IntKind renaming i64->aN,u32->jF
open List renaming all_cons->hY,all_eq_true->aW,cons_append->dQ,eq_nil_of_length_eq_zero->fL,getD_eq_getElem?_getD->bD,getElem?_cons_zero->iX,getElem_mem->bKH,length_map->bP,map->jL,map_append->aH,map_congr_left->gB,map_cons->bG,map_map->jD,map_nil->aV,mem_map->cL,mem_range->dO,nil_append->cN,range->aM,range_succ->CI,replicate->eI
open Nat renaming add_assoc->fS,add_sub_cancel->rN,add_sub_cancel_left->iW,eq_zero_or_pos->jJ,le_refl->aF,mul_one->bAM,not_lt_zero->bJ,sub_self->PG,zero_le->aJ
open Option renaming some->mB
open Go.Proofs.Tryz renaming prog->aA
section
namespace Go.Proofs.T
open Go Go.AM Go.Proofs
variable{Γ:List (Nat×List AVal)}
attribute [local irreducible] gK del
theorem JW(p:Prop):∃x:Bool,x=true↔p:=⟨@decide p (Classical.propDecidable p),sS⟩
theorem a4G(s:St)(hs:s.Small)(hid:zI s)(hrect:a5R s)(d:DE)(hd:d.size<=100000)(b:Bool)(hb:b=true↔FitD s (lI d)):AM.Pure aA Γ 106 [.agg s.cells,.agg d.cells] b:=by
 obtain⟨hng,hnk,hnu,hnt,hns,hnsp⟩:=id hs;obtain⟨hr1,hr2⟩:=hrect;unfold DE.size at hd;rw[fitD_iff]at hb
 have hno:¬((∀j,j<d.n0->CA s.nk s.clk d.ck j)/\(∀j,j<d.n1->CA s.nk s.cur d.cu j)/\(∀j,j<d.n2->CA s.ng s.wt d.wg j)/\(∀j,j<d.n3->XE s d j)/\(∀j,j<d.n4->IV s d j)/\∀j,j<d.n5->LI s d j)->b=false:=λ h=>by
  cases hb':b with
  |false=>rfl
  |true=>exact absurd (hb.1 hb') h
 obtain⟨v0,h0⟩:=JW (∀j,j<d.n0->CA s.nk s.clk d.ck j);obtain⟨v1,h1⟩:=JW (∀j,j<d.n1->CA s.nk s.cur d.cu j);obtain⟨v2,h2⟩:=JW (∀j,j<d.n2->CA s.ng s.wt d.wg j);have c0:AM.Pure aA Γ 185 [.rd 2 d.n0 d.f0,.rd 1 s.nk (kf s)] v0:=KE s.nk s.clk d.n0 d.ck oO oO v0 h0;have c1:AM.Pure aA Γ 185 [.rd 2 d.n1 d.f1,.rd 1 s.nu (uf s)] v1:=by rw[hr1];exact KE s.nk s.cur d.n1 d.cu oO oO v1 h1
 have cw:=PP (Γ:=Γ) s hng;obtain⟨WF,eWF⟩:∃F:Nat->List AVal,F=λ i=>[.lit (.int .i64 (s.wt i))]:=⟨_,rfl⟩;have c2:AM.Pure aA Γ 185 [.rd 2 d.n2 d.f2,.rd 1 s.ng WF] v2:=by rw[eWF];exact KE s.ng s.wt d.n2 d.wg oO oO v2 h2
 rw[<-eWF]at cw;refine aZ Tryz.func106 rfl 225 rfl bB rfl λ k=>?_
 cases v0 with
 |false=>
  have hbf:=hno λ h=>by have:=h0.2 h.1;cases this
  have kp:=fI k [0,1,2,3,4,5,7,9,10,11,12,13,14,36,41,74,86,91,135,140,186,224];refine bS ?_;refine aU (zs ?_);refine mN [.ret false] ?_;refine aU (zs ?_);all_goals(try exact c0)
  refine bS ?_;refine aU ⟨λ ht=>zN ?_⟩;refine aX rfl ⟨_,rfl,aI ?_⟩;rw[hbf]
 |true=>
 cases v1 with
 |false=>
  have hbf:=hno λ h=>by have:=h1.2 h.2.1;cases this
  have kp:=fI k [0,1,2,3,4,5,7,9,10,11,12,13,14,36,41,74,86,91,135,140,186,224];refine bS ?_;refine aU (zs ?_);refine mN [.ret true,.ret false] ?_;refine aU (zs ?_);all_goals(try(first|exact c0|exact c1))
  refine bS ?_;refine aU ⟨λ ht=>zN ?_⟩;refine aX rfl ⟨_,rfl,aI ?_⟩;rw[hbf]
 |true=>
 cases v2 with
 |false=>
  have hbf:=hno λ h=>by have:=h2.2 h.2.2.1;cases this
  have kp:=fI k [0,1,2,3,4,5,7,9,10,11,12,13,14,36,41,74,86,91,135,140,186,224];refine bS ?_;refine aU (zs ?_);refine mN [.ret true,.ret true,.ret (.rd 1 s.ng WF),.ret false] ?_;refine dD (zs ?_) (zs ?_);all_goals(try(first|exact c0|exact c1|exact c2|exact cw))
  refine bS ?_;refine aU ⟨λ ht=>zN ?_⟩;refine aX rfl ⟨_,rfl,aI ?_⟩;rw[hbf]
 |true=>
 have g0:=h0.1 rfl;have g1:=h1.1 rfl;have g2:=h2.1 rfl;clear h0 h1 h2;have kp:=fI k [0,1,2,3,4,5,7,9,10,11,12,13,14,36,41,74,86,91,135,140,186,224];refine bS ?_;refine aU (zs ?_);refine mN [.ret true,.ret true,.ret (.rd 1 s.ng WF),.ret true] ?_;refine dD (zs ?_) (zs ?_);all_goals(try(first|exact c0|exact c1|exact c2|exact cw))
 refine bS ?_;refine aU ⟨λ ht=>zN ?_⟩;clear c0 c1 c2 cw;refine bE (X:=Nat) rfl [0,1,2,3,4,5,7,9,10,11,12,13,14,36,41,74,86,91,135,140,186,224] (k+2) (λ i=>[(5,i)]) (λ i=>[(k+1,⟨6,true,[d.cells]⟩),(k,⟨7,true,[s.cells]⟩)]) (λ i=>i<=d.n3/\∀j,j<i->XE s d j) (λ i=>d.n3-i) 0 ?_ ⟨aJ _,λ j hj=>absurd hj (bJ _)⟩ ?_;.refine cQ ?_;apply zN;exact fH
 rintro i ⟨hi,hall⟩;by_cases hlt:i<d.n3
 .have hno3:¬XE s d i->b=false:=λ h=>hno λ h'=>h (h'.2.2.2.1 i hlt);obtain⟨x,ex⟩:∃x,x=d.gn i:=⟨_,rfl⟩;have ex':=ex.symm;have hfa:=AJ (Γ:=Γ) s.nt oO s.tsk x;have hft:=AJ (Γ:=Γ) d.n4 oO d.tk x;have hia:(IG s.tsk s.nt x).isSome=true↔qR (mP s) (d.gn i):=by rw[<-ex];exact JR
  have hit:(IG d.tk d.n4 x).isSome=true↔qR (pre d.tk d.n4) (d.gn i):=by rw[<-ex];exact JR
  obtain⟨A,eA⟩:∃t,t=GY s.tsk s.nt x:=⟨_,rfl⟩;obtain⟨B,eB⟩:∃t,t=GY d.tk d.n4 x:=⟨_,rfl⟩;obtain⟨za,eza⟩:∃z,z=(IG s.tsk s.nt x).isSome:=⟨_,rfl⟩;obtain⟨yt,eyt⟩:∃z,z=(IG d.tk d.n4 x).isSome:=⟨_,rfl⟩;rw[<-eza]at hia hfa;rw[<-eyt]at hit hft;rw[<-eA]at hfa;rw[<-eB]at hft;simp only[tR]at hfa hft;have hlt2:(i:Int)<(d.n3:Int):=oO
  cases za with
  |false=>
   have hbf:=hno3 λ h=>by have:=hia.2 h.1;cases this
   have uU:=AW @hlt @hlt2 @ex';refine cQ ?_;apply zN;refine bS ?_;refine aU ⟨λ ht=>zN ?_⟩;refine mN [.ret (.tup [.agg [A.id,A.group,A.weight,A.cpu,.lit (.int .u64 A.mask),A.ready,.lit (.int .u64 A.v),.lit (.int .u32 A.r)],false])] ?_;refine dD (zs ?_) (zs ?_);all_goals(try exact hfa)
   refine bS ?_;refine aU ⟨λ ht=>zN ?_⟩;refine aX rfl ⟨_,rfl,aI ?_⟩;rw[hbf]
  |true=>
   by_cases hi0:i=0
   .have hi0':¬(0:Int)<(i:Int):=oO
    cases yt with
    |true=>
     have hbf:=hno3 λ h=>h.2.2 (hit.1 rfl);have uU:=DP @hlt @hlt2 @ex' @hi0';refine cQ ?_;apply zN;refine bS ?_;refine aU ⟨λ ht=>zN ?_⟩;refine mN [.ret (.tup [.agg [A.id,A.group,A.weight,A.cpu,.lit (.int .u64 A.mask),A.ready,.lit (.int .u64 A.v),.lit (.int .u32 A.r)],true])] ?_;refine dD (zs ?_) (zs ?_);all_goals(try exact hfa)
     refine bS ?_;refine aU ⟨λ ht=>zN ?_⟩;refine mN [.ret (.tup [.agg [B.id,B.group,B.weight,B.cpu,.lit (.int .u64 B.mask),B.ready,.lit (.int .u64 B.v),.lit (.int .u32 B.r)],true])] ?_;refine dD (zs ?_) (zs ?_);all_goals(try exact hft)
     refine bS ?_;refine aU ⟨λ ht=>zN ?_⟩;refine aX rfl ⟨_,rfl,aI ?_⟩;rw[hbf]
    |false=>
     have hok:XE s d i:=⟨hia.1 rfl,λ h=>absurd h oO,λ h=>by have:=hit.2 h;cases this⟩;have uU:=DP @hlt @hlt2 @ex' @hi0';refine cQ ?_;apply zN;refine bS ?_;refine aU ⟨λ ht=>zN ?_⟩;refine mN [.ret (.tup [.agg [A.id,A.group,A.weight,A.cpu,.lit (.int .u64 A.mask),A.ready,.lit (.int .u64 A.v),.lit (.int .u32 A.r)],true])] ?_;refine dD (zs ?_) (zs ?_);all_goals(try exact hfa)
     refine bS ?_;refine aU ⟨λ ht=>zN ?_⟩;refine mN [.ret (.tup [.agg [B.id,B.group,B.weight,B.cpu,.lit (.int .u64 B.mask),B.ready,.lit (.int .u64 B.v),.lit (.int .u32 B.r)],false])] ?_;refine dD (zs ?_) (zs ?_);all_goals(try exact hft)
     refine bS ?_;refine aU ⟨λ ht=>zN ?_⟩;refine⟨i+1,⟨oO,λ j hj=>?_⟩,oO,?_⟩
     .by_cases hj2:j=i;.rw[hj2];exact hok
      exact hall j oO
     rw[(oO:((i+1:Nat):Int)=(i:Int)+1)];exact fH
   have hi0':(0:Int)<(i:Int):=oO;have wp:aN.wrap ((i:Int)-1)=((i-1:Nat):Int):=by rw[dA oO oO];omega
   have bp:i-1<d.n3:=oO;obtain⟨px,ep⟩:∃p,p=d.gn (i-1):=⟨_,rfl⟩;have ep':=ep.symm;by_cases hle:x<=px
   .have hbf:=hno3 λ h=>by have:=h.2.1 oO;omega
    have uU:=qW @hlt @hlt2 @ex' @hi0' @wp @bp @ep' @hle;refine cQ ?_;apply zN;refine bS ?_;refine aU ⟨λ ht=>zN ?_⟩;refine mN [.ret (.tup [.agg [A.id,A.group,A.weight,A.cpu,.lit (.int .u64 A.mask),A.ready,.lit (.int .u64 A.v),.lit (.int .u32 A.r)],true])] ?_;refine dD (zs ?_) (zs ?_);all_goals(try exact hfa)
    refine bS ?_;refine aU ⟨λ ht=>zN ?_⟩;refine aX rfl ⟨_,rfl,aI ?_⟩;rw[hbf]
   have hle':¬x<=px:=hle
   cases yt with
   |true=>
    have hbf:=hno3 λ h=>h.2.2 (hit.1 rfl);have uU:=qW @hlt @hlt2 @ex' @hi0' @wp @bp @ep' @hle';refine cQ ?_;apply zN;refine bS ?_;refine aU ⟨λ ht=>zN ?_⟩;refine mN [.ret (.tup [.agg [A.id,A.group,A.weight,A.cpu,.lit (.int .u64 A.mask),A.ready,.lit (.int .u64 A.v),.lit (.int .u32 A.r)],true])] ?_;refine dD (zs ?_) (zs ?_);all_goals(try exact hfa)
    refine bS ?_;refine aU ⟨λ ht=>zN ?_⟩;refine mN [.ret (.tup [.agg [B.id,B.group,B.weight,B.cpu,.lit (.int .u64 B.mask),B.ready,.lit (.int .u64 B.v),.lit (.int .u32 B.r)],true])] ?_;refine dD (zs ?_) (zs ?_);all_goals(try exact hft)
    refine bS ?_;refine aU ⟨λ ht=>zN ?_⟩;refine aX rfl ⟨_,rfl,aI ?_⟩;rw[hbf]
   |false=>
    have hok:XE s d i:=⟨hia.1 rfl,λ h=>by rw[<-ex,<-ep];omega,λ h=>by have:=hit.2 h;cases this⟩;have uU:=qW @hlt @hlt2 @ex' @hi0' @wp @bp @ep' @hle';refine cQ ?_;apply zN;refine bS ?_;refine aU ⟨λ ht=>zN ?_⟩;refine mN [.ret (.tup [.agg [A.id,A.group,A.weight,A.cpu,.lit (.int .u64 A.mask),A.ready,.lit (.int .u64 A.v),.lit (.int .u32 A.r)],true])] ?_;refine dD (zs ?_) (zs ?_);all_goals(try exact hfa)
    refine bS ?_;refine aU ⟨λ ht=>zN ?_⟩;refine mN [.ret (.tup [.agg [B.id,B.group,B.weight,B.cpu,.lit (.int .u64 B.mask),B.ready,.lit (.int .u64 B.v),.lit (.int .u32 B.r)],false])] ?_;refine dD (zs ?_) (zs ?_);all_goals(try exact hft)
    refine bS ?_;refine aU ⟨λ ht=>zN ?_⟩;refine⟨i+1,⟨oO,λ j hj=>?_⟩,oO,?_⟩
    .by_cases hj2:j=i;.rw[hj2];exact hok
     exact hall j oO
    rw[(oO:((i+1:Nat):Int)=(i:Int)+1)];exact fH
 have hin:i=d.n3:=oO;have hnlt:¬(i:Int)<(d.n3:Int):=oO;rw[hin]at hall;have g3:=hall;clear hall;have uU:= @hnlt;refine cQ ?_;apply zN;refine bS ?_;refine aU ⟨λ ht=>zN ?_⟩;clear hin hnlt hlt hi;refine bE (X:=Nat) rfl [0,1,2,3,4,5,7,9,10,11,12,13,14,36,41,74,86,91,135,140,186,224] (k+2) (λ i=>[(10,i)]) (λ i=>[(k+1,⟨6,true,[d.cells]⟩),(k,⟨7,true,[s.cells]⟩)]) (λ i=>i<=d.n4/\∀j,j<i->IV s d j) (λ i=>d.n4-i) 0 ?_ ⟨aJ _,λ j hj=>absurd hj (bJ _)⟩ ?_;.have uU:=Go.AM.uU;refine cQ ?_;apply zN;exact fH
 rintro i ⟨hi,hall⟩;by_cases hlt:i<d.n4
 .have hno3:¬IV s d i->b=false:=λ h=>hno λ h'=>h (h'.2.2.2.2.1 i hlt);obtain⟨t,et⟩:∃t,t=d.tk i:=⟨_,rfl⟩;have et':=et.symm;have hfa:=AJ (Γ:=Γ) s.nt oO s.tsk t.id;have hmem:=aXD hid t;obtain⟨A,eA⟩:∃t',t'=GY s.tsk s.nt t.id:=⟨_,rfl⟩;obtain⟨za,eza⟩:∃z,z=(IG s.tsk s.nt t.id).isSome:=⟨_,rfl⟩;rw[<-eA,<-eza]at hfa hmem;simp only[tR]at hfa;have hlt2:(i:Int)<(d.n4:Int):=oO;obtain⟨q,eq⟩:∃q,q=cT A t:=⟨_,rfl⟩;have hq:q=true↔A=t:=by rw[eq];exact cT_iff
  have hin2:t∈mP s↔za=true/\q=true:=by rw[hmem,hq]
  have hti:IV s d i↔¬(za=true/\q=true)/\(0<i->(d.tk (i-1)).id<t.id):=by unfold IV;rw[<-et,hin2]
  have hqe:=eq.symm;unfold cT at hqe
  cases za with
  |false=>
   by_cases hi0:i=0
   .have hi0':¬(0:Int)<(i:Int):=oO;have hok:IV s d i:=hti.2 ⟨λ h=>absurd h.1 sS,λ h=>absurd h oO⟩;have uU:=DP @hlt @hlt2 @et' @hi0';refine cQ ?_;apply zN;refine bS ?_;refine aU ⟨λ ht=>zN ?_⟩;refine mN [.ret (.tup [.agg [A.id,A.group,A.weight,A.cpu,.lit (.int .u64 A.mask),A.ready,.lit (.int .u64 A.v),.lit (.int .u32 A.r)],false])] ?_;refine dD (zs ?_) (zs ?_);all_goals(try exact hfa)
    refine bS ?_;refine aU ⟨λ ht=>zN ?_⟩;refine⟨i+1,⟨oO,λ j hj=>?_⟩,oO,?_⟩
    .by_cases hj2:j=i;.rw[hj2];exact hok
     exact hall j oO
    rw[(oO:((i+1:Nat):Int)=(i:Int)+1)];exact fH
   have hi0':(0:Int)<(i:Int):=oO;have wp:aN.wrap ((i:Int)-1)=((i-1:Nat):Int):=by rw[dA oO oO];omega
   have bp:i-1<d.n4:=oO;obtain⟨pt,ep⟩:∃p,p=d.tk (i-1):=⟨_,rfl⟩;have ep':=ep.symm;rw[<-ep]at hti;by_cases hle:t.id<=pt.id
   .have hbf:=hno3 λ h=>by have:=(hti.1 h).2 oO;omega
    have uU:=qW @hlt @hlt2 @et' @hi0' @wp @bp @ep' @hle;refine cQ ?_;apply zN;refine bS ?_;refine aU ⟨λ ht=>zN ?_⟩;refine mN [.ret (.tup [.agg [A.id,A.group,A.weight,A.cpu,.lit (.int .u64 A.mask),A.ready,.lit (.int .u64 A.v),.lit (.int .u32 A.r)],false])] ?_;refine dD (zs ?_) (zs ?_);all_goals(try exact hfa)
    refine bS ?_;refine aU ⟨λ ht=>zN ?_⟩;refine aX rfl ⟨_,rfl,aI ?_⟩;rw[hbf]
   have hle':¬t.id<=pt.id:=hle;have hok:IV s d i:=hti.2 ⟨λ h=>absurd h.1 sS,λ h=>oO⟩;have uU:=qW @hlt @hlt2 @et' @hi0' @wp @bp @ep' @hle';refine cQ ?_;apply zN;refine bS ?_;refine aU ⟨λ ht=>zN ?_⟩;refine mN [.ret (.tup [.agg [A.id,A.group,A.weight,A.cpu,.lit (.int .u64 A.mask),A.ready,.lit (.int .u64 A.v),.lit (.int .u32 A.r)],false])] ?_;refine dD (zs ?_) (zs ?_);all_goals(try exact hfa)
   refine bS ?_;refine aU ⟨λ ht=>zN ?_⟩;refine⟨i+1,⟨oO,λ j hj=>?_⟩,oO,?_⟩
   .by_cases hj2:j=i;.rw[hj2];exact hok
    exact hall j oO
   rw[(oO:((i+1:Nat):Int)=(i:Int)+1)];exact fH
  |true=>
   cases q with
   |true=>
    have hbf:=hno3 λ h=>(hti.1 h).1 ⟨rfl,rfl⟩;have uU:=DP @hlt @hlt2 @et' @hqe;refine cQ ?_;apply zN;refine bS ?_;refine aU ⟨λ ht=>zN ?_⟩;refine mN [.ret (.tup [.agg [A.id,A.group,A.weight,A.cpu,.lit (.int .u64 A.mask),A.ready,.lit (.int .u64 A.v),.lit (.int .u32 A.r)],true])] ?_;refine dD (zs ?_) (zs ?_);all_goals(try exact hfa)
    refine bS ?_;refine aU ⟨λ ht=>zN ?_⟩;refine aX rfl ⟨_,rfl,aI ?_⟩;rw[hbf]
   |false=>
    by_cases hi0:i=0
    .have hi0':¬(0:Int)<(i:Int):=oO;have hok:IV s d i:=hti.2 ⟨λ h=>absurd h.2 sS,λ h=>absurd h oO⟩;have uU:=xY @hlt @hlt2 @et' @hqe @hi0';refine cQ ?_;apply zN;refine bS ?_;refine aU ⟨λ ht=>zN ?_⟩;refine mN [.ret (.tup [.agg [A.id,A.group,A.weight,A.cpu,.lit (.int .u64 A.mask),A.ready,.lit (.int .u64 A.v),.lit (.int .u32 A.r)],true])] ?_;refine dD (zs ?_) (zs ?_);all_goals(try exact hfa)
     refine bS ?_;refine aU ⟨λ ht=>zN ?_⟩;refine⟨i+1,⟨oO,λ j hj=>?_⟩,oO,?_⟩
     .by_cases hj2:j=i;.rw[hj2];exact hok
      exact hall j oO
     rw[(oO:((i+1:Nat):Int)=(i:Int)+1)];exact fH
    have hi0':(0:Int)<(i:Int):=oO;have wp:aN.wrap ((i:Int)-1)=((i-1:Nat):Int):=by rw[dA oO oO];omega
    have bp:i-1<d.n4:=oO;obtain⟨pt,ep⟩:∃p,p=d.tk (i-1):=⟨_,rfl⟩;have ep':=ep.symm;rw[<-ep]at hti;by_cases hle:t.id<=pt.id
    .have hbf:=hno3 λ h=>by have:=(hti.1 h).2 oO;omega
     have uU:=eQ @hlt @hlt2 @et' @hqe @hi0' @wp @bp @ep' @hle;refine cQ ?_;apply zN;refine bS ?_;refine aU ⟨λ ht=>zN ?_⟩;refine mN [.ret (.tup [.agg [A.id,A.group,A.weight,A.cpu,.lit (.int .u64 A.mask),A.ready,.lit (.int .u64 A.v),.lit (.int .u32 A.r)],true])] ?_;refine dD (zs ?_) (zs ?_);all_goals(try exact hfa)
     refine bS ?_;refine aU ⟨λ ht=>zN ?_⟩;refine aX rfl ⟨_,rfl,aI ?_⟩;rw[hbf]
    have hle':¬t.id<=pt.id:=hle;have hok:IV s d i:=hti.2 ⟨λ h=>absurd h.2 sS,λ h=>oO⟩;have uU:=eQ @hlt @hlt2 @et' @hqe @hi0' @wp @bp @ep' @hle';refine cQ ?_;apply zN;refine bS ?_;refine aU ⟨λ ht=>zN ?_⟩;refine mN [.ret (.tup [.agg [A.id,A.group,A.weight,A.cpu,.lit (.int .u64 A.mask),A.ready,.lit (.int .u64 A.v),.lit (.int .u32 A.r)],true])] ?_;refine dD (zs ?_) (zs ?_);all_goals(try exact hfa)
    refine bS ?_;refine aU ⟨λ ht=>zN ?_⟩;refine⟨i+1,⟨oO,λ j hj=>?_⟩,oO,?_⟩
    .by_cases hj2:j=i;.rw[hj2];exact hok
     exact hall j oO
    rw[(oO:((i+1:Nat):Int)=(i:Int)+1)];exact fH
 have hin:i=d.n4:=oO;have hnlt:¬(i:Int)<(d.n4:Int):=oO;rw[hin]at hall;have g4:=hall;clear hall;refine cQ ?_;apply zN;refine bS ?_;refine aU ⟨λ ht=>zN ?_⟩;clear hin hnlt hlt hi;refine bE (X:=Nat) rfl [0,1,2,3,4,5,7,9,10,11,12,13,14,36,41,74,86,91,135,140,186,224] (k+2) (λ i=>[(13,i)]) (λ i=>[(k+1,⟨6,true,[d.cells]⟩),(k,⟨7,true,[s.cells]⟩)]) (λ i=>i<=d.n5/\∀j,j<i->LI s d j) (λ i=>d.n5-i) 0 ?_ ⟨aJ _,λ j hj=>absurd hj (bJ _)⟩ ?_;.have uU:=Go.AM.uU;refine cQ ?_;apply zN;exact fH
 rintro i ⟨hi,hall⟩;by_cases hlt:i<d.n5
 .have hno3:¬LI s d i->b=false:=λ h=>hno λ h'=>h (h'.2.2.2.2.2 i hlt);obtain⟨x,ex⟩:∃x,x=(d.sp i).1:=⟨_,rfl⟩;obtain⟨y,ey⟩:∃y,y=(d.sp i).2.1:=⟨_,rfl⟩;obtain⟨v,ev⟩:∃v,v=(d.sp i).2.2:=⟨_,rfl⟩;have ex':=ex.symm;have ey':=ey.symm;have ev':=ev.symm;have hlt2:(i:Int)<(d.n5:Int):=oO;have hse:LI s d i↔(0<=x/\x<s.ns/\0<=y/\y<s.nk/\s.sp x.toNat y.toNat≠v)/\(0<i->(d.sp (i-1)).1<x\/(d.sp (i-1)).1=x/\(d.sp (i-1)).2.1<y):=by unfold LI;rw[<-ex,<-ey,<-ev]
  by_cases h1:x<0
  .have hbf:=hno3 λ h=>by have:=(hse.1 h).1.1;omega
   have uU:=qQ @hlt @hlt2 @ex' @ey' @ev' @h1;refine cQ ?_;apply zN;refine bS ?_;refine aU ⟨λ ht ht=>zN ?_⟩;refine aX rfl ⟨_,rfl,aI ?_⟩;rw[hbf]
  by_cases h2:(s.ns:Int)<=x
  .have hbf:=hno3 λ h=>by have:=(hse.1 h).1.2.1;omega
   have uU:=yA @hlt @hlt2 @ex' @ey' @ev' @h1 @h2;refine cQ ?_;apply zN;refine bS ?_;refine aU ⟨λ ht ht=>zN ?_⟩;refine aX rfl ⟨_,rfl,aI ?_⟩;rw[hbf]
  by_cases h3:y<0
  .have hbf:=hno3 λ h=>by have:=(hse.1 h).1.2.2.1;omega
   have uU:=qW @hlt @hlt2 @ex' @ey' @ev' @h1 @h2 @h3;refine cQ ?_;apply zN;refine bS ?_;refine aU ⟨λ ht ht=>zN ?_⟩;refine aX rfl ⟨_,rfl,aI ?_⟩;rw[hbf]
  by_cases h4:(s.nk:Int)<=y
  .have hbf:=hno3 λ h=>by have:=(hse.1 h).1.2.2.2.1;omega
   have uU:=eQ @hlt @hlt2 @ex' @ey' @ev' @h1 @h2 @h3 @h4;refine cQ ?_;apply zN;refine bS ?_;refine aU ⟨λ ht ht=>zN ?_⟩;refine aX rfl ⟨_,rfl,aI ?_⟩;rw[hbf]
  obtain⟨w,ew⟩:∃w,w=s.sp x.toNat y.toNat:=⟨_,rfl⟩;have ew':=ew.symm;obtain⟨q,eq⟩:∃q,q=(w.v==v.v&&(w.r==v.r&&w.floor==v.floor)):=⟨_,rfl⟩;have hqe:=eq.symm;have hq:q=true↔w=v:=by rw[eq];obtain⟨a1,a2,a3⟩:=w;obtain⟨b1,b2,b3⟩:=v;simp
  rw[<-ew]at hse;have b1:x.toNat<s.ns:=oO;have b2:y.toNat<s.nsp x.toNat:=by rw[hr2 _ b1];omega
  cases q with
  |true=>have hbf:=hno3 λ h=>(hse.1 h).1.2.2.2.2 (hq.1 rfl);have uU:=eQ @hlt @hlt2 @ex' @ey' @ev' @h1 @h2 @h3 (xY @h4 @b1 @b2 @ew' @hqe);refine cQ ?_;apply zN;refine bS ?_;refine aU ⟨λ ht ht=>zN ?_⟩;refine aX rfl ⟨_,rfl,aI ?_⟩;rw[hbf]
  |false=>
   have hwv:w≠v:=λ h=>by have:=hq.2 h;cases this
   by_cases hi0:i=0
   .have hi0':¬(0:Int)<(i:Int):=oO;have hok:LI s d i:=hse.2 ⟨⟨oO,oO,oO,oO,hwv⟩,λ h=>absurd h oO⟩;have uU:=eQ @hlt @hlt2 @ex' @ey' @ev' @h1 @h2 @h3 (qQ @h4 @b1 @b2 @ew' @hqe @hi0');refine cQ ?_;apply zN;refine bS ?_;refine aU ⟨λ ht ht ht=>zN ?_⟩;refine⟨i+1,⟨oO,λ j hj=>?_⟩,oO,?_⟩
    .by_cases hj2:j=i;.rw[hj2];exact hok
     exact hall j oO
    rw[(oO:((i+1:Nat):Int)=(i:Int)+1)];exact fH
   have hi0':(0:Int)<(i:Int):=oO;have wp:aN.wrap ((i:Int)-1)=((i-1:Nat):Int):=by rw[dA oO oO];omega
   have bp:i-1<d.n5:=oO;obtain⟨px,ep⟩:∃p,p=(d.sp (i-1)).1:=⟨_,rfl⟩;obtain⟨py,eq'⟩:∃p,p=(d.sp (i-1)).2.1:=⟨_,rfl⟩;have ep':=ep.symm;have eq2:=eq'.symm;rw[<-ep,<-eq']at hse;by_cases k1:x<px
   .have hbf:=hno3 λ h=>by have:=(hse.1 h).2 oO;omega
    have uU:=eQ @hlt @hlt2 @ex' @ey' @ev' @h1 @h2 @h3 (eQ @h4 @b1 @b2 @ew' @hqe @hi0' @wp @bp (AW @ep' @eq2 @k1));refine cQ ?_;apply zN;refine bS ?_;refine aU ⟨λ ht ht ht=>zN ?_⟩;refine aX rfl ⟨_,rfl,aI ?_⟩;rw[hbf]
   by_cases k2:x=px
   .by_cases k3:y<=py
    .have hbf:=hno3 λ h=>by have:=(hse.1 h).2 oO;omega
     subst k2;have uU:=eQ @hlt @hlt2 @ex' @ey' @ev' @h1 @h2 @h3 (eQ @h4 @b1 @b2 @ew' @hqe @hi0' @wp @bp (DP @ep' @eq2 @k1 @k3));refine cQ ?_;apply zN;refine bS ?_;refine aU ⟨λ ht ht ht=>zN ?_⟩;refine aX rfl ⟨_,rfl,aI ?_⟩;rw[hbf]
    have hok:LI s d i:=hse.2 ⟨⟨oO,oO,oO,oO,hwv⟩,λ h=>oO⟩;subst k2;have uU:=eQ @hlt @hlt2 @ex' @ey' @ev' @h1 @h2 @h3 (eQ @h4 @b1 @b2 @ew' @hqe @hi0' @wp @bp (DP @ep' @eq2 @k1 @k3));refine cQ ?_;apply zN;refine bS ?_;refine aU ⟨λ ht ht ht=>zN ?_⟩;refine⟨i+1,⟨oO,λ j hj=>?_⟩,oO,?_⟩
    .by_cases hj2:j=i;.rw[hj2];exact hok
     exact hall j oO
    rw[(oO:((i+1:Nat):Int)=(i:Int)+1)];exact fH
   have hok:LI s d i:=hse.2 ⟨⟨oO,oO,oO,oO,hwv⟩,λ h=>oO⟩;have k2':¬x=px:=k2;have uU:=eQ @hlt @hlt2 @ex' @ey' @ev' @h1 @h2 @h3 (eQ @h4 @b1 @b2 @ew' @hqe @hi0' @wp @bp (DP @ep' @eq2 @k1 @k2'));refine cQ ?_;apply zN;refine bS ?_;refine aU ⟨λ ht ht ht=>⟨λ hg=>⟨?_⟩⟩⟩;refine⟨i+1,⟨oO,λ j hj=>?_⟩,oO,?_⟩
   .by_cases hj2:j=i;.rw[hj2];exact hok
    exact hall j oO
   rw[(oO:((i+1:Nat):Int)=(i:Int)+1)];exact fH
 have hin:i=d.n5:=oO;have hnlt:¬(i:Int)<(d.n5:Int):=oO;rw[hin]at hall;have hbt:=hb.2 ⟨g0,g1,g2,g3,g4,hall⟩;refine cQ ?_;apply zN;refine bS ?_;refine aU ⟨λ ht=>zN ?_⟩;refine aX rfl ⟨_,rfl,aI ?_⟩;rw[hbt]
theorem XN{x:Int}{c:Nat}(h1:0<=x)(h4:c<=64):(x.fdiv (2^min c 64)).tmod 2=x/2^c%2:=by rw[(oO:min c 64=c),dL _ (qN oO),Int.tmod_eq_emod_of_nonneg (PJ h1 (qN oO))]
theorem a0H{f:Nat->Bool}{n:Nat}(h:∀i,i<n->f i=false):jI f n=false:=by rw[dS];intro h';obtain⟨i,h1,h2⟩:=anyB_iff.1 h';rw[h i h1]at h2;cases h2
def a2E(m n:Int):Bool:=jI (λ c=>decide (n<=(c:Int))&&tA m c) 64
theorem aMS(m:Int)(n:Nat)(hm:0<=m)(hn:n<=64):AM.Pure aA Γ 237 [.lit (.int .u64 m),n] (a2E m n):=by
 obtain⟨z,ez⟩:∃z,z=a2E m n:=⟨_,rfl⟩;rw[<-ez];refine aZ Tryz.func237 rfl 16 rfl bB rfl λ k=>?_;have kp:=fI k [0,1,4,5,8,15];refine bS ?_;refine aU (zs ?_);refine bE (X:=Nat) rfl [0,1,4,5,8,15] k (λ i=>[(5,i)]) (λ i=>[]) (λ i=>i<=64/\n<=i/\∀j,n<=j->j<i->tA m j=false) (λ i=>64-i) n ?_ ⟨hn,aF _,λ j h1 h2=>oO⟩ ?_;.refine cQ ?_;apply zN;exact fH
 rintro i ⟨hi,hi2,hall⟩;have e8:(i:Int).toNat=i:=gX i;have e9:((i:Int)<0)=False:=eq_false oO;by_cases hlt:i<64
 .have hmm:=XN (x:=m) (c:=i) hm hi;have hc64:(i:Int)<64:=oO;obtain⟨y,ey⟩:∃y,y=m/2^i%2:=⟨_,rfl⟩;rw[<-ey]at hmm;by_cases hy:y=1
  .have hz:z=true:=by rw[ez];exact tL (i:=i) (by simp only[aC,dTt];exact⟨oO,by unfold tA;rw[decide_eq_true_iff,<-ey];exact hy⟩) hlt
   have uU:=xY @hc64 @hmm @hy @e8 @e9;refine cQ ?_;apply zN;refine bS ?_;refine aU ⟨λ ht ht=>zN ?_⟩;refine aX rfl ⟨_,rfl,aI ?_⟩;rw[hz]
  have hy':¬y=1:=hy;have uU:=xY @hc64 @hmm @hy' @e8 @e9;refine cQ ?_;apply zN;refine bS ?_;refine aU ⟨λ ht ht=>zN ?_⟩;refine⟨i+1,⟨oO,oO,λ j h1 h2=>?_⟩,oO,?_⟩
  .by_cases e:j=i;.rw[e];unfold tA;rw[dFn,<-ey];exact hy
   exact hall j h1 oO
  rw[(oO:((i+1:Nat):Int)=(i:Int)+1)];exact fH
 have hin:i=64:=oO;subst hin
 have hz:z=false:=by
  rw[ez];refine a0H λ j hj=>?_;by_cases h:n<=j;.rw[hall j h hj,qP]
  rw[decide_eq_false oO,kD]
 refine cQ ?_;apply zN;refine bS ?_;refine aU ⟨λ ht=>zN ?_⟩;refine aX rfl ⟨_,rfl,aI ?_⟩;rw[hz]
theorem MW(v r w:Int):AM.Pure aA Γ 236 [.lit (.int .u64 v),.lit (.int .u32 r),w] (.agg [.lit (.int .u64 v),.lit (.int .u32 r),.lit (.int .u32 (jF.wrap w))]):=by obtain⟨z,ez⟩:∃z,z=jF.wrap w:=⟨_,rfl⟩;rw[<-ez];have ez':=ez.symm;refine aZ Tryz.func236 rfl 12 rfl bB rfl λ k=>?_;have kp:=fI k [0,1,2,6];have uU:= @ez';refine bS ?_;refine aU (zs ?_);have uU:= @ez';refine IZ (zN ?_);exact aK _
def QU(s:St):Nat->Int
 |0=>0
 |i+1=>(s.tsk i).id
theorem aQM{s:St}{i:Nat}(h:FZ s i):QU s i<(s.tsk i).id:=by
 obtain⟨h1,h2,_⟩:=h
 cases i with
 |zero=>show(0:Int)<_;omega
 |succ i=>have:=h1 oO;rw[rN]at this;exact this
theorem aQL{s:St}{i:Nat}(h:QU s i<(s.tsk i).id):0<i->(s.tsk (i-1)).id<(s.tsk i).id:=λ h0=>by obtain⟨j,rfl⟩:∃j,i=j+1:=⟨i-1,oO⟩;rw[rN];exact h
theorem aIG(s:St)(hs:s.Small)(hk:Kinds s)(hc1:1<=s.cpus)(hc2:s.cpus<=64)(b:Bool)(hb:b=true↔∀i,i<s.nt->FZ s i):AM.Pure aA Γ 181 [.agg s.cells] b:=by
 obtain⟨hng,hnk,hnu,hnt,hns,hnsp⟩:=id hs
 have hno:∀i,i<s.nt->¬FZ s i->b=false:=λ i hi h=>by
  cases hb':b with
  |false=>rfl
  |true=>exact absurd (hb.1 hb' i hi) h
 obtain⟨n,en⟩:∃n:Nat,s.cpus=(n:Int):=⟨s.cpus.toNat,oO⟩;refine aZ Tryz.func181 rfl 92 rfl bB rfl λ k=>?_;have kp:=fI k [0,1,2,3,4,5,10,63,89];refine bS ?_;refine aU (zs ?_);refine bE (X:=Nat) rfl [0,1,2,3,4,5,10,63,89] (k+1) (λ i=>[(4,i),(3,(QU s i))]) (λ i=>[(k,⟨7,true,[s.cells]⟩)]) (λ i=>i<=s.nt/\∀j,j<i->FZ s j) (λ i=>s.nt-i) 0 ?_ ⟨aJ _,λ j hj=>absurd hj (bJ _)⟩ ?_;.rw[show QU s 0=0 from rfl];refine cQ ?_;apply zN;exact fH
 rintro i ⟨hi,hall⟩;obtain⟨la,ela⟩:∃x,x=QU s i:=⟨_,rfl⟩;obtain⟨la',ela'⟩:∃x,x=QU s (i+1):=⟨_,rfl⟩;rw[<-ela];by_cases hlt:i<s.nt
 .obtain⟨t,et⟩:∃t,t=s.tsk i:=⟨_,rfl⟩;have et':=et.symm;obtain⟨w,ew⟩:∃w,w=a2E t.mask s.cpus:=⟨_,rfl⟩;obtain⟨e,ee⟩:∃e,e=yP t.v t.r t.weight:=⟨_,rfl⟩;have hwd:=aMS (Γ:=Γ) t.mask n (by rw[et];exact hk.wf.mask0 i) oO;have hen0:=MW (Γ:=Γ) t.v t.r t.weight;have hen:=KW (Γ:=Γ) t.v t.r t.weight (by rw[et];exact hk.wf.tv i) (by rw[et];exact hk.wf.tr i);rw[<-en,<-ew]at hwd;rw[<-ee]at hen;have hm0:0<=t.mask:=by rw[et];exact hk.wf.mask0 i
  have hto:FZ s i->la<t.id/\1<=t.id/\t.id<=65535/\0<=t.group/\t.group<s.ng/\0<=t.cpu/\t.cpu<s.cpus/\w=false/\tA t.mask t.cpu.toNat=true/\e=true:=λ h=>by have h1:=aQM h;obtain⟨_,h2,h3,h4,h5,h6,h7,h8,h9,h10⟩:=h;rw[ela,ew,ee,et];exact⟨h1,h2,h3,h4,h5,h6,h7,h8,h9,h10⟩
  have hof:la<t.id->1<=t.id->t.id<=65535->0<=t.group->t.group<s.ng->0<=t.cpu->t.cpu<s.cpus->w=false->tA t.mask t.cpu.toNat=true->e=true->FZ s i:=λ h1 h2 h3 h4 h5 h6 h7 h8 h9 h10=>by rw[ela,et]at h1;rw[ew,et]at h8;rw[ee,et]at h10;rw[et]at h2 h3 h4 h5 h6 h7 h9;exact⟨aQL h1,h2,h3,h4,h5,h6,h7,h8,h9,h10⟩
  have hent:e=true->1<=t.weight/\t.weight<=65536:=λ h=>by rw[ee,yP,decide_eq_true_iff]at h;omega
  have hla0:0<=la:=by
   rw[ela]
   cases i with
   |zero=>exact fA _
   |succ j=>have h:=(hall j oO).2.1;show 0<=(s.tsk j).id;omega
  have hnx:la'=t.id:=by rw[ela',et];rfl
  have hno:=hno i hlt;have uU:=zA @hlt @et';refine cQ ?_;apply zN;refine bS ?_;refine zq9 ⟨λ ht ht=>⟨λ hg hg hg hg hg hg hg=>⟨?_⟩⟩⟩ ⟨λ ht ht=>⟨λ hg hg hg hg hg hg hg=>⟨?_⟩⟩⟩ ⟨λ ht ht=>⟨λ hg hg hg hg hg hg hg=>⟨?_⟩⟩⟩ ⟨λ ht ht=>⟨λ hg hg hg hg hg hg=>⟨?_⟩⟩⟩ ⟨λ ht ht=>⟨λ hg hg hg hg hg=>⟨?_⟩⟩⟩ ⟨λ ht ht=>⟨λ hg hg hg hg=>⟨?_⟩⟩⟩ ⟨λ ht ht=>⟨λ hg hg hg=>⟨?_⟩⟩⟩ ⟨λ ht ht=>⟨λ hg hg=>⟨?_⟩⟩⟩ ⟨λ ht ht=>⟨λ hg=>⟨?_⟩⟩⟩;all_goals(try(refine aX rfl ⟨_,rfl,aI ?_⟩;rw[hno (λ h=>by obtain⟨a1,a2,a3,a4,a5,a6,a7,a8,a9,a10⟩:=hto h;have a11:=hent a10;omega)]))
  have hcp0:0<=t.cpu:=oO;have hw1:1<=t.weight:=oO;have hw2:t.weight<=65536:=oO;have hneg:(t.cpu<0)=False:=eq_false oO;have hmm:=XN (x:=t.mask) (c:=t.cpu.toNat) hm0 oO;obtain⟨y,ey⟩:∃y,y=t.mask/2^t.cpu.toNat%2:=⟨_,rfl⟩;have hbit:tA t.mask t.cpu.toNat=true->y=1:=λ h=>by unfold tA at h;rw[decide_eq_true_iff]at h;rw[ey];exact h
  have hy2:0<=y/\y<2:=by rw[ey];omega
  rw[<-ey]at hmm;rw[wrap_u32 oO oO]at hen0
  cases w with
  |true=>
   have hbf:=hno λ h=>by obtain⟨a1,a2,a3,a4,a5,a6,a7,a8,a9,a10⟩:=hto h;cases a8
   refine lU [.ret true] ?_;refine aU (zs ?_);all_goals(try exact hwd)
   refine bS ?_;refine aU ⟨λ ht=>zN ?_⟩;refine aX rfl ⟨_,rfl,aI ?_⟩;rw[hbf]
  |false=>
   by_cases hy:y=0
   .have hbf:=hno λ h=>by obtain⟨a1,a2,a3,a4,a5,a6,a7,a8,a9,a10⟩:=hto h;have:=hbit a9;omega
    have uU:=xY @hlt @et' @hneg @hmm @hy;refine lU [.ret false] ?_;refine aU (zs ?_);all_goals(try exact hwd)
    refine bS ?_;refine aU ⟨λ ht=>zN ?_⟩;refine aX rfl ⟨_,rfl,aI ?_⟩;rw[hbf]
   have hy':¬y=0:=hy;have uU:=xY @hlt @et' @hneg @hmm @hy';refine lU [.ret false,.ret (.agg [.lit (.int .u64 t.v),.lit (.int .u32 t.r),.lit (.int .u32 t.weight)]),.ret e] ?_;refine aU ⟨⟨λ hg=>⟨?_⟩⟩⟩;all_goals(try(first|exact hwd|exact hen0|exact hen))
   cases e with
   |false=>
    have hbf:=hno λ h=>by obtain⟨a1,a2,a3,a4,a5,a6,a7,a8,a9,a10⟩:=hto h;cases a10
    refine bS ?_;refine aU ⟨λ ht=>zN ?_⟩;refine aX rfl ⟨_,rfl,aI ?_⟩;rw[hbf]
   |true=>
    have hbit1:tA t.mask t.cpu.toNat=true:=by unfold tA;rw[decide_eq_true_iff,<-ey];omega
    have hok:=hof oO oO oO oO oO oO oO rfl hbit1 rfl;refine bS ?_;refine aU ⟨λ ht=>zN ?_⟩;refine⟨i+1,⟨oO,λ j hj=>?_⟩,oO,?_⟩
    .by_cases hj2:j=i;.rw[hj2];exact hok
     exact hall j oO
    rw[(oO:((i+1:Nat):Int)=(i:Int)+1),<-ela',hnx];exact fH
 have hin:i=s.nt:=oO;have hbt:b=true:=hb.2 λ j hj=>hall j oO;have hnlt:¬(i:Int)<(s.nt:Int):=oO;have uU:= @hnlt;refine cQ ?_;apply zN;refine bS ?_;refine aU ⟨λ ht=>zN ?_⟩;refine aX rfl ⟨_,rfl,aI ?_⟩;rw[hbt]
theorem aTQ(p:Prop):∃x:Bool,x=true↔p:=⟨@decide p (Classical.propDecidable p),sS⟩
theorem a2D{s:St}(h:gE s=true):∀g,g<s.ng->1<=s.wt g/\s.wt g<=65536:=λ g h1=>by
 by_cases e:g=0;.subst e;have:=(eY h).1.2.2.2.2.2.2;omega
 have:=(eY h).2 g oO h1;simp only[okR,okW,aC,dTt]at this;exact this.1
def SO(s:St)(g c:Nat):Prop:=yP (s.sp g c).v (s.sp g c).r (s.wt g)=true/\(g=0->(s.sp g c).v<=0/\(s.sp g c).r<=0)
theorem aBA(s:St)(hs:s.Small)(hk:Kinds s)(b:Bool)(hb:b=true↔ShR s):AM.Pure aA Γ 180 [.agg s.cells] b:=by
 obtain⟨hng,hnk,hnu,hnt,hns,hnsp⟩:=id hs
 have hno:¬ShR s->b=false:=λ h=>by
  cases hb':b with
  |false=>rfl
  |true=>exact absurd (hb.1 hb') h
 have hrc:=yX s (Γ:=Γ);obtain⟨r,er⟩:∃r,r=gE s:=⟨_,rfl⟩;rw[<-er]at hrc;refine aZ Tryz.func180 rfl 123 rfl bB rfl λ k=>?_
 cases r with
 |false=>
  have hbf:=hno λ h=>by rw[h.cfg]at er;cases er
  have kp:=fI k [0,1,2,3,4,5,6,38,43,59,64,76,84,122];refine bS ?_;refine aU (zs ?_);refine lU [.ret false] ?_;refine dD (zs ?_) (zs ?_);all_goals(try exact hrc)
  refine bS ?_;refine aU ⟨λ ht=>zN ?_⟩;refine aX rfl ⟨_,rfl,aI ?_⟩;rw[hbf]
 |true=>
  have hcfg:=er.symm;have hwt:=a2D hcfg;have kp:=fI k [0,1,2,3,4,5,6,38,43,59,64,76,84,122];refine bS ?_;refine aU (zs ?_);refine lU [.ret true] ?_;refine DT (zs ?_) ⟨⟨λ hg hg=>⟨?_⟩⟩⟩ ⟨⟨λ hg hg=>⟨?_⟩⟩⟩ ⟨⟨λ hg=>⟨?_⟩⟩⟩;all_goals(try exact hrc)
  all_goals((refine bS ?_<;>and_intros<;>first|exact iH|(apply zM;(repeat intro ht);apply zM;(repeat intro hg);apply zM)))
  all_goals(try(refine aX rfl ⟨_,rfl,aI ?_⟩;rw[hno (λ h=>by obtain⟨_,a1,a2,a3,_,_⟩:=h;omega)]))
  have q1:(s.nk:Int)=s.cpus:=oO;have q2:(s.nu:Int)=s.cpus:=oO;have q3:s.ns=s.ng:=oO;refine bE (X:=Nat) rfl [0,1,2,3,4,5,6,38,43,59,64,76,84,122] (k+1) (λ c=>[(3,c)]) (λ c=>[(k,⟨7,true,[s.cells]⟩)]) (λ c=>c<=s.nk/\∀c',c'<c->0<=s.clk c'/\s.clk c'<=281474976710656) (λ c=>s.nk-c) 0 ?_ ⟨aJ _,λ c' h=>absurd h (bJ _)⟩ ?_;.refine cQ ?_;apply zN;exact fH
  rintro c ⟨hc1,hck⟩;by_cases hcn:c<s.nk
  .obtain⟨x,ex⟩:∃x,x=s.clk c:=⟨_,rfl⟩;have ex':=ex.symm;by_cases hx:0<=x/\x<=281474976710656
   .obtain⟨hx1,hx2⟩:=hx;have hx3:¬x<0:=oO;have hx4:¬281474976710656<x:=oO;have uU:=DP @hcn @ex' @hx3 @hx4;refine cQ ?_;apply zN;refine bS ?_;refine aU ⟨λ ht ht=>zN ?_⟩;refine⟨c+1,⟨oO,λ j hj=>?_⟩,oO,?_⟩
    .by_cases hj2:j=c;.rw[hj2,<-ex];exact⟨hx1,hx2⟩
     exact hck j oO
    rw[(oO:((c+1:Nat):Int)=(c:Int)+1)];exact fH
   have hbf:=hno λ h=>hx (by rw[ex];exact h.ck c hcn);have uU:=zA @hcn @ex';refine cQ ?_;apply zN;refine bS ?_;refine dD ⟨λ ht ht=>⟨λ hg=>⟨?_⟩⟩⟩ ⟨λ ht ht=>⟨λ hg=>⟨?_⟩⟩⟩;all_goals(try(exfalso;omega))
   all_goals(refine aX rfl ⟨_,rfl,aI ?_⟩;rw[hbf])
  have hin:c=s.nk:=oO;have hnlt:¬(c:Int)<(s.nk:Int):=oO;rw[hin]at hck;have uU:= @hnlt;refine cQ ?_;apply zN;refine bS ?_;refine aU ⟨λ ht=>zN ?_⟩;refine bE (X:=Nat) rfl [0,1,2,3,4,5,6,38,43,59,64,76,84,122] (k+1) (λ g=>[(4,g)]) (λ g=>[(k,⟨7,true,[s.cells]⟩)]) (λ g=>g<=s.ns/\∀g',g'<g->(s.nsp g':Int)=s.cpus/\∀c,c<s.nsp g'->SO s g' c) (λ g=>s.ns-g) 0 ?_ ⟨aJ _,λ g' h=>absurd h (bJ _)⟩ ?_;.have uU:=Go.AM.uU;refine cQ ?_;apply zN;exact fH
  clear hin hnlt hcn;rintro g ⟨hg1,hall⟩;by_cases hgn:g<s.ns
  .have hsp:=hnsp g hgn;have hw:=hwt g oO;by_cases hpn:(s.nsp g:Int)=s.cpus
   .have hgn2:(g:Int)<(s.ns:Int):=oO;have uU:=AW @hgn @hgn2 @hpn;refine cQ ?_;apply zN;refine bS ?_;refine aU ⟨λ ht ht=>zN ?_⟩;refine bE (X:=Nat) rfl [0,1,2,3,4,5,6,38,43,59,64,76,84,122] (k+1) (λ c=>[(5,c)]) (λ c=>[(k,⟨7,true,[s.cells]⟩)]) (λ c=>c<=s.nsp g/\∀c',c'<c->SO s g c') (λ c=>s.nsp g-c) 0 ?_ ⟨aJ _,λ c' h=>absurd h (bJ _)⟩ ?_;.refine cQ ?_;apply zN;exact fH
    rintro c ⟨hc1,hal⟩;by_cases hcn:c<s.nsp g
    .obtain⟨x,ex⟩:∃x,x=s.sp g c:=⟨_,rfl⟩;have ex':=ex.symm;obtain⟨w,ew⟩:∃w,w=s.wt g:=⟨_,rfl⟩;have ew':=ew.symm;rw[<-ew]at hw;have he:=MW (Γ:=Γ) x.v x.r w;rw[wrap_u32 oO oO]at he;have hch:=KW (Γ:=Γ) x.v x.r w (by rw[ex];exact hk.wf.sv g c) (by rw[ex];exact hk.wf.sr g c);obtain⟨z,ez⟩:∃z,z=yP x.v x.r w:=⟨_,rfl⟩;rw[<-ez]at hch;have hgg:g<s.ng:=oO;have hiff:SO s g c↔z=true/\(g=0->x.v<=0/\x.r<=0):=by unfold SO;rw[ez,ex,ew]
     have hok:SO s g c->∀j,j<c+1->SO s g j:=λ h j hj=>by
      by_cases hj2:j=c;.rw[hj2];exact h
      exact hal j oO
     have hno2:¬SO s g c->b=false:=λ h=>hno λ h'=>h ((h'.sp g hgn).2 c hcn)
     cases z with
     |false=>
      have hbf:=hno2 λ h=>by have:=(hiff.1 h).1;cases this
      have uU:=qQ @hgn @hgn2 @hcn @ex' @ew' @hgg;refine cQ ?_;apply zN;refine bS ?_;refine aU ⟨λ ht=>zN ?_⟩;refine mN [.ret (.agg [.lit (.int .u64 x.v),.lit (.int .u32 x.r),.lit (.int .u32 w)]),.ret false] ?_;refine aU (zs ?_);all_goals(try(first|exact he|exact hch))
      refine bS ?_;refine aU ⟨λ ht=>zN ?_⟩;refine aX rfl ⟨_,rfl,aI ?_⟩;rw[hbf]
     |true=>
      by_cases hg0:g=0
      .have hg1:((g:Int)=0)=True:=eq_true oO;by_cases hv:0<x.v
       .have hbf:=hno2 λ h=>by have:=(hiff.1 h).2 hg0;omega
        have uU:=qW @hgn @hgn2 @hcn @ex' @ew' @hgg @hg1 @hv;refine cQ ?_;apply zN;refine bS ?_;refine aU ⟨λ ht=>zN ?_⟩;refine mN [.ret (.agg [.lit (.int .u64 x.v),.lit (.int .u32 x.r),.lit (.int .u32 w)]),.ret true] ?_;refine aU ⟨⟨λ hg=>⟨?_⟩⟩⟩;all_goals(try(first|exact he|exact hch))
        refine bS ?_;refine aU ⟨λ ht=>zN ?_⟩;refine aX rfl ⟨_,rfl,aI ?_⟩;rw[hbf]
       by_cases hrr:0<x.r
       .have hbf:=hno2 λ h=>by have:=(hiff.1 h).2 hg0;omega
        have uU:=eQ @hgn @hgn2 @hcn @ex' @ew' @hgg @hg1 @hv @hrr;refine cQ ?_;apply zN;refine bS ?_;refine aU ⟨λ ht=>zN ?_⟩;refine mN [.ret (.agg [.lit (.int .u64 x.v),.lit (.int .u32 x.r),.lit (.int .u32 w)]),.ret true] ?_;refine aU ⟨⟨λ hg=>⟨?_⟩⟩⟩;all_goals(try(first|exact he|exact hch))
        refine bS ?_;refine aU ⟨λ ht=>zN ?_⟩;refine aX rfl ⟨_,rfl,aI ?_⟩;rw[hbf]
       have hsk:SO s g c:=hiff.2 ⟨rfl,λ _=>⟨oO,oO⟩⟩;have uU:=eQ @hgn @hgn2 @hcn @ex' @ew' @hgg @hg1 @hv @hrr;refine cQ ?_;apply zN;refine bS ?_;refine aU ⟨λ ht=>zN ?_⟩;refine mN [.ret (.agg [.lit (.int .u64 x.v),.lit (.int .u32 x.r),.lit (.int .u32 w)]),.ret true] ?_;refine aU ⟨⟨λ hg=>⟨?_⟩⟩⟩;all_goals(try(first|exact he|exact hch))
       refine bS ?_;refine aU ⟨λ ht=>zN ?_⟩;refine⟨c+1,⟨oO,hok hsk⟩,oO,?_⟩;rw[(oO:((c+1:Nat):Int)=(c:Int)+1)];exact fH
      have hg1:¬(g:Int)=0:=oO;have hsk:SO s g c:=hiff.2 ⟨rfl,λ h=>absurd h hg0⟩;have uU:=yA @hgn @hgn2 @hcn @ex' @ew' @hgg @hg1;refine cQ ?_;apply zN;refine bS ?_;refine aU ⟨λ ht=>zN ?_⟩;refine mN [.ret (.agg [.lit (.int .u64 x.v),.lit (.int .u32 x.r),.lit (.int .u32 w)]),.ret true] ?_;refine aU ⟨⟨λ hg=>⟨?_⟩⟩⟩;all_goals(try(first|exact he|exact hch))
      refine bS ?_;refine aU ⟨λ ht=>zN ?_⟩;refine⟨c+1,⟨oO,hok hsk⟩,oO,?_⟩;rw[(oO:((c+1:Nat):Int)=(c:Int)+1)];exact fH
    have hin:c=s.nsp g:=oO;have hnlt:¬(c:Int)<(s.nsp g:Int):=oO;rw[hin]at hal;have uU:=zA @hgn @hnlt;refine cQ ?_;apply zN;refine bS ?_;refine aU ⟨λ ht=>zN ?_⟩;refine⟨g+1,⟨oO,λ g' hg'=>?_⟩,oO,?_⟩
    .by_cases hj2:g'=g;.rw[hj2];exact⟨hpn,hal⟩
     exact hall g' oO
    rw[(oO:((g+1:Nat):Int)=(g:Int)+1)];exact fH
   have hbf:=hno λ h=>hpn (h.sp g hgn).1;have uU:=zA @hgn @hpn;refine cQ ?_;apply zN;refine bS ?_;refine aU ⟨λ ht ht=>zN ?_⟩;all_goals(try(exfalso;omega))
   refine aX rfl ⟨_,rfl,aI ?_⟩;rw[hbf]
  have hin:g=s.ns:=oO;have hnlt:¬(g:Int)<(s.ns:Int):=oO;rw[hin]at hall;have hbt:b=true:=hb.2 ⟨hcfg,q1,q2,q3,hck,λ g' hg'=>⟨(hall g' hg').1,(hall g' hg').2⟩⟩;refine cQ ?_;apply zN;refine bS ?_;refine aU ⟨λ ht=>zN ?_⟩;refine aX rfl ⟨_,rfl,aI ?_⟩;rw[hbt]
theorem PX(s:St)(hs:s.Small)(hk:Kinds s)(h12:s.ns<=12):AM.Pure aA Γ 105 [.agg s.cells] (.lit (.bool (bW s).isEmpty)):=by
 obtain⟨hng,hnk,hnu,hnt,hns,hnsp⟩:=id hs;obtain⟨b,eb⟩:∃b,b=(bW s).isEmpty:=⟨_,rfl⟩;rw[<-eb];have hb:b=true↔ShR s/\(∀i,i<s.nt->FZ s i)/\∀c,c<s.cpus.toNat->NA s c/\∀g,g<s.ns->kV s g c=[]:=by rw[eb,emp_iff,aLK]
 have hno:¬(ShR s/\(∀i,i<s.nt->FZ s i)/\∀c,c<s.cpus.toNat->NA s c/\∀g,g<s.ns->kV s g c=[])->b=false:=λ h=>by
  cases hb':b with
  |false=>rfl
  |true=>exact absurd (hb.1 hb') h
 obtain⟨b1,hb1⟩:=aTQ (ShR s);have hsh:=aBA (Γ:=Γ) s hs hk b1 hb1;refine aZ Tryz.func105 rfl 83 rfl bB rfl λ k=>?_
 cases b1 with
 |false=>
  have hbf:=hno λ h=>by have:=hb1.2 h.1;cases this
  have kp:=fI k [0,1,2,3,4,5,6,7,15,20,29,53,58,82];refine bS ?_;refine aU (zs ?_);refine lU [.ret false] ?_;refine dD (zs ?_) (zs ?_);all_goals(try exact hsh)
  refine bS ?_;refine aU ⟨λ ht=>zN ?_⟩;refine aX rfl ⟨_,rfl,aI ?_⟩;rw[hbf]
 |true=>
 have hS:=hb1.1 rfl;have hcfg:=hS.cfg;obtain⟨⟨r1,r2,r3,r4,r5,r6,r7⟩,_⟩:=eY hcfg;obtain⟨b2,hb2⟩:=aTQ (∀i,i<s.nt->FZ s i);have hta:=aIG (Γ:=Γ) s hs hk r1 r2 b2 hb2
 cases b2 with
 |false=>
  have hbf:=hno λ h=>by have:=hb2.2 h.2.1;cases this
  have kp:=fI k [0,1,2,3,4,5,6,7,15,20,29,53,58,82];refine bS ?_;refine aU (zs ?_);refine lU [.ret true,.ret false] ?_;refine wM (zs ?_) (zs ?_) (zs ?_);all_goals(try(first|exact hsh|exact hta))
  refine bS ?_;refine aU ⟨λ ht=>zN ?_⟩;refine aX rfl ⟨_,rfl,aI ?_⟩;rw[hbf]
 |true=>
 have hT:=hb2.1 rfl;obtain⟨n,en⟩:∃n:Nat,s.cpus=(n:Int):=⟨s.cpus.toNat,oO⟩;have hnu2:s.nu=n:=by have:=hS.nu;omega
 have hnn:s.cpus.toNat=n:=oO;rw[hnn]at hb hno;have hno2:∀c,c<n->¬(NA s c/\∀g,g<s.ns->kV s g c=[])->b=false:=λ c hc h=>hno λ h'=>h (h'.2.2 c hc);obtain⟨hpo,hpar⟩:=aBF h12 hcfg (by rw[shp_nil.2 ⟨hS.nk,hS.nu,hS.ns,λ g hg=>(hS.sp g hg).1⟩];rfl);have hrow:∀g,g<s.ns->s.nsp g=n:=λ g hg=>by have:=(hS.sp g hg).1;omega
 have kp:=fI k [0,1,2,3,4,5,6,7,15,20,29,53,58,82];refine bS ?_;refine aU (zs ?_);refine lU [.ret true,.ret true] ?_;refine wM (zs ?_) (zs ?_) (zs ?_);all_goals(try(first|exact hsh|exact hta))
 refine bS ?_;refine aU ⟨λ ht=>zN ?_⟩;refine bE (X:=Nat) rfl [0,1,2,3,4,5,6,7,15,20,29,53,58,82] (k+1) (λ c=>[(3,c)]) (λ c=>[(k,⟨7,true,[s.cells]⟩)]) (λ c=>c<=n/\∀c',c'<c->NA s c'/\∀g,g<s.ns->kV s g c'=[]) (λ c=>n-c) 0 ?_ ⟨aJ _,λ c' h=>absurd h (bJ _)⟩ ?_;.refine cQ ?_;apply zN;exact fH
 clear hsh hta;rintro c ⟨hc1,hall⟩;by_cases hcn:c<n
 .have hcu:(c:Int)<s.cpus:=oO;have hcu2:c<s.nu:=oO;obtain⟨x,ex⟩:∃x,x=s.cur c:=⟨_,rfl⟩;have ex':=ex.symm;have hcuo:NA s c↔x=0\/jI (fO s x c) s.nt=true:=by unfold NA;rw[ex]
  have uU:=AW @hcu @hcu2 @ex';refine cQ ?_;apply zN;refine bY rfl ?_;refine bY rfl ?_;(refine gL rfl [0,1,2,3,4,5,6,7,15,20,29,53,58,82] rfl rfl (λ K hK=>?_));simp-dsimp-implicitDefEqProofs (disch:=omega)only[go_sem,iN,hcu,hcu2,ex',eq_self,↓reduceIte];(refine hK _ _ _ _ (λ hx=>?_));clear hx hK;simp-dsimp-implicitDefEqProofs (disch:=omega)only[go_sem,iN,hcu,hcu2,ex',eq_self,↓reduceIte];clear K;refine gA rfl _ rfl (λ ht=>?_) (λ ht=>?_);rotate_left 1
  .first|(cases ht;done)|exact absurd (of_decide_eq_false ht) oO|simp at ht
  refine fD rfl ?_;refine cQ ?_;apply zN;refine bY rfl ?_;refine eZ rfl ?_;refine yU (X:=Unit) rfl [0,1,2,3,4,5,6,7,15,20,29,53,58,82] (k+1) (λ _=>[]) (λ _=>[(k,⟨7,true,[s.cells]⟩)]) (λ _=>NA s c) ?_ ?_
  .by_cases h0:x=0;.have hcp:NA s c:=hcuo.2 (.inl h0);have uU:=AW @hcu2 @ex' @h0;refine bS ?_;refine aU ⟨λ ht=>zN ?_⟩;refine⟨(),hcp,?_⟩;exact fH
   have h0':¬x=0:=h0;have hfd:=aRU (Γ:=Γ) s hnt x;obtain⟨r,er⟩:∃r,r=xF (λ i=>decide ((s.tsk i).id=x)) s.nt:=⟨_,rfl⟩;rw[<-er]at hfd;rw[xF]at er
   cases hf:f0 (λ i=>decide ((s.tsk i).id=x)) s.nt with
   |none=>
    rw[hf]at er;have er:r= -1:=er;have hnf:=xL hf
    have hbf:=hno2 c hcn λ h=>by
     rcases hcuo.1 h.1 with h|h;.exact h0 h
     rw[aZG λ i hi e=>by have:=hnf i hi;rw[dFn]at this;exact this e]at h;cases h
    subst er;have uU:=AW @hcu2 @ex' @h0';refine bS ?_;refine aU ⟨λ ht=>zN ?_⟩;refine lU [.ret (-1:Int)] ?_;refine dD (zs ?_) (zs ?_);all_goals(try exact hfd)
    refine bS ?_;refine aU ⟨λ ht=>zN ?_⟩;refine aX rfl ⟨_,rfl,aI ?_⟩;rw[hbf]
   |some i=>
    rw[hf]at er;have er:r=(i:Int):=er;obtain⟨hi,hid⟩:=BP hf;rw[decide_eq_true_iff]at hid;have hcx:=a5B hT (c:=c) hi hid;subst er;have e8:(i:Int).toNat=i:=gX i;have e9:((i:Int)<0)=False:=eq_false oO;obtain⟨rd,erd⟩:∃y,y=(s.tsk i).ready:=⟨_,rfl⟩;obtain⟨cp,ecp⟩:∃y,y=(s.tsk i).cpu:=⟨_,rfl⟩;have erd':=erd.symm;have ecp':=ecp.symm;rw[<-erd,<-ecp]at hcx;have hcuo2:NA s c↔rd=true/\cp=c:=by rw[hcuo,hcx];exact⟨λ h=>h.resolve_left h0,.inr⟩
    cases rd with
    |false=>
     have hbf:=hno2 c hcn λ h=>by have:=(hcuo2.1 h.1).1;cases this
     have uU:=qW @hcu2 @ex' @h0' @hi @e8 @e9 @erd' @ecp';refine bS ?_;refine aU ⟨λ ht=>zN ?_⟩;refine lU [.ret i] ?_;refine dD (zs ?_) (zs ?_);all_goals(try exact hfd)
     refine bS ?_;refine aU ⟨λ ht=>zN ?_⟩;refine aX rfl ⟨_,rfl,aI ?_⟩;rw[hbf]
    |true=>
     by_cases hcp:cp=c
     .have hcpp:NA s c:=hcuo2.2 ⟨rfl,hcp⟩;have hbn:(cp !=(c:Int))=false:=by simp[hcp]
      have uU:=eQ @hcu2 @ex' @h0' @hi @e8 @e9 @erd' @ecp' @hbn;refine bS ?_;refine aU ⟨λ ht=>zN ?_⟩;refine lU [.ret i] ?_;refine dD (zs ?_) (zs ?_);all_goals(try exact hfd)
      refine bS ?_;refine aU ⟨λ ht=>zN ?_⟩;refine⟨(),hcpp,?_⟩;exact fH
     have hbf:=hno2 c hcn λ h=>hcp (hcuo2.1 h.1).2;have hbn:(cp !=(c:Int))=true:=by simpa using hcp
     have uU:=eQ @hcu2 @ex' @h0' @hi @e8 @e9 @erd' @ecp' @hbn;refine bS ?_;refine aU ⟨λ ht=>zN ?_⟩;refine lU [.ret i] ?_;refine dD (zs ?_) (zs ?_);all_goals(try exact hfd)
     refine bS ?_;refine aU ⟨λ ht=>zN ?_⟩;refine aX rfl ⟨_,rfl,aI ?_⟩;rw[hbf]
  rintro _ hcur;have uU:=Go.AM.uU;refine cQ ?_;apply zN;refine bS ?_;refine aU (zs ?_);refine bE (X:=Nat) rfl [0,1,2,3,4,5,6,7,15,20,29,53,58,82] (k+1) (λ g=>[(6,g)]) (λ g=>[(k,⟨7,true,[s.cells]⟩)]) (λ g=>g<=s.ns/\∀g',g'<g->kV s g' c=[]) (λ g=>s.ns-g) 0 ?_ ⟨aJ _,λ g' h=>absurd h (bJ _)⟩ ?_;.refine cQ ?_;apply zN;exact fH
  rintro g ⟨hg1,hgall⟩;by_cases hgn:g<s.ns
  .obtain⟨ml,em⟩:∃ml,ml=vC s c s.ns g:=⟨_,rfl⟩;have hml:ml.length<=2000:=by rw[em];have:=XL s c s.ns g;omega
   have hmem:=IA (Γ:=Γ) s hs hpo hpar c hcu s.ns g oO;rw[<-em,rows,bP]at hmem;have hfl:=aKT (s:=s) (g:=g) (c:=c) em;obtain⟨nl,enl⟩:∃nl,nl=ml.length:=⟨_,rfl⟩;obtain⟨F,eF⟩:∃F:Nat->List AVal,F=λ j=>(ml.map Mem.row).getD j []:=⟨_,rfl⟩;obtain⟨mm,emm⟩:∃m,m=lsI ml (ml.length-1):=⟨_,rfl⟩;have hspg:=hrow g hgn;have hcs:c<s.nsp g:=oO;obtain⟨f,ef⟩:∃f,f=(s.sp g c).floor:=⟨_,rfl⟩;have ef':=ef.symm;have hgn2:(g:Int)<(s.ns:Int):=oO;by_cases hz:nl=0
   .have hfn:kV s g c=[]:=hfl.2 λ h=>oO;rw[<-enl,<-eF]at hmem;subst hz;have uU:=zA @hgn @hgn2;refine cQ ?_;apply zN;refine bS ?_;refine aU ⟨λ ht=>zN ?_⟩;refine lU [.ret (.rd 3 0 F)] ?_;refine dD (zs ?_) (zs ?_);all_goals(try exact hmem)
    refine bS ?_;refine aU (zs ?_);refine mN [] ?_;refine aU (zs ?_);refine bS ?_;refine aU ⟨λ ht=>zN ?_⟩;refine⟨g+1,⟨oO,λ g' hg'=>?_⟩,oO,?_⟩
    .by_cases hj2:g'=g;.rw[hj2];exact hfn
     exact hgall g' oO
    rw[(oO:((g+1:Nat):Int)=(g:Int)+1)];exact fH
   have hle:=aXK (Γ:=Γ) ml oO oO;rw[rows,bP,<-enl,<-eF]at hle;rw[<-enl]at emm;rw[<-emm]at hle;simp only[Mem.row]at hle;rw[<-enl,<-eF]at hmem;have hz1:(0:Int)<(nl:Int):=oO;by_cases hff:f<mm.v
   .have hbf:=hno2 c hcn λ h=>(hfl.1 (h.2 g hgn)) ⟨oO,by rw[<-ef,<-enl,<-emm];exact hff⟩;have uU:=yA @hgn @hgn2 @hcs @ef' @hff @hz1 @hz;refine cQ ?_;apply zN;refine bS ?_;refine aU ⟨λ ht=>zN ?_⟩;refine lU [.ret (.rd 3 nl F)] ?_;refine dD (zs ?_) (zs ?_);all_goals(try exact hmem)
    refine bS ?_;refine aU (zs ?_);refine mN [.ret (.agg [.lit (.int .u64 mm.v),mm.a,mm.b])] ?_;refine aU (zs ?_);all_goals(try exact hle)
    refine bS ?_;refine aU ⟨λ ht=>zN ?_⟩;refine aX rfl ⟨_,rfl,aI ?_⟩;rw[hbf]
   have hfn:kV s g c=[]:=hfl.2 λ h=>hff (by rw[ef,emm,enl];exact h.2);have uU:=yA @hgn @hgn2 @hcs @ef' @hff @hz1 @hz;refine cQ ?_;apply zN;refine bS ?_;refine aU ⟨λ ht=>zN ?_⟩;refine lU [.ret (.rd 3 nl F)] ?_;refine dD (zs ?_) (zs ?_);all_goals(try exact hmem)
   refine bS ?_;refine aU (zs ?_);refine mN [.ret (.agg [.lit (.int .u64 mm.v),mm.a,mm.b])] ?_;refine aU (zs ?_);all_goals(try exact hle)
   refine bS ?_;refine aU ⟨λ ht=>zN ?_⟩;refine⟨g+1,⟨oO,λ g' hg'=>?_⟩,oO,?_⟩
   .by_cases hj2:g'=g;.rw[hj2];exact hfn
    exact hgall g' oO
   rw[(oO:((g+1:Nat):Int)=(g:Int)+1)];exact fH
  have hin:g=s.ns:=oO;have hnlt:¬(g:Int)<(s.ns:Int):=oO;rw[hin]at hgall;have uU:= @hnlt;refine cQ ?_;apply zN;refine bS ?_;refine aU ⟨λ ht=>zN ?_⟩;refine⟨c+1,⟨oO,λ c' hc'=>?_⟩,oO,?_⟩
  .by_cases hj2:c'=c;.rw[hj2];exact⟨hcur,hgall⟩
   exact hall c' oO
  rw[(oO:((c+1:Nat):Int)=(c:Int)+1)];exact fH
 have hin:c=n:=oO;have hnlt:¬(c:Int)<s.cpus:=oO;rw[hin]at hall;have hbt:b=true:=hb.2 ⟨hS,hT,hall⟩;have uU:= @hnlt;refine cQ ?_;apply zN;refine bS ?_;refine aU ⟨λ ht=>zN ?_⟩;refine aX rfl ⟨_,rfl,aI ?_⟩;rw[hbt]
theorem aXE{s:St}{d:DE}{m:List Tk}(h:PreW s)(hd:DRng d)(hm:∀t∈m,TkR t)(hl:m.length<=200):PreW (LS s (lI d) m):=by
 refine VQ ⟨h.sm.ng,h.sm.nk,h.sm.nu,by show m.length<=_;omega,h.sm.ns,h.sm.nsp⟩ hl h.ns h.p1 h.c0 (λ i=>?_) (LC _ _ (λ g c=>h.spr g c) λ x hx=>?_)
 .show TkR (m.getD i fB);by_cases hi:i<m.length;.exact hm _ (kK hi)
  rw[lQ oO];exact a0Y
 obtain⟨j,_,rfl⟩:=mem_pre.1 (show x∈pre d.sp d.n5 from hx);exact aGZ hd j
theorem aLQ(s:St)(d:DE)(hright:AM.Pure aA Γ 105 [.agg s.cells] true)(hfits:AM.Pure aA Γ 106 [.agg s.cells,.agg d.cells] false):
 AM.Pure aA Γ 45 [.agg s.cells,.agg d.cells] (.tup [.agg zSt.cells,(352:Int)]):=by
 refine nS ?_ KC;refine aZ Tryz.func45 rfl 236 rfl bB rfl λ k=>?_;have kp:=fI k [0,1,2,3,4,5,6,7,8,9,10,11,12,13,15,17,20,25,43,93,124,149,176,218,233];refine bS ?_;refine aU (zs ?_);refine lU [.ret true] ?_;refine dD (zs ?_) (zs ?_);all_goals(try exact hright)
 refine bS ?_;refine aU ⟨λ ht=>zN ?_⟩;refine lU [.ret false] ?_;refine dD (zs ?_) (zs ?_);all_goals(try exact hfits)
 refine bS ?_;refine aU ⟨λ ht=>zN ?_⟩;refine IZ (zN ?_);exact aK _
theorem aEE(s:St)(d:DE)(hright:AM.Pure aA Γ 105 [.agg s.cells] false):
 AM.Pure aA Γ 45 [.agg s.cells,.agg d.cells] (.tup [.agg zSt.cells,(350:Int)]):=by
 refine nS ?_ KC;refine aZ Tryz.func45 rfl 236 rfl bB rfl λ k=>?_;have kp:=fI k [0,1,2,3,4,5,6,7,8,9,10,11,12,13,15,17,20,25,43,93,124,149,176,218,233];refine bS ?_;refine aU (zs ?_);refine lU [.ret false] ?_;refine dD (zs ?_) (zs ?_);all_goals(try exact hright)
 refine bS ?_;refine aU ⟨λ ht=>zN ?_⟩;refine IZ (zN ?_);exact aK _
theorem aUA(s:St)(hp:PreW s)(d:DE)(hr:DRng d)(hd:d.size<=60)(h2:s.nt+d.n4<=200):
 AM.Pure aA Γ 45 [.agg s.cells,.agg d.cells] (.tup [.agg (jS s d).cells,(nP s d)]):=by
 have hright:=PX (Γ:=Γ) s hp.sm hp.k hp.ns;by_cases hrt:bW s=[]
 .rw[emp_iff.2 hrt]at hright;obtain⟨hrc,q1,q2,q3,q4,q5⟩:=vQ hrt;have hid:=(BL (s:=s) (by rw[hrt];rfl)).st;obtain⟨b,hb⟩:=JW (FitD s (lI d));have hfits:=a4G (Γ:=Γ) s hp.sm hid hrc d oO b hb
  cases b with
  |false=>
   have hnf:¬FitD s (lI d):=λ h=>by have:=hb.2 h;cases this
   have hl:=aUB (d:=d) (m:=[]) hrt (λ h=>absurd h hnf);obtain⟨e1,e2⟩:=BU (d:=d) hrt (λ h=>hnf (hl.1.1 h).1);rw[e1,e2];exact aLQ s d hright hfits
  |true=>
   have hf:=hb.1 rfl;refine AV λ k=>?_;refine aUC s d s.nk oO q1 q2 rfl hrc.1 (λ g hg=>hrc.2 g hg) q3 q4 q5 hf hright hfits k _ _ _ _ rfl rfl rfl ?_;refine aUD s d s.nk k (k+(6+s.ns)) (aF _) _ _ _ _ _ rfl oO ?_;refine aLU s d s.nk k (k+(6+s.ns)) (aF _) _ _ _ _ _ hid hf (by have:=hp.nt;omega) oO λ m hm hml=>?_;have hl:=aUB (d:=d) (m:=m) hrt (λ _=>hm)
   have hmt:∀t∈m,TkR t:=λ t ht=>by
    rcases(hm.2 t).1 ht with h|h;.obtain⟨i,_,e⟩:=mem_pre.1 (show t∈pre d.tk d.n4 from h);rw[<-e];exact aGY hr i
    obtain⟨i,_,e⟩:=mem_tkL.1 (mem_stay.1 h).1;rw[e];exact hp.tkr i
   have hpm:=aXE hp hr hmt oO;obtain⟨z,ez⟩:∃z,z=(bW (LS s (lI d) m)).isEmpty:=⟨_,rfl⟩;have hzi:z=true↔VE s d:=by rw[ez,emp_iff,hl.1,TJ hf];exact⟨λ h=>⟨hf,h⟩,λ h=>h.2⟩
   have e1:jS s d=if z=true then LS s (lI d) m else zSt:=by
    by_cases hz:z=true;.rw[if_pos hz,(AT hrt (hzi.1 hz)).2,hl.2 (hzi.1 hz),TJ hf]
    rw[if_neg hz,(BU hrt (λ h=>hz (hzi.2 h))).2]
   have e2:nP s d=if z=true then 0 else 352:=by
    by_cases hz:z=true;.rw[if_pos hz,(AT hrt (hzi.1 hz)).1]
    rw[if_neg hz,(BU hrt (λ h=>hz (hzi.2 h))).1]
   rw[e1,e2];exact a0F s d s.nk k (k+(6+s.ns)) (aF _) (LS s (lI d) m) m rfl hrc.1 (λ g hg=>hrc.2 g hg) EG rfl rfl rfl rfl rfl z (λ Γ'=>by rw[ez];exact PX (Γ:=Γ') _ hpm.sm hpm.k hpm.ns)
 obtain⟨e1,e2⟩:=FF (d:=d) hrt;rw[e1,e2];have e3:(bW s).isEmpty=false:=by rw[dS];exact λ h=>hrt (emp_iff.1 h)
 rw[e3]at hright;exact aEE s d hright
end Go.Proofs.T
end
