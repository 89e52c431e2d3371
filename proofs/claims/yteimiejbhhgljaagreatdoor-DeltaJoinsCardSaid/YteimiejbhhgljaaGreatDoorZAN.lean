import Derived.Test.YteimiejbhhgljaaGreatDoorZAM
import Derived.Maps.Keyed
import Derived.Carry
import Derived.Maps.RangeRun
set_option linter.unusedVariables false
set_option linter.unusedSimpArgs false
set_option maxHeartbeats 0
set_option maxRecDepth 100000
open Array renaming ext->aIG,ext'->bGD,getD_eq_getD_getElem?->aI,getElem?_eq_getElem->aQ,getElem?_eq_some_iff->dA,getElem?_setIfInBounds_ne->lH,getElem?_toList->bF,length_toList->pU
open Bool renaming and_eq_false_iff->AF,and_eq_true->aH,eq_false_iff->gB,eq_iff_iff->bH,false->aE,not_eq_false'->jI,not_eq_true'->bD,true->aB
open Int renaming natCast_nonneg->rT,toNat_natCast->bP,toNat_of_nonneg->gA
open Go.IntKind renaming i64->aL
open List renaming Pairwise->tY,Perm->gQ,append_assoc->cM,append_nil->cZ,eq_nil_of_length_eq_zero->jU,ext_getElem?->dZ,filter_append->MV,filter_congr->bGB,filter_cons->bNY,filter_eq_self->wF,find?_eq_none->a5C,getD->oH,getD_eq_getElem?_getD->aR,getElem?_append_left->gP,getElem?_append_right->iK,getElem?_cons_succ->fM,getElem?_eq_getElem->aJ,getElem?_eq_none->aX,getElem?_eq_some_iff->aK,getElem?_map->aP,getElem?_set->dD,getElem?_toArray->cJ,getElem_mem->JR,length_append->bM,length_cons->gS,length_eq_zero_iff->a5B,length_map->cX,length_set->oE,map->rS,map_append->aM,map_congr_left->fD,map_cons->bI,map_map->jM,map_nil->bQ,mem_append->dC,mem_cons->eY,mem_cons_of_mem->dM,mem_filter->lW,mem_iff_getElem->tJ,mem_map->dB,mem_of_getElem?->iG,mem_range->dK,mem_singleton->MU,nodup_cons->a5A,pairwise_append->bOT,pairwise_iff_getElem->AV,pairwise_lt_range->bBI,pairwise_map->EC,range->aN,size_toArray->fZ
open Nat renaming add_assoc->gD,add_comm->bKT,add_mul->cQ,add_sub_cancel->a4V,add_sub_cancel_left->lE,add_zero->jL,div_add_mod->EB,div_lt_of_lt_mul->aDJ,le_refl->aF,le_succ->mF,lt_irrefl->qR,lt_succ_self->cW,lt_trichotomy->kA,mod_eq_of_lt->JP,mul_comm->iW,mul_one->HW,not_lt_zero->bO,sub_self->RX,zero_add->fH,zero_le->aZ,zero_mul->qW
open Option renaming bind_eq_some_iff->cE,isSome_iff_exists->fS,map_eq_none_iff->dO,map_eq_some_iff->aG,map_none->oB,map_some->bU,none->aC,some->aA
open Go.Result renaming andThen->aID
open Go.Proofs.Tryz renaming prog->aD
open Go.Value renaming int->bA
section
namespace Go.AM
open Go
section
variable{P:Program}{Γ:dL}
theorem aYJ{f:FuncId}{args:List AVal}{r:AVal}(ha:args.all (bd λ _=>aE)=aB)(hr:bd (λ _=>aE) r=aB)(hT:Tr P Γ f 0 args [] (λ _ r1 _=>VLe r1 r)):Pure P Γ f args r:=λ k=>by
 intro A hA w G ρ cargs hr0 hvs;have hρ:ρ=bS:=funext λ id=>hr0.dom id rfl;subst hρ
 have hno:∀w1 G1 ρ1 A1 A2 u cu,V w1 G1 ρ1 A1 u cu->bd (λ _=>aE) u=aB->V w1 G1 ρ1 A2 u cu:=λ w1 G1 ρ1 A1 A2 u cu h hb=>
  (aDF h hb).mono (λ _ h=>h) (λ _ _=>rfl) (λ _ _=>rfl) (λ i hi=>by simp at hi) (λ _ _=> .inr rfl)
 refine(hT cI (λ i hi=>hi.elim) w G bS cargs ⟨λ _ _=>rfl,λ id B A' hid=>by simp[bK,look]at hid,hr0.inj,hr0.ro,hr0.glob⟩ ⟨hvs.1,λ j u hj=>hno _ _ _ _ _ _ _ (hvs.2 j u hj) (iT ha hj)⟩).mono ?_;rintro e w' ⟨cv,G',ρ',k1,r1,H1,rfl,hle,hk1,hrel1,hv1,hst⟩;refine⟨cv,λ b=>G' b\/mZ ρ' b,bS,k,r,[],rfl,⟨rfl,rfl,rfl⟩,aF _,hrel1.fz,?_,⟨hst.size,hst.keep,hst.shape,λ b hb=> .inl (hst.g b hb),λ b hb=>hb.elim (hst.g' b) (λ h=> .inr (hst.own b h)),λ b ⟨_,_,h⟩=>(by cases h),λ id _=> .inl rfl,hst.os,hst.tape,hst.output⟩⟩;exact(aDF (hle _ _ _ _ _ hv1) hr).mono (λ _ h=> .inl h) (λ _ _=>rfl) (λ _ _=>rfl) (λ i hi=>by simp at hi) (λ i hi=>by simp at hi)
end
end Go.AM
namespace Go.Proofs.T
open Go Go.AM Go.Proofs
variable{Γ:dL}
structure Did (Γ:dL) (n ns m T k i:Nat) (o:Opn) (L:LSt) (z:LSt×(Int×Int)×(Nat×Nat)):Prop where
 rt:Rt z.1 n
 nt:z.1.tl.length<=i+1
 nsl:z.1.sl.length=ns
 lat:Later L z.1
 tk:m+6+ns<=z.2.2.1
 tk2:z.2.2.1<z.2.2.2
 tk3:z.2.2.1=T\/k<=z.2.2.1
 kk:k<=z.2.2.2
 tr:Tr aD Γ 33 k [.ptr m 0 0,.agg (gJ o)] (MH m T L) (λ k1 r1 H1=>k1=z.2.2.2/\r1=jQ z.2.1.1 z.2.1.2/\H1=MH m z.2.2.1 z.1)
structure Runs (Γ:dL) (n ns m T k:Nat) (o:Nat->Opn) (L0:LSt) (Ls:Nat->LSt) (zs:Nat->LSt×(Int×Int)×(Nat×Nat)):Prop where
 z:Ls 0=L0
 s:∀i,Ls (i+1)=(zs i).1
 rt:∀i,i<=900->Rt (Ls i) n/\(Ls i).tl.length<=i/\(Ls i).sl.length=ns
 did:∀i,i<900->Did Γ n ns m T k i (o i) (Ls i) (zs i)
theorem a0H(Γ:dL){L0:LSt}{n:Nat}(h:Rt L0 n)(h0:L0.tl=[])(o:Nat->Opn)(ho:∀i,OpnOk (o i))(m T k:Nat)(hm:m+6+L0.sl.length<=T)(hk:T<k):∃Ls zs,Runs Γ n L0.sl.length m T k o L0 Ls zs:=by
 obtain⟨ns,ens⟩:∃ns,ns=L0.sl.length:=⟨_,rfl⟩;rw[<-ens]at hm⊢
 have step:∀x:Nat×LSt,∃z,(x.1<900->Rt x.2 n->x.2.tl.length<=x.1->x.2.sl.length=ns->Did Γ n ns m T k x.1 (o x.1) x.2 z):=by
  rintro⟨i,L⟩;by_cases hc:i<900/\Rt L n/\L.tl.length<=i/\L.sl.length=ns;.obtain⟨h1,h2,h3,h4⟩:=hc;obtain⟨L',a,e,tk',k',r1,r2,r3,r4,r5,r6,r7,r8⟩:=mdo L n h2 (o i) oO (ho i) m T k oO hk (Γ:=Γ);exact⟨(L',(a,e),(tk',k')),λ _ _ _ _=>⟨r1,by show L'.tl.length<=i+1;omega,by show L'.sl.length=ns;rw[r2.ns,h4],r2,by show m+6+ns<=tk';omega,r5,r6,r7,r8⟩⟩
  exact⟨(L,(0,0),(0,0)),λ h1 h2 h3 h4=>absurd ⟨h1,h2,h3,h4⟩ hc⟩
 obtain⟨F,hF⟩:=Classical.axiomOfChoice step;let Ls:Nat->LSt:=λ i=>Nat.rec L0 (λ i L=>(F (i,L)).1) i;have hs:∀i,Ls (i+1)=(F (i,Ls i)).1:=λ i=>rfl
 have hrt:∀i,i<=900->Rt (Ls i) n/\(Ls i).tl.length<=i/\(Ls i).sl.length=ns:=λ i=>by
  induction i with
  |zero=>exact λ _=>⟨h,by show L0.tl.length<=0;rw[h0];exact aF _,ens.symm⟩
  |succ i ih=>intro hi;obtain⟨a1,a2,a3⟩:=ih oO;have:=hF (i,Ls i) (by show i<900;omega) a1 a2 a3;rw[hs];exact⟨this.rt,this.nt,this.nsl⟩
 exact⟨Ls,λ i=>F (i,Ls i),⟨rfl,hs,hrt,λ i hi=>by obtain⟨a1,a2,a3⟩:=hrt i oO;exact hF (i,Ls i) hi a1 a2 a3⟩⟩
theorem Runs.later {n ns m T k:Nat}{o:Nat->Opn}{L0:LSt}{Ls:Nat->LSt}{zs:Nat->LSt×(Int×Int)×(Nat×Nat)}(h:Runs Γ n ns m T k o L0 Ls zs):∀ {i j:Nat},i<=j->j<=900->Later (Ls i) (Ls j):=λ {i j} hij=>by
 induction j with
 |zero=>intro _;obtain rfl:i=0:=oO;exact JS _
 |succ j ih=>
  intro hj;by_cases e:i=j+1;.subst e;exact JS _
  have:=(h.did j oO).lat;rw[<-h.s j]at this;exact(ih oO oO).trans this
end Go.Proofs.T
end
section
namespace Go.Proofs.T
open Go Go.AM Go.Proofs
variable{Γ:dL}
def zst7:List AVal:=[.lit (.int .i64 0),.lit (.int .u64 0),.lit (.slice aC 0 0),.lit (.slice aC 0 0),.lit (.slice aC 0 0),.lit (.slice aC 0 0),.lit (.slice aC 0 0)]
end Go.Proofs.T
end
section
namespace Go.AM
open Go
theorem VLe.rds {s n:Nat}{f g:Nat->List AVal}(h:∀i,i<n->VLes (f i) (g i)):VLe (.rd s n f) (.rd s n g):=λ w G ρ A cv hv=>by
 cases hv with
 |rd0=>exact .rd0
 |rd gg a1 a2 a3 a4 a5 a6=>
  have key:∀i j v,i<n->(g i)[j]? =aA v->∃u,(f i)[j]? =aA u/\VLe u v:=λ i j v hi hj=>by
   obtain⟨h1,h2⟩:=(h i hi).spec;have hlt:j<(f i).length:=by have:=(aK.1 hj).1;omega
   exact⟨_,aJ hlt,h2 j _ v (aJ hlt) hj⟩
  refine .rd gg a1 a2 a3 (λ i hi=>by rw[←((h i hi).spec).1];exact a4 i hi) (λ i j v hi hj=>?_) (λ i j v hi hj=>?_);.obtain⟨u,hu,_⟩:=key i j v hi hj;exact a5 i j u hi hu
  obtain⟨u,hu,hle⟩:=key i j v hi hj;exact hle _ _ _ _ _ (a6 i j u hi hu)
theorem bAL{P:Program}{Γ:dL}{f:FuncId}{k:Nat}{args args':List AVal}{Hc:aO}{Q:Nat->AVal->aO->Prop}(h:Tr P Γ f k args' Hc Q)(hle:VLes args args'):Tr P Γ f k args Hc Q:=by
 intro A hA w G ρ cargs hrel hvs;have hle:=hle.spec
 exact h A hA w G ρ cargs hrel ⟨by rw[<-hle.1];exact hvs.1,λ j v hj=>by
  have hlt:j<args.length:=by have:=(aK.1 hj).1;have:=hle.1;omega
  exact hle.2 j _ _ (aJ hlt) hj _ _ _ _ _ (hvs.2 j _ (aJ hlt))⟩
end Go.AM
end
section
namespace Go.Proofs.T
open Go Go.AM Go.Proofs
def tA(s:St):LSt:=⟨s.cpus,s.credit,(aN s.ng).map λ g=>(s.par g,s.wt g),(aN s.nk).map s.clk,(aN s.nu).map s.cur,(aN s.nt).map s.tsk,(aN s.ns).map λ g=>(aN (s.nsp g)).map (s.sp g)⟩
theorem kZ{α:Type}{n i:Nat}{f:Nat->α}{d:α}(h:i<n):((aN n).map f).getD i d=f i:=by simp[aR,h]
theorem a6W(s:St):VLe (.agg s.cells) (.agg (tA s).st.cells):=by
 have e1:(tA s).st.ng=s.ng:=by simp[tA,LSt.st]
 have e2:(tA s).st.nk=s.nk:=by simp[tA,LSt.st]
 have e3:(tA s).st.nu=s.nu:=by simp[tA,LSt.st]
 have e4:(tA s).st.nt=s.nt:=by simp[tA,LSt.st]
 have e5:(tA s).st.ns=s.ns:=by simp[tA,LSt.st]
 refine DP (.cons (bJ _) (.cons (bJ _) (.cons ?_ (.cons ?_ (.cons ?_ (.cons ?_ (.cons ?_ .nil)))))));.rw[e1];refine VLe.rd λ i hi=>?_;simp only[gf,tA,LSt.st];rw[kZ hi]
 .rw[e2];refine VLe.rd λ i hi=>?_;simp only[kf,tA,LSt.st];rw[kZ hi]
 .rw[e3];refine VLe.rd λ i hi=>?_;simp only[uf,tA,LSt.st];rw[kZ hi]
 .rw[e4];refine VLe.rd λ i hi=>?_;simp only[tf,tA,LSt.st];rw[kZ hi]
 rw[e5];refine VLe.rds λ i hi=> .cons ?_ .nil;have e6:(tA s).st.nsp i=s.nsp i:=by show(((tA s).sl.getD i []).length)=_;simp only[tA];rw[kZ hi];simp
 rw[e6];refine VLe.rd λ c hc=>?_;have e7:(tA s).st.sp i c=s.sp i c:=by show((tA s).sl.getD i []).getD c default=_;simp only[tA];rw[kZ hi,kZ hc]
 simp only[sf,e7]
def TkR(t:Tk):Prop:=0<=t.mask/\t.mask<18446744073709551616/\0<=t.v/\t.v<=18446744073709551615/\0<=t.r
def SpR(x:Sp):Prop:=0<=x.v/\x.v<=18446744073709551615/\0<=x.r/\0<=x.floor/\x.floor<=18446744073709551615
structure PreW (s:St):Prop where
 sm:s.Small
 nt:s.nt<=200
 ns:s.ns<=12
 p1:∀g,g<s.ns->s.nsp g<=12
 c0:0<=s.credit
 k:Kinds s
 tv:∀i,0<=(s.tsk i).v
 f0:∀g c,0<=(s.sp g c).floor
 f1:∀g c,(s.sp g c).floor<=18446744073709551615
theorem PreW.pre {s:St}(h:PreW s):PreOk s:=⟨h.sm,h.ns,h.p1⟩
theorem PreW.tkr {s:St}(h:PreW s)(i:Nat):TkR (s.tsk i):=⟨h.k.wf.mask0 i,h.k.wf.mask1 i,h.tv i,h.k.wf.tv i,h.k.wf.tr i⟩
theorem PreW.spr {s:St}(h:PreW s)(g c:Nat):SpR (s.sp g c):=⟨h.k.v0 g c,h.k.wf.sv g c,h.k.wf.sr g c,h.f0 g c,h.f1 g c⟩
theorem aYM {s':St}(sm:s'.Small)(e4:s'.nt<=200)(e5:s'.ns<=12)(e6:∀g,g<s'.ns->s'.nsp g<=12)(e7:0<=s'.credit)(ht:∀i,TkR (s'.tsk i))(hs:∀g c,SpR (s'.sp g c)):PreW s':=
 ⟨sm,e4,e5,e6,e7,⟨⟨λ i=>(ht i).1,λ i=>(ht i).2.1,λ i=>(ht i).2.2.2.1,λ i=>(ht i).2.2.2.2,λ g c=>(hs g c).2.1,λ g c=>(hs g c).2.2.1⟩,λ g c=>(hs g c).1⟩,λ i=>(ht i).2.2.1,λ g c=>(hs g c).2.2.2.1,λ g c=>(hs g c).2.2.2.2⟩
end Go.Proofs.T
end
section
namespace Go.Proofs.T
open Go Go.AM Go.Proofs
variable{Γ:dL}
theorem aEB(a b:St)(hq:PreOk a):(uM a b).length<=100000:=by
 have:=aEZ (b:=b) hq;unfold uM;split;.simp
 split;.simp
 omega
end Go.Proofs.T
end
section
namespace Go.AM
open Go
abbrev lV:=List (Int×Value×Nat)
def tT(q:IntKind)(e:Int×Value×Nat):MapEntry:={key:= .int q e.1,val:=e.2.1,born:=e.2.2}
def aOP(q:IntKind)(e:Int×Value×Nat):List AVal:=[.lit (.int q e.1),.lit e.2.1,.lit (.int .i64 e.2.2)]
def mS(q:IntKind)(l:lV)(clock:Nat):Blk:=⟨3,aB,[.lit (.int .i64 clock),.lit (.int .i64 l.length),.lit (.int .i64 1)]::l.map (aOP q)⟩
theorem aVD{α:Type}{f:α->List Value}(hf:∀x,(f x).length=3):∀(l:List α) (r c:Nat),c<3->(l.flatMap f)[r*3+c]? =(l[r]?).bind λ x=>(f x)[c]?
 |[],r,c,_=>sS
 |x::l,0,c,h=>by rw[List.flatMap_cons,qW,fH,gP (by rw[hf];exact h)];rfl
 |x::l,r+1,c,h=>by rw[List.flatMap_cons,iK (by rw[hf];omega),hf];have e:(r+1)*3+c-3=r*3+c:=oO;rw[e,aVD hf l r c h];rfl
theorem aJS(es:List MapEntry)(clock r c:Nat)(h:c<3):(aAI es clock)[(r+1)*3+c]? =(es[r]?).bind λ e=>[e.key,e.val,bA .i64 e.born][c]? :=by have e:(r+1)*3+c=r*3+c+1+1+1:=oO;rw[e];simp only[aAI,fM];exact aVD (λ _=>rfl) es r c h
theorem IX{w:World}{G:Nat->Prop}{ρ:cY}{A:bZ}{q:IntKind}{l:lV}{clock b:Nat}(h:BRel w G ρ A (mS q l clock) b)(hs:shp w b=aA aC):
 ∃es:Array MapEntry,w.heap[b]? =aA (.map es clock)/\es.toList=l.map (tT q):=by
 obtain⟨⟨C,o,⟨hC,hO⟩,hrows⟩,hlen⟩:=h;have lit:∀r row c v,(mS q l clock).rows[r]? =aA row->row[c]? =aA (.lit v)->C[r*3+c]? =aA v:=λ r row c v h1 h2=>by obtain⟨cv,h3,h4⟩:=hrows r row c _ h1 h2;cases h4;exact h3
 have e0:=lit 0 _ 0 _ rfl rfl;have e1:=lit 0 _ 1 _ rfl rfl;have e2:=lit 0 _ 2 _ rfl rfl
 cases hO with
 |cells=>simp[shp,hC]at hs
 |iter=>simp[GK]at e2
 | @map es clock'=>
  simp[aAI]at e0 e1;have hclk:clock'=clock:=oO;have hln:es.size=l.length:=oO;subst hclk;refine⟨es,hC,dZ λ r=>?_⟩;by_cases hr:r<l.length
  .have hrow:(mS q l clock').rows[r+1]? =aA (aOP q l[r]):=by simp[mS,aJ hr]
   have a0:=lit (r+1) _ 0 _ hrow rfl;have a1:=lit (r+1) _ 1 _ hrow rfl;have a2:=lit (r+1) _ 2 _ hrow rfl;rw[cJ,aJS _ _ _ _ oO]at a0 a1 a2;have hx:es.toList[r]? =aA (es[r]'oO):=by rw[bF,aQ]
   rw[hx]at a0 a1 a2⊢
   rw[aP,aJ hr];simp at a0 a1 a2;simp only[bU,tT];congr 1;rw[<-a0,<-a1];have:(es[r]'oO).born=l[r].2.2:=oO;rw[<-this]
  rw[aX (by simp;omega),aX (by simp;omega)]
theorem aJQ{w:World}{G:Nat->Prop}{ρ:cY}{A:bZ}{q:IntKind}{l:lV}{clock:Nat}{es:Array MapEntry}(he:es.toList=l.map (tT q)):
 (∀(r:Nat) row,(mS q l clock).rows[r]? =aA row->row.length=(mS q l clock).sz)∧
 ∀r row c v,(mS q l clock).rows[r]? =aA row->row[c]? =aA v->∃cv,(aAI es.toList clock).toArray[r*(mS q l clock).sz+c]? =aA cv/\V w G (if(mS q l clock).pure then bS else ρ) (if(mS q l clock).pure then cI else A) v cv:=by
 constructor
 .intro r row h
  cases r with
  |zero=>cases h;rfl
  |succ r=>simp only[mS,fM,aP,aG]at h;obtain⟨e,_,rfl⟩:=h;rfl
 intro r row c v h1 h2;show ∃cv,(aAI es.toList clock).toArray[r*3+c]? =aA cv/\V w G bS cI v cv;rw[cJ]
 cases r with
 |zero=>
  cases h1;have hl:es.toList.length=l.length:=by rw[he];simp
  match c,h2 with
  |0,h2=>cases h2;exact⟨_,rfl,.lit⟩
  |1,h2=>cases h2;exact⟨_,by simp only[aAI,hl];rfl,.lit⟩
  |2,h2=>cases h2;exact⟨_,rfl,.lit⟩
  |c+3,h2=>simp at h2
 |succ r=>
  simp only[mS,fM,aP,aG]at h1;obtain⟨e,h1,rfl⟩:=h1;have hc:c<3:=by have:=(aK.1 h2).1;simpa [aOP]using this
  rw[aJS _ _ _ _ hc,he,aP,h1]
  match c,h2 with
  |0,h2=>cases h2;exact⟨_,rfl,.lit⟩
  |1,h2=>cases h2;exact⟨_,rfl,.lit⟩
  |2,h2=>cases h2;exact⟨_,rfl,.lit⟩
  |c+3,h2=>omega
section
variable{P:Program}{Γ:dL}{o:Oper}{ev:Operand->Option AVal}{get:Nat->Option Blk}{k:Nat}
theorem TG{w w':World}{G:Nat->Prop}{ρ:cY}{H:lU}{A A':bZ}{q:IntKind}{id b:Nat}{l l':lV}{clock clock':Nat}{es es':Array MapEntry}
 (hr:HRel Γ w G ρ H) (hH:H id=aA (mS q l clock,A')) (hAA:∀i,A' i->A i) (hb:ρ id=aA (b,3)) (hm:w.heap[b]? =aA (.map es clock)) (he:es'.toList=l'.map (tT q))
 (hw:w'.heap=w.heap.setIfInBounds b (.map es' clock')) (h1:w'.os=w.os) (h2:w'.tape=w.tape) (h3:w'.output=w.output):
 HRel Γ w' G ρ (jD H (λ i=>A i\/(k<=i/\i<k)) [(id,aA (mS q l' clock'))])/\Step (λ i=>¬(k<=i/\i<k)) w G ρ w' G ρ:=by
 have hbl:b<w.heap.size:=(dA.1 hm).1;have hnew:w'.heap[b]? =aA (.map es' clock'):=by rw[hw];simp[hbl]
 have hoth:∀j,j≠b->w'.heap[j]? =w.heap[j]? :=λ j hj=>by rw[hw,lH (Ne.symm hj)]
 have hA:=(hr.blk id _ A' hH).1;have hrel:=aJQ (w:=w) (G:=G) (ρ:=ρ) (A:=A) (clock:=clock') he
 obtain⟨g1,g2⟩:=hr.rewriteO (B:=mS q l clock) hb id (.inl rfl) (mS q l' clock') rfl _ (.map es' clock') .map A (λ i=>A i\/(k<=i/\i<k)) (.inl rfl) (λ _ h=> .inl h) (.inl (hAA _ hA))
  w' hnew hoth (by rw[hw];simp) (by simp[shp,hnew,hm]) h1 h2 h3 hrel.1 hrel.2
 have hnm:fF (fF ρ id aC) id (aA (b,3))=ρ:=funext λ i=>by
  simp only[fF];split;.rename_i he;rw[he,hb]
  rfl
 rw[show(mS q l clock).sz=3 from rfl,hnm]at g1 g2;have hup:jD H (λ i=>A i\/(k<=i/\i<k)) [(id,aA (mS q l' clock')),(id,aC)]=jD H (λ i=>A i\/(k<=i/\i<k)) [(id,aA (mS q l' clock'))]:=funext λ i=>by simp only[jD];split<;>simp_all
 rw[hup]at g1;exact⟨g1,⟨g2.size,g2.keep,g2.shape,g2.g,g2.g',g2.own,λ i _=>g2.ids i (Or.inr rfl),g2.os,g2.tape,g2.output⟩⟩
def bCQ:AVal->Option Value
 | .lit v=>aA v
 |_=>aC
def UW:AVal->Option Value
 | .lit v=>aA v
 | .agg cs=>(cs.mapM bCQ).map λ(l:List Value)=>Value.agg l.toArray
 |_=>aC
theorem a4M{w:World}{G:Nat->Prop}{ρ:cY}{A:bZ}{v:AVal}{cv x:Value}(h:V w G ρ A v cv)(hl:UW v=aA x):cv=x:=by
 cases h with
 |lit=>simpa [UW]using hl
 | @agg _ _ cells cs h1 h2=>
  simp only[UW,aG]at hl;obtain⟨l,hl,rfl⟩:=hl;have hlen:=Lib.mapM_length hl;congr 1;refine aIG (by simp;omega) λ i hi hi'=>?_;have hic:i<cells.length:=oO;obtain⟨u,h3,h4⟩:=Lib.mapM_at hl i cells[i] (aJ hic);have h5:=h2 i _ (aJ hic);generalize cells[i]=c at h4 h5
  cases c with
  |lit y=>
   have hy:u=y:=by simpa [bCQ]using h4.symm
   subst hy;have h6:cs.getD i undef=u:=by cases h5;rfl
   rw[aI,aQ hi]at h6;have h7:l[i]? =aA u:=h3;rw[aJ (by simpa using hi')]at h7;simp at h6 h7;simp[h6,h7]
  |_=>cases h4
 |_=>simp[UW]at hl
def AH(l:lV)(n:Int):Option Value:=(l.find? λ e=>e.1==n).map (·.2.1)
def PP(l:lV)(n:Int):lV:=l.filter λ e=> !(e.1==n)
def HS(l:lV):Prop:=(l.map (·.1)).Nodup
theorem PE{l:lV}{n:Int}(h:∀e∈l,e.1≠n):AH l n=aC:=by unfold AH;rw[a5C.2 (λ e he=>by simpa using h e he)];rfl
theorem PD{l:lV}{n:Int}(hu:HS l){j:Nat}{e:Int×Value×Nat}(hj:l[j]? =aA e)(he:e.1=n):AH l n=aA e.2.1:=by
 induction l generalizing j with
 |nil=>simp at hj
 |cons a l ih=>
  simp only[HS,bI,a5A]at hu
  cases j with
  |zero=>cases hj;simp[AH,he]
  |succ j=>have h1:l[j]? =aA e:=hj;have h2:a.1≠n:=λ h=>hu.1 (h▸he▸dB.2 ⟨e,iG h1,rfl⟩);have:=ih hu.2 h1;simpa [AH,h2]using this
theorem UJ{l:lV}{n:Int}(h:∀e∈l,e.1≠n):PP l n=l:=wF.2 λ e he=>by simpa using h e he
theorem aOS{l:lV}{n:Int}(hu:HS l){j:Nat}{e:Int×Value×Nat}(hj:l[j]? =aA e)(he:e.1=n):PP l n=l.eraseIdx j:=by
 induction l generalizing j with
 |nil=>simp at hj
 |cons a l ih=>
  simp only[HS,bI,a5A]at hu
  cases j with
  |zero=>cases hj;have:PP l n=l:=UJ λ x hx h=>hu.1 (he▸h▸dB.2 ⟨x,hx,rfl⟩);simpa [PP,he]using this
  |succ j=>
   have h1:l[j]? =aA e:=hj;have h2:a.1≠n:=λ h=>hu.1 (h▸he▸dB.2 ⟨e,iG h1,rfl⟩);have:=ih hu.2 h1;simp only[PP]at this⊢
   rw[List.filter_cons_of_pos (by simpa using h2),this];rfl
theorem aKV{α β:Type}(f:α->β):∀(l:List α) (j:Nat),(l.eraseIdx j).map f=(l.map f).eraseIdx j
 |[],j=>sS
 |a::l,0=>rfl
 |a::l,j+1=>by simp[aKV f l j]
structure MapT (P:Program) (t kt et:TypeId) (q:IntKind) (z:Value):Prop where
 t:P.underlying t=aA (.map kt et)
 k:P.underlying kt=aA (.int q)
 z:(P.info? et).bind (·.zero)=aA z
theorem MapT.zero {t kt et:TypeId}{q:IntKind}{z:Value}(h:MapT P t kt et q z)(w:World):(zeroValue et).run P w= .ok z w:=by have:=h.z;simp only[cE]at this;obtain⟨i,h1,h2⟩:=this;simp[zeroValue,typeInfo,h1,h2]
def wfK(q:IntKind)(n:Int):Bool:=(Lit.int q n).wf
theorem JE{kt:TypeId}{q:IntKind}(hk:P.underlying kt=aA (.int q)){l:lV}(hl:∀e∈l,wfK q e.1=aB){n:Int}(hn:wfK q n=aB)(w:World):
 ((Instr.findKey kt (.int q n) (l.map (tT q))).run P w= .ok aC w/\∀e∈l,e.1≠n)∨
 ∃j e,(Instr.findKey kt (.int q n) (l.map (tT q))).run P w= .ok (aA (j,e.2.1)) w/\l[j]? =aA e/\e.1=n:=by
 rcases(Maps.int_keyed hk).find w (Maps.keyOf_int_mk hk hn) (l.map (tT q)) (λ x hx=>by obtain⟨e,he,rfl⟩:=dB.1 hx;exact⟨_,Maps.keyOf_int_mk hk (hl e he)⟩)with⟨h1,h2⟩|⟨j,x,h1,h2,h3⟩
 .refine .inl ⟨h1,λ e he hc=>h2 _ (dB.2 ⟨e,he,rfl⟩) (by simp[tT,hc])⟩
 rw[aP,aG]at h2;obtain⟨e,h4,rfl⟩:=h2;exact .inr ⟨j,e,h1,h4,by simpa [tT]using h3⟩
theorem TL{t kt et id:Nat}{q:IntKind}{z:Value}{m x:Operand}{n:Int}{l:lV}{clock:Nat}(ho:o.op= .lookup t m x aB)(ht:MapT P t kt et q z)(hm:ev m=aA (.mp id))(hx:ev x=aA (.lit (.int q n)))
 (hB:get id=aA (mS q l clock)) (hl:∀e∈l,wfK q e.1=aB) (hn:wfK q n=aB) (hu:HS l):Good P Γ o ev get k ⟨.tup [.lit ((AH l n).getD z),.lit (.bool (AH l n).isSome)],k,[],[id]⟩:=by
 refine⟨cF λ w G ρ H A a hr hrd hop=>?_,λ i hi=>by simp at hi;rw[hi,hB];rfl,aF _⟩;have hvm:=hop m (by simp[ho,Op.operands]) _ hm;have hvx:=V_lit (hop x (by simp[ho,Op.operands]) _ hx);obtain⟨B',A',h2,hH,_⟩:=hrd id sS;rw[hB]at h2;cases h2;obtain⟨_,b,hb,_,hBR⟩:=hr.blk id _ A' hH;generalize hev:a.eval m=cv at hvm
 cases hvm with
 |dangm _ hn'=>rw[hb]at hn';cases hn'
 |mp ha hρ hsh=>
  rw[hb]at hρ;cases hρ;obtain⟨es,hes,hel⟩:=IX hBR hsh;refine⟨.tuple #[(AH l n).getD z,.bool (AH l n).isSome],?_,.tup rfl λ j v hj=>?_⟩
  .rcases JE ht.k hl hn w with⟨h3,h4⟩|⟨j,e,h3,h4,h5⟩;.rw[PE h4];rw[<-hel]at h3;simp[execOp,ho,hev,hvx,Instr.lookup,run_underlying ht.t,MapKept.run_getObj_map hes,(Maps.int_keyed ht.k).check w _ (Maps.keyOf_int_mk ht.k hn),h3,ht.zero,aID]
   rw[PD hu h4 h5];rw[<-hel]at h3;simp[execOp,ho,hev,hvx,Instr.lookup,run_underlying ht.t,MapKept.run_getObj_map hes,(Maps.int_keyed ht.k).check w _ (Maps.keyOf_int_mk ht.k hn),h3,aID]
  match j,hj with
  |0,hj=>cases hj;exact .lit
  |1,hj=>cases hj;exact .lit
  |j+2,hj=>simp at hj
theorem ZN{t kt et id:Nat}{q:IntKind}{z:Value}{m x y:Operand}{n:Int}{l:lV}{clock:Nat}{av:AVal}{v:Value}(ho:o.op= .mapUpdate t m x y)(ht:MapT P t kt et q z)(hm:ev m=aA (.mp id))
 (hx:ev x=aA (.lit (.int q n))) (hy:ev y=aA av) (hv:UW av=aA v) (hB:get id=aA (mS q l clock)) (hl:∀e∈l,wfK q e.1=aB) (hn:wfK q n=aB) (hf:∀e∈l,e.1≠n):
 Good P Γ o ev get k ⟨.junk,k,[(id,aA (mS q (l++[(n,v,clock)]) (clock+1)))],[id]⟩:=by
 refine⟨λ w G ρ H A a hr hA hfr hrd hop next Q hN=>?_,λ i hi=>by simp at hi;rw[hi,hB];rfl,aF _⟩;have hvm:=hop m (by simp[ho,Op.operands]) _ hm;have hvx:=V_lit (hop x (by simp[ho,Op.operands]) _ hx);have hvy:=a4M (hop y (by simp[ho,Op.operands]) _ hy) hv;obtain⟨B',A',h2,hH,hAA⟩:=hrd id sS;rw[hB]at h2;cases h2;obtain⟨_,b,hb,_,hBR⟩:=hr.blk id _ A' hH;generalize hev:a.eval m=cv at hvm
 cases hvm with
 |dangm _ hn'=>rw[hb]at hn';cases hn'
 |mp ha hρ hsh=>
  rw[hb]at hρ;cases hρ;obtain⟨es,hes,hel⟩:=IX hBR hsh;rcases JE ht.k hl hn w with⟨h3,h4⟩|⟨j,e,h3,h4,h5⟩
  .rw[<-hel]at h3;have hrun:(execOp a.eval o).run P w= .ok .skip {w with heap:=w.heap.setIfInBounds b (.map (es.push ⟨.int q n,v,clock⟩) (clock+1))}:=by simp[execOp,ho,hev,hvx,hvy,Instr.mapUpdate,run_underlying ht.t,MapKept.run_getObj_map hes,(Maps.int_keyed ht.k).check w _ (Maps.keyOf_int_mk ht.k hn),h3,MapKept.run_setObj_map _ hes,aID]
   obtain⟨g1,g2⟩:=TG (k:=k) (l':=l++[(n,v,clock)]) (clock':=clock+1) (es':=es.push ⟨.int q n,v,clock⟩) (w':={w with heap:=w.heap.setIfInBounds b (.map (es.push ⟨.int q n,v,clock⟩) (clock+1))}) hr hH hAA hb hes (by simp[hel,tT]) rfl rfl rfl rfl;unfold Oper.wp;rw[hrun];exact hN _ G ρ undef g1 .junk g2
  exact absurd h5 (hf e (iG h4))
theorem aCA{t kt et id:Nat}{q:IntKind}{z:Value}{m x:Operand}{n:Int}{l:lV}{clock:Nat}(ho:o.op= .call {callee:= .builtin .delete,args:= #[m,x],argTypes:= #[t,kt]})(ht:MapT P t kt et q z)(hm:ev m=aA (.mp id))
 (hx:ev x=aA (.lit (.int q n))) (hB:get id=aA (mS q l clock)) (hl:∀e∈l,wfK q e.1=aB) (hn:wfK q n=aB) (hu:HS l):
 Good P Γ o ev get k ⟨.lit (.tuple #[]),k,[(id,aA (mS q (PP l n) clock))],[id]⟩:=by
 refine⟨λ w G ρ H A a hr hA hfr hrd hop next Q hN=>?_,λ i hi=>by simp at hi;rw[hi,hB];rfl,aF _⟩;have hvm:=hop m (by simp[ho,Op.operands,Call.operands]) _ hm;have hvx:=V_lit (hop x (by simp[ho,Op.operands,Call.operands]) _ hx);obtain⟨B',A',h2,hH,hAA⟩:=hrd id sS;rw[hB]at h2;cases h2;obtain⟨_,b,hb,_,hBR⟩:=hr.blk id _ A' hH;generalize hev:a.eval m=cv at hvm
 cases hvm with
 |dangm _ hn'=>rw[hb]at hn';cases hn'
 |mp ha hρ hsh=>
  rw[hb]at hρ;cases hρ;obtain⟨es,hes,hel⟩:=IX hBR hsh
  have key:∃es':Array MapEntry,es'.toList=(PP l n).map (tT q)/\(execOp a.eval o).run P w= .ok (.value (.tuple #[])) {w with heap:=w.heap.setIfInBounds b (.map es' clock)}:=by
   rcases JE ht.k hl hn w with⟨h3,h4⟩|⟨j,e,h3,h4,h5⟩;.rw[<-hel]at h3;refine⟨es,by rw[UJ h4,hel],?_⟩;simp[execOp,ho,resolve,invoke,builtin,hev,hvx,Builtin.delete_,run_underlying ht.t,MapKept.run_getObj_map hes,(Maps.int_keyed ht.k).check w _ (Maps.keyOf_int_mk ht.k hn),h3,MapKept.run_setObj_map _ hes,aID]
   rw[<-hel]at h3
   have hjl:j<es.size:=by
    have h6:=(aK.1 h4).1;have h7:es.toList.length=l.length:=by rw[hel];simp
    simp at h7;omega
   refine⟨es.eraseIdxIfInBounds j,?_,?_⟩;.unfold Array.eraseIdxIfInBounds;rw[dif_pos hjl,aOS hu h4 h5];simp only[hel,Array.toList_eraseIdx];exact(aKV _ _ _).symm
   simp[execOp,ho,resolve,invoke,builtin,hev,hvx,Builtin.delete_,run_underlying ht.t,MapKept.run_getObj_map hes,(Maps.int_keyed ht.k).check w _ (Maps.keyOf_int_mk ht.k hn),h3,MapKept.run_setObj_map _ hes,aID]
  obtain⟨es',he',hrun⟩:=key;obtain⟨g1,g2⟩:=TG (k:=k) (l':=PP l n) (clock':=clock) (es':=es') (w':={w with heap:=w.heap.setIfInBounds b (.map es' clock)}) hr hH hAA hb hes he' rfl rfl rfl rfl;unfold Oper.wp;rw[hrun];exact hN _ G ρ _ g1 .lit g2
theorem OJ{t:Nat}(q:IntKind)(ho:o.op= .makeMap t aC):Good P Γ o ev get k ⟨.mp k,k+1,[(k,aA (mS q [] 0))],[]⟩:=by
 refine⟨λ w G ρ H A a hr hA hfr hrd hop next Q hN=>?_,λ i hi=>by simp at hi,mF _⟩;obtain⟨hρ,hf⟩:=hfr k (aF _) (cW _);have hkA:¬A k:=λ hk=>qR _ (hA k hk);have hrun:(execOp a.eval o).run P w= .ok (.value (.map (aA w.heap.size))) (w.alloc (.map #[] 0)):=by have hmm:(Instr.makeMap t aC).run P w= .ok (.map (aA w.heap.size)) (w.alloc (.map #[] 0)):=rfl;simp[execOp,ho,hmm]
 have hrows:=aJQ (w:=w) (G:=G) (ρ:=ρ) (A:=A) (q:=q) (l:=[]) (clock:=0) (es:= #[]) rfl;have hrel:=hr.allocO k hρ hf (mS q [] 0) _ (.map #[] 0) .map A (λ i=>A i\/(k<=i/\i<k+1)) hkA (λ _ h=> .inl h) (.inr ⟨aF _,cW _⟩) hrows.1 hrows.2 w rfl rfl rfl rfl;have hst:=lY (w:=w) (G:=G) (ρ:=ρ) k 3 (.map #[] 0) w rfl rfl rfl rfl;unfold Oper.wp;rw[hrun];refine hN _ G _ _ hrel (.mp (b:=w.heap.size) (s:=3) (.inr ⟨aF _,cW _⟩) (by simp[fF];rfl) ?_) ⟨hst.size,hst.keep,hst.shape,hst.g,hst.g',hst.own,λ i hi=>hst.ids i (λ he=>hi (oO:k<=i/\i<k+1)),hst.os,hst.tape,hst.output⟩;show shp (w.alloc (.map #[] 0)) w.heap.size=aA aC;have h9:=iU w (.map #[] 0);unfold shp;rw[h9];rfl
end
def kM(mid since:Nat)(seen:List Nat)(c0:Nat):Blk:=
 ⟨3,aE,[.lit (.int .i64 c0),.lit (.int .i64 seen.length),.lit (.int .i64 2)]::[.mp mid,.lit (.int .i64 since),.lit (.int .i64 0)]::seen.map λ(x:Nat)=>[.lit (.int .i64 (x:Int)),.lit (.int .i64 0),.lit (.int .i64 0)]⟩
theorem aAZ(m:Option Nat)(since:Nat)(seen:Array Nat)(c0 r c:Nat)(h:c<3):(GK m since seen c0)[(r+2)*3+c]? =(seen.toList[r]?).bind λ(x:Nat)=>[bA .i64 (x:Int),.int .i64 0,.int .i64 0][c]? :=by have e:(r+2)*3+c=r*3+c+1+1+1+1+1+1:=oO;rw[e];simp only[GK,fM];exact aVD (λ _=>rfl) _ r c h
theorem aKH{w:World}{G:Nat->Prop}{ρ:cY}{A:bZ}{mid since c0 b bm s:Nat}{seen:List Nat}(h:BRel w G ρ A (kM mid since seen c0) b)(hs:shp w b=aA aC)(hm:ρ mid=aA (bm,s)):
 w.heap[b]? =aA (.mapIter (aA bm) since seen.toArray c0)/\shp w bm=aA aC:=by
 obtain⟨⟨C,o,⟨hC,hO⟩,hrows⟩,hlen⟩:=h;have lit:∀r row c v,(kM mid since seen c0).rows[r]? =aA row->row[c]? =aA (.lit v)->C[r*3+c]? =aA v:=λ r row c v h1 h2=>by obtain⟨cv,h3,h4⟩:=hrows r row c _ h1 h2;cases h4;exact h3
 have e0:=lit 0 _ 0 _ rfl rfl;have e1:=lit 0 _ 1 _ rfl rfl;have e2:=lit 0 _ 2 _ rfl rfl;have e4:=lit 1 _ 1 _ rfl rfl;obtain⟨cm,hcm,hvm⟩:=hrows 1 _ 0 _ rfl rfl
 cases hO with
 |cells=>simp[shp,hC]at hs
 |map=>simp[aAI]at e2
 | @iter m since' seen' c0'=>
  have hcm2:(GK m since' seen' c0').toArray[3]? =aA cm:=hcm;simp[GK]at e0 e1 e4 hcm2;have hvm':V w G ρ A (.mp mid) cm:=by simpa [kM]using hvm
  subst hcm2;have hc0:c0'=c0:=oO;have hsi:since'=since:=oO;have hln:seen'.size=seen.length:=oO;subst hc0;subst hsi
  have hseen:seen'=seen.toArray:=by
   refine bGD (dZ λ r=>?_);by_cases hr:r<seen.length
   .have hrow:(kM mid since' seen c0').rows[r+2]? =aA [.lit (.int .i64 ((seen[r]:Nat):Int)),.lit (.int .i64 0),.lit (.int .i64 0)]:=by simp[kM,aJ hr]
    have a0:=lit (r+2) _ 0 _ hrow rfl;rw[cJ,aAZ _ _ _ _ _ _ oO]at a0;have hx:seen'.toList[r]? =aA (seen'[r]'oO):=by rw[bF,aQ]
    rw[hx]at a0⊢
    simp at a0;have:seen'[r]'oO=seen[r]:=oO;rw[this,aJ hr]
   rw[aX (by simp;omega),aX (by simp;omega)]
  subst hseen
  cases hvm' with
  |dangm _ hn=>rw[hm]at hn;cases hn
  |mp _ hρ hsm=>rw[hm]at hρ;cases hρ;exact⟨hC,hsm⟩
theorem aAY{w:World}{G:Nat->Prop}{ρ:cY}{A:bZ}{mid since c0 bm:Nat}{seen:List Nat}(hm:V w G ρ A (.mp mid) (.map (aA bm))):
 (∀(r:Nat) row,(kM mid since seen c0).rows[r]? =aA row->row.length=(kM mid since seen c0).sz)∧
 ∀ r row c v,(kM mid since seen c0).rows[r]? =aA row->row[c]? =aA v->∃cv,(GK (aA bm) since seen.toArray c0).toArray[r*(kM mid since seen c0).sz+c]? =aA cv∧
   V w G (if(kM mid since seen c0).pure then bS else ρ) (if(kM mid since seen c0).pure then cI else A) v cv:=by
 constructor
 .intro r row h
  match r,h with
  |0,h=>cases h;rfl
  |1,h=>cases h;rfl
  | r+2,h=>
    simp only[kM,fM,aP,aG]at h
    obtain⟨e,_,rfl⟩:=h
    rfl
 intro r row c v h1 h2;show ∃cv,(GK (aA bm) since seen.toArray c0).toArray[r*3+c]? =aA cv/\V w G ρ A v cv;rw[cJ]
 match r,h1 with
 | 0,h1=>
   cases h1
   match c,h2 with
   |0,h2=>cases h2;exact⟨_,rfl,.lit⟩
   |1,h2=>cases h2;exact⟨_,by simp only[GK,fZ];rfl,.lit⟩
   |2,h2=>cases h2;exact⟨_,rfl,.lit⟩
   |c+3,h2=>simp at h2
 | 1,h1=>
   cases h1
   match c,h2 with
   |0,h2=>cases h2;exact⟨_,rfl,hm⟩
   |1,h2=>cases h2;exact⟨_,rfl,.lit⟩
   |2,h2=>cases h2;exact⟨_,rfl,.lit⟩
   |c+3,h2=>simp at h2
 | r+2,h1=>
   have h4:(seen.map λ(x:Nat)=>[AVal.lit (.int .i64 (x:Int)),.lit (.int .i64 0),.lit (.int .i64 0)])[r]? =aA row:=h1
   rw[aP,aG]at h4
   obtain⟨e,h5,rfl⟩:=h4
   have hc:c<3:=by have:=(aK.1 h2).1;simpa using this
   rw[aAZ _ _ _ _ _ _ hc]
   have h3:seen.toArray.toList[r]? =aA e:=h5
   rw[h3]
   match c,h2 with
   |0,h2=>cases h2;exact⟨_,rfl,.lit⟩
   |1,h2=>cases h2;exact⟨_,rfl,.lit⟩
   |2,h2=>cases h2;exact⟨_,rfl,.lit⟩
   |c+3,h2=>omega
section
variable{P:Program}{Γ:dL}{o:Oper}{ev:Operand->Option AVal}{get:Nat->Option Blk}{k nt kb:Nat}
theorem NT{t kt et mid:Nat}{q:IntKind}{z:Value}{m:Operand}{l:lV}{clock:Nat}(ho:o.op= .range t m)(ht:MapT P t kt et q z)(hm:ev m=aA (.mp mid))(hB:get mid=aA (mS q l clock)):
 Good P Γ o ev get k ⟨.it k,k+1,[(k,aA (kM mid clock [] clock))],[mid]⟩:=by
 refine⟨λ w G ρ H A a hr hA hfr hrd hop next Q hN=>?_,λ i hi=>by simp at hi;rw[hi,hB];rfl,mF _⟩;obtain⟨hρk,hf⟩:=hfr k (aF _) (cW _);have hkA:¬A k:=λ hk=>qR _ (hA k hk);have hvm:=hop m (by simp[ho,Op.operands]) _ hm;obtain⟨B',A',h2,hH,hAA⟩:=hrd mid sS;rw[hB]at h2;cases h2;obtain⟨_,b,hb,_,hBR⟩:=hr.blk mid _ A' hH;generalize hev:a.eval m=cv at hvm;have hvm0:=hvm
 cases hvm with
 |dangm _ hn'=>rw[hb]at hn';cases hn'
 |mp ha hρ hsh=>
  rw[hb]at hρ;cases hρ;obtain⟨es,hes,hel⟩:=IX hBR hsh;have hrun:(execOp a.eval o).run P w= .ok (.value (.pointer (aA ⟨w.heap.size,0,aC⟩))) (w.alloc (.mapIter (aA b) clock #[] clock)):=by have:=run_range_map w t kt et b es clock ht.t hes;simp[execOp,ho,hev,this]
  have hrows:=aAY (since:=clock) (c0:=clock) (seen:=[]) hvm0;have hrel:=hr.allocO k hρk hf (kM mid clock [] clock) _ (.mapIter (aA b) clock #[] clock) .iter A (λ i=>A i\/(k<=i/\i<k+1)) hkA (λ _ h=> .inl h) (.inr ⟨aF _,cW _⟩) hrows.1 hrows.2 w rfl rfl rfl rfl;have hst:=lY (w:=w) (G:=G) (ρ:=ρ) k 3 (.mapIter (aA b) clock #[] clock) w rfl rfl rfl rfl;unfold Oper.wp;rw[hrun];refine hN _ G _ _ hrel (.it (b:=w.heap.size) (s:=3) (.inr ⟨aF _,cW _⟩) (by simp[fF];rfl) ?_) ⟨hst.size,hst.keep,hst.shape,hst.g,hst.g',hst.own,λ i hi=>hst.ids i (λ he=>hi (oO:k<=i/\i<k+1)),hst.os,hst.tape,hst.output⟩;show shp (w.alloc (.mapIter (aA b) clock #[] clock)) w.heap.size=aA aC;have h9:=iU w (.mapIter (aA b) clock #[] clock);unfold shp;rw[h9];rfl
structure GoodN (P:Program) (Γ:dL) (o:Oper) (ev:Operand->Option AVal) (get:Nat->Option Blk) (k:Nat) (rds:List Nat) (outs:Out->Prop):Prop where
 ok:∀w G ρ H (A:bZ) (a:Act),HRel Γ w G ρ H->(∀i,A i->i<k)->(∀id,id∈rds->∃B A',get id=aA B/\H id=aA (B,A')/\∀i,A' i->A i)→
  (∀x,x∈o.op.operands->∀v,ev x=aA v->V w G ρ A v (a.eval x))->∀(next:Act->World->Prop) (Q:Exit->Act->World->Prop),
    (∀out,outs out->∀w' G' ρ' cv,HRel Γ w' G' ρ' (jD H (λ i=>A i\/(k<=i/\i<k)) out.upd)->V w' G' ρ' (λ i=>A i\/(k<=i/\i<k)) out.v cv→
      Step (λ i=>¬(k<=i/\i<k)) w G ρ w' G' ρ'->next (a.put o.dst cv) w')->o.wp P a w next Q
 rds:∀id,id∈rds->(get id).isSome=aB
 k:∀out,outs out->out.k=k
theorem UX{fr:Fr}{H:aO}{Q:AQ}{id:Nat}{ops:Array Oper}{r:List Oper}(hops:ops.toList=o::r)(hd:mQ nt ops=aB)(hgd:o.guard=aC){rds:List Nat}{outs:Out->Prop}
 (hN:GoodN P Γ o (kV Γ fr) (look H) k rds outs) (h:∀out,outs out->Run P Γ ops r k (jE fr o.dst out.v) (lK H out.upd) (λ _ k' fr' H'=>kb<=k'->Q .normal k' fr' H')):W P Γ nt kb (.region id ops aE) Q k fr H:=λ A0 hA0 hk w G ρ a hi=>by
 refine wp_region ?_
 have hlen:ops.size=r.length+1:=by rw[<-pU,hops];rfl
 have ho:ops[0]? =aA o:=by rw[<-bF,hops];rfl
 have hdst:=zJ hd ho
 have hlt:=aHO (A0:=A0) hA0 hk
 rw[List.range_eq_range',hlen,List.range'_succ,wpOps_cons]
 unfold wpOp
 rw[ho]
 have hw:Region.wanted o (yielded ops a.tmps)=aB:=by unfold Region.wanted;rw[hgd]
 simp only[hw,if_true]
 left
 have hHof:∀id B A',bK H (kS A0 kb k) id=aA (B,A')->A'=kS A0 kb k:=λ id B A' hH=>by simp only[bK,aG]at hH;obtain⟨B',_,he⟩:=hH;cases he;rfl
 refine hN.ok w G ρ (bK H (kS A0 kb k)) (kS A0 kb k) a hi.rel hlt (λ id hid=>?_) (λ x _ v hv=>XX hi hv) _ (Post Γ nt A0 kb w G ρ Q) (λ out hout w' G' ρ' cv hrel hv hst=>?_)
 · obtain⟨B,hB⟩:=fS.1 (hN.rds id hid)
   exact⟨B,kS A0 kb k,hB,by simp only[bK,hB,bU],λ _ h=>h⟩
 · have hst':Step (lC kb) w G ρ w' G' ρ':=⟨hst.size,hst.keep,hst.shape,hst.g,hst.g',hst.own,λ j hj=>hst.ids j (λ hc=>by simp only[lC]at hj;omega),hst.os,hst.tape,hst.output⟩
   rw[aXW A0 kb k k hk (aF _)]at hrel hv
   refine SS (kb:=kb) (Q':=Post Γ nt A0 kb w G ρ Q) hd hA0 r 1 (λ j=>by rw[<-bF,hops,bKT];rfl) k _ _ _ hk (h out hout) w' G' ρ' (a.put o.dst cv)
    ⟨?_,by rw[BK];exact hi.size,by rw[uQ];exact hi.defers,λ t v hv'=>?_⟩ hst' (λ tr k' fr' H' G' ρ' a' w' hK hk' hi' hs'=>⟨G',ρ',k',fr',H',hK hk',hk',hi',hs'⟩)
   · refine hrel.allow _ (λ id hid=>?_) (λ id B A' hid=>?_)
     · simp only[bK,dO]at hid
       rw[mI]at hid
       rw[mV]
       split at hid
       · rename_i x hx;rw[hid];rfl
       · rename_i hx;simp only[bK,hid,oB]
     · simp only[bK,aG]at hid
       obtain⟨B',hB',he⟩:=hid
       cases he
       rw[mI]at hB'
       rw[mV]
       split at hB'
       · rename_i x hx;rw[hB'];exact⟨kS A0 kb k,rfl,λ _ h=>h⟩
       · rename_i hx;exact⟨kS A0 kb k,by simp only[bK,hB',bU],λ _ h=>h⟩
   · rw[uD]at hv'
     rw[BL a o.dst cv t (λ x hx=>by rw[hi.size];exact hdst x hx)]
     split at hv'
     · rename_i he;cases hv';rw[iP he];exact hv
     · rename_i hne;rw[iN hne]
       exact(hi.frm t v hv').step hi.rel hst (λ j hj hc=>by have:=hlt j hj;omega) (λ _ h=>h)
def lP(l:lV)(seen:List Nat):lV:=l.filter λ e=> !seen.contains e.2.2
theorem TE{mid it since c0 clock:Nat}{q:IntKind}{x:Operand}{l:lV}{seen:List Nat}(ho:o.op= .next x aE)(hx:ev x=aA (.it it))(hI:get it=aA (kM mid since seen c0))(hB:get mid=aA (mS q l clock))
 (hold:∀e∈l,e.2.2<since) (hsc:since<=c0):
 GoodN P Γ o ev get k [it,mid] (λ out=>(lP l seen=[]/\out=⟨.tup [.lit (.bool aE)],k,[],[it,mid]⟩)∨
   ∃e,e∈lP l seen/\out=⟨.tup [.lit (.bool aB),.lit (.int q e.1),.lit e.2.1],k,[(it,aA (kM mid since (seen++[e.2.2]) clock))],[it,mid]⟩):=by
 refine⟨λ w G ρ H A a hr hA hrd hop next Q hN=>?_,λ i hi=>by
  simp at hi;rcases hi with rfl|rfl;.rw[hI];rfl
  rw[hB];rfl,λ out h=>by rcases h with⟨_,rfl⟩|⟨_,_,rfl⟩<;>rfl⟩
 have hvx:=hop x (by simp[ho,Op.operands]) _ hx;obtain⟨B1,A1,h2,hH1,hAA1⟩:=hrd it sS;rw[hI]at h2;cases h2;obtain⟨B2,A2,h2,hH2,hAA2⟩:=hrd mid sS;rw[hB]at h2;cases h2;obtain⟨hA1,b,hb,_,hBR1⟩:=hr.blk it _ A1 hH1;obtain⟨hA2,bm,hbm,_,hBR2⟩:=hr.blk mid _ A2 hH2;generalize hev:a.eval x=cv at hvx
 cases hvx with
 |dangi _ hn'=>rw[hb]at hn';cases hn'
 |it ha hρ hsh=>
  rw[hb]at hρ;cases hρ;obtain⟨hit,hshm⟩:=aKH hBR1 hsh hbm;obtain⟨es,hes,hel⟩:=IX hBR2 hshm;have hne:b≠bm:=λ h=>by rw[h,hes]at hit;cases hit
  have hmem:∀y,y∈es.toList↔∃e∈l,tT q e=y:=λ y=>by rw[hel];simp
  have hfil:(leftOf es seen.toArray).toList=(lP l seen).map (tT q):=by unfold leftOf lP;rw[Array.toList_filter,hel,List.filter_map];congr 1;apply bGB;intro e _;simp[tT,Function.comp]
  have hupd0:jD H (λ i=>A i\/(k<=i/\i<k)) []=H:=rfl;have hAk:∀i,A i->(A i\/(k<=i/\i<k)):=λ _ h=> .inl h;rcases run_next_at (P:=P) w o.type b bm since c0 seen.toArray es clock hit hes (λ y hy=>by obtain⟨e,he,rfl⟩:=(hmem y).1 hy;exact hold e he) hsc with⟨h0,hrun⟩|⟨e',he',w1,hal,hrun⟩
  .have hnil:lP l seen=[]:=by
    have h3:(leftOf es seen.toArray).toList.length=0:=by simpa using h0
    rw[hfil,cX]at h3;exact a5B.1 h3
   unfold Oper.wp;have hrun':(execOp a.eval o).run P w= .ok (.value (.tuple #[.bool aE])) w:=by simp[execOp,ho,hev,hrun]
   rw[hrun'];refine hN _ (.inl ⟨hnil,rfl⟩) w G ρ _ ?_ (.tup rfl λ j v hj=>?_) (kQ _ _ _ _);.exact hr
   match j,hj with
   |0,hj=>cases hj;exact .lit
   |j+1,hj=>simp at hj
  rw[hfil]at he';obtain⟨e,he,rfl⟩:=dB.1 he';have hw1:w1.heap=w.heap/\w1.os=w.os/\w1.tape=w.tape/\w1.output=w.output:=by rcases hal with rfl|rfl<;>exact⟨rfl,rfl,rfl,rfl⟩
  unfold Oper.wp;have hrun':(execOp a.eval o).run P w= .ok (.value (.tuple #[.bool aB,(tT q e).key,(tT q e).val])) (ChangeMaps.setBlock w1 b (.mapIter (aA bm) since (seen.toArray.push (tT q e).born) clock)):=by simp[execOp,ho,hev,hrun]
  rw[hrun'];have hbl:b<w.heap.size:=(dA.1 hit).1;have hheap:(ChangeMaps.setBlock w1 b (.mapIter (aA bm) since (seen.toArray.push (tT q e).born) clock)).heap=w.heap.setIfInBounds b (.mapIter (aA bm) since (seen.toArray.push (tT q e).born) clock):=by simp[ChangeMaps.setBlock,hw1.1]
  generalize hw':ChangeMaps.setBlock w1 b (.mapIter (aA bm) since (seen.toArray.push (tT q e).born) clock)=w' at hheap;have hos:w'.os=w.os/\w'.tape=w.tape/\w'.output=w.output:=by rw[<-hw'];exact hw1.2
  have hnew:w'.heap[b]? =aA (.mapIter (aA bm) since (seen++[e.2.2]).toArray clock):=by rw[hheap];simp[hbl,tT]
  have hoth:∀j,j≠b->w'.heap[j]? =w.heap[j]? :=λ j hj=>by rw[hheap,lH (Ne.symm hj)]
  have hvm:V w G ρ A (.mp mid) (.map (aA bm)):= .mp (hAA2 _ hA2) hbm hshm;have hrows:=aAY (since:=since) (c0:=clock) (seen:=seen++[e.2.2]) hvm
  obtain⟨g1,g2⟩:=hr.rewriteO (B:=kM mid since seen c0) hb it (.inl rfl) (kM mid since (seen++[e.2.2]) clock) rfl _ (.mapIter (aA bm) since (seen++[e.2.2]).toArray clock) .iter A (λ i=>A i\/(k<=i/\i<k)) (.inl rfl) hAk (.inl (hAA1 _ hA1))
   w' hnew hoth (by rw[hheap];simp) (by simp[shp,hnew,hit]) hos.1 hos.2.1 hos.2.2 hrows.1 hrows.2
  have hnm:fF (fF ρ it aC) it (aA (b,3))=ρ:=funext λ i=>by
   simp only[fF];split;.rename_i h9;rw[h9,hb];rfl
   rfl
  rw[show(kM mid since seen c0).sz=3 from rfl,hnm]at g1 g2;have hup:jD H (λ i=>A i\/(k<=i/\i<k)) [(it,aA (kM mid since (seen++[e.2.2]) clock)),(it,aC)]=jD H (λ i=>A i\/(k<=i/\i<k)) [(it,aA (kM mid since (seen++[e.2.2]) clock))]:=funext λ i=>by simp only[jD];split<;>simp_all
  rw[hup]at g1;refine hN _ (.inr ⟨e,he,rfl⟩) w' G ρ _ g1 (.tup rfl λ j v hj=>?_) ⟨g2.size,g2.keep,g2.shape,g2.g,g2.g',g2.own,λ i _=>g2.ids i (Or.inr rfl),g2.os,g2.tape,g2.output⟩
  match j,hj with
  |0,hj=>cases hj;exact .lit
  |1,hj=>cases hj;exact .lit
  |2,hj=>cases hj;exact .lit
  |j+3,hj=>simp at hj
theorem PJ{mid it since clock:Nat}{q:IntKind}{x:Operand}{l:lV}{seen:List Nat}{e:Int×Value×Nat}(ho:o.op= .entry x)(hx:ev x=aA (.it it))(hI:get it=aA (kM mid since (seen++[e.2.2]) clock))
 (hB:get mid=aA (mS q l clock)) (he:e∈l) (hn:(l.map (·.2.2)).Nodup):Good P Γ o ev get k ⟨.tup [.lit (.int q e.1),.lit e.2.1],k,[],[it,mid]⟩:=by
 refine⟨cF λ w G ρ H A a hr hrd hop=>?_,λ i hi=>by
  simp at hi;rcases hi with rfl|rfl;.rw[hI];rfl
  rw[hB];rfl,aF _⟩
 have hvx:=hop x (by simp[ho,Op.operands]) _ hx;obtain⟨B1,A1,h2,hH1,_⟩:=hrd it sS;rw[hI]at h2;cases h2;obtain⟨B2,A2,h2,hH2,_⟩:=hrd mid sS;rw[hB]at h2;cases h2;obtain⟨_,b,hb,_,hBR1⟩:=hr.blk it _ A1 hH1;obtain⟨_,bm,hbm,_,hBR2⟩:=hr.blk mid _ A2 hH2;generalize hev:a.eval x=cv at hvx
 cases hvx with
 |dangi _ hn'=>rw[hb]at hn';cases hn'
 |it ha hρ hsh=>
  rw[hb]at hρ;cases hρ;obtain⟨hit,hshm⟩:=aKH hBR1 hsh hbm;obtain⟨es,hes,hel⟩:=IX hBR2 hshm;have hrun:=run_entry_at (P:=P) w b bm since seen.toArray es clock (tT q e) (by rw[hit];simp[tT]) hes (by rw[hel];exact dB.2 ⟨e,he,rfl⟩) (by rw[hel,jM];exact hn);refine⟨.tuple #[.int q e.1,e.2.1],by simp[execOp,ho,hev,hrun,tT],.tup rfl λ j v hj=>?_⟩
  match j,hj with
  |0,hj=>cases hj;exact .lit
  |1,hj=>cases hj;exact .lit
  |j+2,hj=>simp at hj
end
end Go.AM
end
section
namespace Go.Proofs.T
open Go Go.AM Go.Proofs
variable{Γ:dL}
structure DelR where
 (n0 n1 n2 n3 n4 n5:Nat)
 (f0 f1 f2 f3 f4 f5:Nat->List AVal)
def DelR.cells (d:DelR):List AVal:=[.rd 2 d.n0 d.f0,.rd 2 d.n1 d.f1,.rd 2 d.n2 d.f2,.rd 1 d.n3 d.f3,.rd 8 d.n4 d.f4,.rd 5 d.n5 d.f5]
def DelR.size (d:DelR):Nat:=d.n0+d.n1+d.n2+d.n3+d.n4+d.n5
attribute [go_sem] DelR.cells
theorem bFE(d:DelR)(h:d.size<9223372036854775808):AM.Pure aD Γ 26 [.agg d.cells] d.size:=by
 have h':d.n0+d.n1+d.n2+d.n3+d.n4+d.n5<9223372036854775808:=h;refine bT Tryz.func26 rfl 26 rfl bB rfl λ k=>?_;have kp:=gZ k [0,1,2];refine wl ?_;refine cA ?_;refine cR (zN ?_);have e:(d.n0+d.n1+d.n2+d.n3+d.n4+d.n5:Int)=(d.size:Int):=by unfold DelR.size;omega
 rw[e];exact bJ _
theorem bFK(k D id:Nat)(hD:D<k)(hid:id<k)(hne:D≠id)(l:List (List AVal))(hl:l.length<=100000)(c1 c2 c3 c4 c5:AVal)(i x:Int)
 (e1:iM (jS (k+2)) c1=aB) (e2:iM (jS (k+2)) c2=aB) (e3:iM (jS (k+2)) c3=aB) (e4:iM (jS (k+2)) c4=aB) (e5:iM (jS (k+2)) c5=aB):
 Tr aD Γ 54 k [i,x,.ptr D 0 0] (cL id 2 l [(D,⟨6,aE,[[dG id l,c1,c2,c3,c4,c5]]⟩)]) (λ k1 r1 H1=>k1=k+2/\r1= .tup []/\H1=[(k+1,⟨2,aB,l++[[.lit (.int .i64 i),.lit (.int .i64 x)]]⟩),(D,⟨6,aE,[[.sl (k+1) 0 (l.length+1),c1,c2,c3,c4,c5]]⟩)]):=by obtain⟨a1,a2,a3,a4,a5,a6⟩:=fK hD;obtain⟨b1,b2,b3,b4,b5,b6⟩:=fK hid;obtain⟨d1,d2⟩:=iR hne;refine cN Tryz.func54 rfl 13 rfl bB (pA ?_);have kp:Kp [0,1,2] (λ i=>if i=D then 0 else if i=id then 1 else i-k+2):=jZ;have uU:=fP a1 a2 a3 a4 a5 a6 b1 b2 (fP b3 b4 b5 b6 d1 d2 e1 e2 (tZ e3 e4 e5));refine wl ?_;refine cA ?_;refine⟨k+2,[],_,?_,_,rfl,rfl,rfl,rfl⟩;(have uU:=fP a1 a2 a3 a4 a5 a6 b1 b2 (fP b3 b4 b5 b6 d1 d2 e1 e2 (tZ e3 e4 e5));exact qT)
theorem bFJ(k D id:Nat)(hD:D<k)(hid:id<k)(hne:D≠id)(l:List (List AVal))(hl:l.length<=100000)(c1 c2 c3 c4 c5:AVal)(i x:Int)
 (e1:iM (jS (k+2)) c1=aB) (e2:iM (jS (k+2)) c2=aB) (e3:iM (jS (k+2)) c3=aB) (e4:iM (jS (k+2)) c4=aB) (e5:iM (jS (k+2)) c5=aB):
 Tr aD Γ 55 k [i,x,.ptr D 0 0] (cL id 2 l [(D,⟨6,aE,[[c1,dG id l,c2,c3,c4,c5]]⟩)]) (λ k1 r1 H1=>k1=k+2/\r1= .tup []/\H1=[(k+1,⟨2,aB,l++[[.lit (.int .i64 i),.lit (.int .i64 x)]]⟩),(D,⟨6,aE,[[c1,.sl (k+1) 0 (l.length+1),c2,c3,c4,c5]]⟩)]):=by obtain⟨a1,a2,a3,a4,a5,a6⟩:=fK hD;obtain⟨b1,b2,b3,b4,b5,b6⟩:=fK hid;obtain⟨d1,d2⟩:=iR hne;refine cN Tryz.func55 rfl 13 rfl bB (pA ?_);have kp:Kp [0,1,2] (λ i=>if i=D then 0 else if i=id then 1 else i-k+2):=jZ;have uU:=fP a1 a2 a3 a4 a5 a6 b1 b2 (fP b3 b4 b5 b6 d1 d2 e1 e2 (tZ e3 e4 e5));refine wl ?_;refine cA ?_;refine⟨k+2,[],_,?_,_,rfl,rfl,rfl,rfl⟩;(have uU:=fP a1 a2 a3 a4 a5 a6 b1 b2 (fP b3 b4 b5 b6 d1 d2 e1 e2 (tZ e3 e4 e5));exact qT)
theorem bFI(k D id:Nat)(hD:D<k)(hid:id<k)(hne:D≠id)(l:List (List AVal))(hl:l.length<=100000)(c1 c2 c3 c4 c5:AVal)(i p x:Int)
 (e1:iM (jS (k+3)) c1=aB) (e2:iM (jS (k+3)) c2=aB) (e3:iM (jS (k+3)) c3=aB) (e4:iM (jS (k+3)) c4=aB) (e5:iM (jS (k+3)) c5=aB):
 Tr aD Γ 57 k [i,.agg [p,x],.ptr D 0 0] (cL id 2 l [(D,⟨6,aE,[[c1,c2,dG id l,c3,c4,c5]]⟩)]) (λ k1 r1 H1=>k1=k+3/\r1= .tup []/\H1=[(k+2,⟨2,aB,l++[[.lit (.int .i64 i),.lit (.int .i64 x)]]⟩),(D,⟨6,aE,[[c1,c2,.sl (k+2) 0 (l.length+1),c3,c4,c5]]⟩)]):=by obtain⟨a1,a2,a3,a4,a5,a6⟩:=fK hD;obtain⟨b1,b2,b3,b4,b5,b6⟩:=fK hid;obtain⟨d1,d2⟩:=iR hne;refine cN Tryz.func57 rfl 14 rfl bB (pA ?_);have kp:Kp [0,1,2,4] (λ i=>if i=D then 0 else if i=id then 1 else i-k+2):=jZ;have uU:=fP a1 a2 a3 a4 a5 a6 b1 b2 (fP b3 b4 b5 b6 d1 d2 e1 e2 (tZ e3 e4 e5));refine wl ?_;refine cA ?_;refine⟨k+3,[],_,?_,_,rfl,rfl,rfl,rfl⟩;(have uU:=fP a1 a2 a3 a4 a5 a6 b1 b2 (fP b3 b4 b5 b6 d1 d2 e1 e2 (tZ e3 e4 e5));exact qT)
theorem bFH(k D E id:Nat)(hD:D<k)(hid:id<k)(hne:D≠id)(hE:E<k)(hDE:D≠E)(hEi:E≠id)(l:List (List AVal))(hl:l.length<=100000)(c1 c2 c3 c4 c5:AVal)(g i v r f:Int)
 (e1:iM (jS (k+3)) c1=aB) (e2:iM (jS (k+3)) c2=aB) (e3:iM (jS (k+3)) c3=aB) (e4:iM (jS (k+3)) c4=aB) (e5:iM (jS (k+3)) c5=aB):
 Tr aD Γ 60 k [i,.agg [.lit (.int .u64 v),.lit (.int .u32 r),.lit (.int .u64 f)],.ptr D 0 0,.ptr E 0 0] (cL id 5 l [(D,⟨6,aE,[[c1,c2,c3,c4,c5,dG id l]]⟩),(E,⟨1,aB,[[g]]⟩)]) (λ k1 r1 H1=>k1=k+3/\r1= .tup []/\H1=[(k+2,⟨5,aB,l++[[.lit (.int .i64 g),.lit (.int .i64 i),.lit (.int .u64 v),.lit (.int .u32 r),.lit (.int .u64 f)]]⟩),(D,⟨6,aE,[[c1,c2,c3,c4,c5,.sl (k+2) 0 (l.length+1)]]⟩),(E,⟨1,aB,[[.lit (.int .i64 g)]]⟩)]):=by obtain⟨a1,a2,a3,a4,a5,a6⟩:=fK hD;obtain⟨b1,b2,b3,b4,b5,b6⟩:=fK hid;obtain⟨d1,d2⟩:=iR hne;obtain⟨g1,g2,g3,g4,g5,g6⟩:=fK hE;obtain⟨d3,d4⟩:=iR hDE;obtain⟨d5,d6⟩:=iR hEi;refine cN Tryz.func60 rfl 15 rfl bB (pA ?_);have kp:Kp [0,1,2,3,5] (λ i=>if i=D then 0 else if i=id then 1 else if i=E then 2 else i-k+3):=jZ;have uU:=fP a1 a2 a3 a4 a5 a6 b1 b2 (fP b3 b4 b5 b6 d1 d2 g1 g2 (fP g3 g4 g5 g6 d3 d4 d5 d6 (ID e1 e2 e3 e4 e5)));refine wl ?_;refine cA ?_;refine⟨k+3,[],_,?_,_,rfl,rfl,rfl,rfl⟩;(have uU:=fP a1 a2 a3 a4 a5 a6 b1 b2 (fP b3 b4 b5 b6 d1 d2 g1 g2 (fP g3 g4 g5 g6 d3 d4 d5 d6 (ID e1 e2 e3 e4 e5)));exact qT)
def gH{α:Type}(f:Nat->List α):Nat->List α
 |0=>[]
 |n+1=>gH f n++f n
theorem xV{α:Type}{f:Nat->List α}:gH f 0=[]:=rfl
theorem vD{α:Type}{f:Nat->List α}{n:Nat}:gH f (n+1)=gH f n++f n:=rfl
theorem kR{α:Type}{f:Nat->List α}{m:Nat}(h:∀i,(f i).length<=m):∀n,(gH f n).length<=n*m
 |0=>by simp[gH]
 |n+1=>by have:=kR h n;have:=h n;simp only[gH,bM,cQ,Nat.one_mul];omega
theorem mJ{α:Type}{f g:Nat->List α}:∀ {n:Nat},(∀i,i<n->f i=g i)->gH f n=gH g n
 |0,_=>rfl
 |n+1,h=>by rw[gH,gH,mJ (λ i hi=>h i oO),h n oO]
def DV{α:Type}(b:Bool)(x:α):List α:=if b=aB then [x]else []
theorem GM{α:Type}(b:Bool)(x:α):(DV b x).length<=1:=by unfold DV;split<;>simp
structure Dl where
 ck:List (Int×Int)
 cu:List (Int×Int)
 wg:List (Int×Int)
 gn:List Int
 tk:List Tk
 sp:List (Int×Int×Sp)
def mK(x:Int×Int):List AVal:=[.lit (.int .i64 x.1),.lit (.int .i64 x.2)]
def nR(n:Int):List AVal:=[.lit (.int .i64 n)]
def tR(t:Tk):List AVal:=[.lit (.int .i64 t.id),.lit (.int .i64 t.group),.lit (.int .i64 t.weight),.lit (.int .i64 t.cpu),.lit (.int .u64 t.mask),.lit (.bool t.ready),.lit (.int .u64 t.v),.lit (.int .u32 t.r)]
def pR(x:Int×Int×Sp):List AVal:=[.lit (.int .i64 x.1),.lit (.int .i64 x.2.1),.lit (.int .u64 x.2.2.v),.lit (.int .u32 x.2.2.r),.lit (.int .u64 x.2.2.floor)]
def Dl.cells (d:Dl):List AVal:=[rows 2 (d.ck.map mK),rows 2 (d.cu.map mK),rows 2 (d.wg.map mK),rows 1 (d.gn.map nR),rows 8 (d.tk.map tR),rows 5 (d.sp.map pR)]
def kD(a b:Nat->Int)(i:Nat):List (Int×Int):=DV (b i !=a i) ((i:Int),b i)
def vE(a b:St)(i:Nat):List (Int×Int):=DV (decide (¬(a.par i=b.par i/\a.wt i=b.wt i))) ((i:Int),b.wt i)
def yK(x y:Sp):Bool:=decide (¬(x.v=y.v/\x.r=y.r/\x.floor=y.floor))
def mA(a b:St)(g i:Nat):List (Int×Int×Sp):=DV (yK (a.sp g i) (b.sp g i)) ((g:Int),(i:Int),b.sp g i)
end Go.Proofs.T
end
section
namespace Go.Proofs.T
open Go Go.AM Go.Proofs
def CL(s:St):Prop:=∀i j,i<j->j<s.nt->(s.tsk i).id<(s.tsk j).id
structure IdOk (s:St):Prop where
 st:CL s
 lo:∀i,i<s.nt->1<=(s.tsk i).id
 hi:∀i,i<s.nt->(s.tsk i).id<=65535
theorem PB{f:Nat->List Flt}{n:Nat}(h:(cD f n).length=0):∀i,i<n->(f i).length=0:=λ i hi=>by
 cases hf:f i with
 |nil=>rfl
 |cons x l=>have hm:x∈cD f n:=mem_flats.2 ⟨i,hi,by rw[hf];simp⟩;rw[jU h]at hm;cases hm
theorem aOA{b:Bool}{f:Flt}(h:(iQ b f).length=0):b=aE:=by
 cases b;.rfl
 simp[iQ]at h
theorem yS{s:St}(h:(dQ s).length=0):IdOk s:=by
 have hp:(oQ s).length=0:=by
  unfold dQ at h;split at h;.simp at h
  split at h;.omega
  split at h<;>omega
 have hb:(cD (XS s) 7).length=0:=by unfold oQ at hp;simp only[bM]at hp;omega
 have hr:∀r:Nat,r<7->∀i,i<s.nt->brk s i ((r:Int)+4)=aE:=λ r hr i hi=>by have h1:=PB hb r hr;have h2:=PB (f:=KP s r) (n:=s.nt) h1 i hi;exact aOA h2
 have h4:∀i,i<s.nt->t4 s i=aE:=λ i hi=>by have:=hr 0 oO i hi;rwa [bJT oO]at this
 have h5:∀i,i<s.nt->t5 s i=aE:=λ i hi=>by have:=hr 1 oO i hi;rwa [bJS oO]at this
 have hadj:∀i,i+1<s.nt->(s.tsk i).id<(s.tsk (i+1)).id:=λ i hi=>by have h9:=h4 (i+1) hi;simp only[t4,AF,dFn,a4V]at h9;omega
 refine⟨λ i j hij=>?_,λ i hi=>?_,λ i hi=>?_⟩
 .induction j with
  |zero=>omega
  |succ j ih=>
   intro hj;have h1:=hadj j hj;by_cases he:i=j;.subst he;exact h1
   have:=ih oO oO;omega
 .have:=h5 i hi;simp only[t5,dFn]at this;omega
 have:=h5 i hi;simp only[t5,dFn]at this;omega
def idB(s:St)(n:Nat)(x:Int):Bool:=mM (λ j=>(s.tsk j).id==x) n
def AR(s:St)(x:Int):Option Nat:=f0 (λ j=>(s.tsk j).id==x) s.nt
def aDU(x y:Tk):Bool:=decide (¬(x.id=y.id/\x.group=y.group/\x.weight=y.weight/\x.cpu=y.cpu/\x.mask=y.mask/\x.ready=y.ready/\x.v=y.v/\x.r=y.r))
def TY(a b:St)(i:Nat):List Int:=DV (!(idB b b.nt (a.tsk i).id)) (a.tsk i).id
def aTC(a b:St)(i:Nat):Bool:=match AR a (b.tsk i).id with
 |none=>aB
 |some j=>aDU (a.tsk j) (b.tsk i)
def mN(a b:St)(i:Nat):List Tk:=DV (aTC a b i) (b.tsk i)
def tkV(t:Tk):Value:= .agg #[.int .i64 t.id,.int .i64 t.group,.int .i64 t.weight,.int .i64 t.cpu,.int .u64 t.mask,.bool t.ready,.int .u64 t.v,.int .u32 t.r]
def oK(a:St)(n:Nat):lV:=(aN n).map λ j=>((a.tsk j).id,tkV (a.tsk j),j)
theorem NC{a:St}{n:Nat}:oK a (n+1)=oK a n++[((a.tsk n).id,tkV (a.tsk n),n)]:=by unfold oK;rw[List.range_succ,aM];rfl
theorem mem_tEnts{a:St}{n:Nat}{e:Int×Value×Nat}:e∈oK a n↔∃j,j<n/\e=((a.tsk j).id,tkV (a.tsk j),j):=by unfold oK;rw[dB];exact⟨λ⟨j,h1,h2⟩=>⟨j,dK.1 h1,h2.symm⟩,λ⟨j,h1,h2⟩=>⟨j,dK.2 h1,h2.symm⟩⟩
theorem aMF{a:St}(h:CL a){n:Nat}(hn:n<a.nt):∀e∈oK a n,e.1≠(a.tsk n).id:=λ e he=>by obtain⟨j,hj,rfl⟩:=mem_tEnts.1 he;have:=h j n hj hn;simp only;omega
theorem VC{x:Int}(h1:1<=x)(h2:x<=65535):wfK .i64 x=aB:=by
 have e1:aL.min= -9223372036854775808:=by decide
 have e2:aL.max=9223372036854775807:=by decide
 simp[wfK,Lit.wf,e1,e2];omega
theorem YY{a:St}(h:IdOk a){n:Nat}(hn:n<=a.nt):∀e∈oK a n,wfK .i64 e.1=aB:=λ e he=>by obtain⟨j,hj,rfl⟩:=mem_tEnts.1 he;exact VC (h.lo j oO) (h.hi j oO)
def LF(a b:St)(i:Nat):lV:=(oK a a.nt).filter λ e=> !(idB b i e.1)
theorem aTY{a b:St}:LF a b 0=oK a a.nt:=wF.2 λ e he=>rfl
theorem aUA{a b:St}{i:Nat}:LF a b (i+1)=PP (LF a b i) (b.tsk i).id:=by unfold LF PP;rw[List.filter_filter];apply bGB;intro e _;rw[idB,mM,Bool.not_or,Bool.and_comm];congr 1;rw[show((b.tsk i).id==e.1)=(e.1==(b.tsk i).id)from bH.2 (by simp only[beq_iff_eq];exact⟨Eq.symm,Eq.symm⟩)]
theorem aJY{a b:St}{i:Nat}{e:Int×Value×Nat}(he:e∈LF a b i):∃j,j<a.nt/\e=((a.tsk j).id,tkV (a.tsk j),j):=mem_tEnts.1 (lW.1 he).1
theorem aTZ{a b:St}(h:IdOk a){i:Nat}:∀e∈LF a b i,wfK .i64 e.1=aB:=λ e he=>YY h (aF _) e (lW.1 he).1
theorem aDW{a:St}(h:CL a):HS (oK a a.nt):=by unfold HS oK;rw[jM];unfold List.Nodup;rw[EC];refine tY.imp_of_mem (λ {x y} hx hy hxy=>?_) bBI;have:=h x y hxy (dK.1 hy);simp only[Function.comp];omega
theorem OK{a b:St}(h:CL a){i:Nat}:HS (LF a b i):=
 List.Nodup.sublist (List.Sublist.map _ List.filter_sublist) (aDW h)
theorem aFJ{a b:St}{i:Nat}:((LF a b i).map (·.2.2)).Nodup:=by refine List.Nodup.sublist (List.Sublist.map _ List.filter_sublist) ?_;unfold oK;rw[jM];have:((λ x:Int×Value×Nat=>x.2.2)∘λ j=>((a.tsk j).id,tkV (a.tsk j),j))=id:=rfl;rw[this,List.map_id];exact List.nodup_range
theorem a1S{a b:St}{i:Nat}:∀e∈LF a b i,e.2.2<a.nt:=λ e he=>by obtain⟨j,hj,rfl⟩:=aJY he;exact hj
theorem MI{f:Nat->Bool}:∀ {n:Nat} {i:Nat},f0 f n=aA i->i<n/\f i=aB
 |0,i,h=>by simp[f0]at h
 |n+1,i,h=>by
  rw[f0]at h;split at h;.rename_i j hj;cases h;have:=MI hj;exact⟨oO,this.2⟩
  split at h;.cases h;exact⟨oO,by assumption⟩
  cases h
theorem JF{f:Nat->Bool}:∀ {n:Nat},f0 f n=aC->∀i,i<n->f i=aE
 |0,_,i,hi=>absurd hi oO
 |n+1,h,i,hi=>by
  rw[f0]at h;split at h;.cases h
  split at h;.cases h
  rename_i h1 h2;by_cases he:i=n;.subst he;simpa using h2
  exact JF h1 i oO
theorem aUB{a b:St}(ha:CL a)(hb:CL b){i:Nat}(hi:i<b.nt):AH (LF a b i) (b.tsk i).id=(AR a (b.tsk i).id).map λ j=>tkV (a.tsk j):=by
 cases hf:AR a (b.tsk i).id with
 |none=>have h:=JF hf;rw[PE λ e he=>?_];rfl;obtain⟨j,hj,rfl⟩:=aJY he;have:=h j hj;simpa using this
 |some j=>
  obtain⟨hj,he⟩:=MI hf;simp only[beq_iff_eq]at he;have hm:((a.tsk j).id,tkV (a.tsk j),j)∈LF a b i:=lW.2 ⟨mem_tEnts.2 ⟨j,hj,rfl⟩,by rw[bD];exact zV λ q hq=>by have:=hb q i hq hi;simp only[beq_eq_false_iff_ne];omega⟩
  obtain⟨q,hq⟩:=List.mem_iff_getElem?.1 hm;rw[PD (OK ha) hq he];rfl
def yW(a b:St):List Int:=gH (TY a b) a.nt
theorem aAQ{a b:St}:(LF a b b.nt).map (·.1)=yW a b:=by
 have h:∀n,((oK a n).filter λ e=> !(idB b b.nt e.1)).map (·.1)=gH (TY a b) n:=λ n=>by
  induction n with
  |zero=>rfl
  |succ n ih=>
   rw[NC,MV,aM,ih,vD,TY,DV];cases h: !(idB b b.nt (a.tsk n).id);all_goals(simp only[bNY,h])
   all_goals(first|rfl|simp)
 exact h a.nt
theorem aBE{a b:St}(h:CL a):(yW a b).Pairwise (λ x y=>x<=y):=by
 rw[<-aAQ];rw[EC];have h1:(oK a a.nt).Pairwise (λ x y=>x.1<=y.1):=by unfold oK;rw[EC];refine tY.imp_of_mem (λ {x y} hx hy hxy=>?_) bBI;have:=h x y hxy (dK.1 hy);simp only;omega
 exact h1.filter _
theorem aWQ{l:lV}:lP l []=l:=wF.2 λ e _=>rfl
theorem aQS{l:lV}(hn:(l.map (·.2.2)).Nodup){e:Int×Value×Nat}(he:e∈l):l.Perm (e::l.filter λ x=> !(x.2.2==e.2.2)):=by
 induction l with
 |nil=>cases he
 |cons a l ih=>
  simp only[bI,a5A]at hn;rcases eY.1 he with rfl|h1;.rw[List.filter_cons_of_neg sS,wF.2 λ x hx=>by have:x.2.2≠e.2.2:=λ h=>hn.1 (h▸dB.2 ⟨x,hx,rfl⟩);simpa using this]
  have hne:a.2.2≠e.2.2:=λ h=>hn.1 (h▸dB.2 ⟨e,h1,rfl⟩);rw[List.filter_cons_of_pos (by simpa using hne)];exact((ih hn.2 h1).cons a).trans (gQ.swap _ _ _)
theorem UL{l:lV}(hn:(l.map (·.2.2)).Nodup){seen:List Nat}{e:Int×Value×Nat}(he:e∈lP l seen):(lP l seen).Perm (e::lP l (seen++[e.2.2])):=by
 have h1:lP l (seen++[e.2.2])=(lP l seen).filter λ x=> !(x.2.2==e.2.2):=by unfold lP;rw[List.filter_filter];apply bGB;intro x _;rw[bH];simp only[List.contains_eq_mem,dC,MU,aH,bD,dFn,beq_eq_false_iff_ne,ne_eq,not_or];exact And.comm
 rw[h1];exact aQS (List.Nodup.sublist (List.Sublist.map _ List.filter_sublist) hn) he
def IA(l:lV)(x:List Nat×List Int):Prop:=(x.2++(lP l x.1).map (·.1)).Perm (l.map (·.1))
theorem aFU{l:lV}:IA l ([],[]):=by unfold IA;rw[aWQ];exact gQ.refl _
theorem aFV{l:lV}(hn:(l.map (·.2.2)).Nodup){seen:List Nat}{acc:List Int}(h:IA l (seen,acc)){e:Int×Value×Nat}(he:e∈lP l seen):IA l (seen++[e.2.2],acc++[e.1]):=by
 unfold IA at*
 simp only at*
 have h1:=(UL hn he).map (·.1);rw[cM];exact(gQ.append_left acc h1.symm).trans h
theorem aOF{l:lV}{seen:List Nat}{acc:List Int}(h:IA l (seen,acc)):acc.length<=l.length:=by have:=gQ.length_eq h;simp only[bM,cX]at this;omega
theorem aOG{l:lV}{seen:List Nat}{acc:List Int}(h:IA l (seen,acc))(h0:lP l seen=[]):(l.map (·.1)).Perm acc:=by unfold IA at h;simp only[h0,bQ,cZ]at h;exact h.symm
theorem aWR{l:lV}(hn:(l.map (·.2.2)).Nodup){seen:List Nat}{e:Int×Value×Nat}(he:e∈lP l seen):(lP l (seen++[e.2.2])).length<(lP l seen).length:=by have:=(UL hn he).length_eq;simp only[gS]at this;omega
def AS(a b:St):Dl:=⟨gH (kD a.clk b.clk) a.nk,gH (kD a.cur b.cur) a.nk,gH (vE a b) a.ng,yW a b,gH (mN a b) b.nt,gH (λ g=>gH (mA a b g) a.nk) a.ns⟩
def noDl:Dl:=⟨[],[],[],[],[],[]⟩
def btw(a b:St):Dl:=if tV a b then noDl else if QU a b a.ng=aE then noDl else AS a b
def DX(a b:St):Int:=if tV a b then 350 else if QU a b a.ng=aE then 351 else 0
end Go.Proofs.T
end
section
namespace Go.Proofs.T
open Go Go.AM
section
variable{β:Type}(ne:β->β->Bool)
def dif(now to:Nat->β)(i:Nat):List (Nat×β):=DV (ne (to i) (now i)) (i,to i)
def upd(now:Nat->β)(l:List (Nat×β))(i:Nat):β:=match l.find? (λ x=>x.1==i)with
 |some x=>x.2
 |none=>now i
structure ChOk (N:Nat) (now:Nat->β) (l:List (Nat×β)):Prop where
 inc:l.Pairwise (λ x y=>x.1<y.1)
 lt:∀x∈l,x.1<N
 ne:∀x∈l,ne x.2 (now x.1)=aB
variable{ne}
theorem mem_flx{α:Type}{f:Nat->List α}{x:α}:∀ {n:Nat},x∈gH f n↔∃i,i<n/\x∈f i
 |0=>by simp[gH]
 |n+1=>by
  rw[gH,dC,mem_flx];constructor
  .rintro(⟨i,h1,h2⟩|h);.exact⟨i,oO,h2⟩
   exact⟨n,oO,h⟩
  rintro⟨i,h1,h2⟩;by_cases he:i=n;.subst he;exact .inr h2
  exact .inl ⟨i,oO,h2⟩
theorem mem_if1{α:Type}{b:Bool}{x y:α}:x∈DV b y↔b=aB/\x=y:=by unfold DV;split<;>simp_all
theorem aBM{α:Type}{r:α->α->Prop}{f:Nat->List α}(h1:∀i,(f i).Pairwise r)(h2:∀i j,i<j->∀x∈f i,∀y∈f j,r x y):∀n,(gH f n).Pairwise r
 |0=> .nil
 |n+1=>by rw[gH,bOT];refine⟨aBM h1 h2 n,h1 n,λ x hx y hy=>?_⟩;obtain⟨i,hi,hx⟩:=mem_flx.1 hx;exact h2 i n hi x hx y hy
theorem aUT{α:Type}{r:α->α->Prop}(b:Bool)(x:α):(DV b x).Pairwise r:=by unfold DV;split<;>simp
theorem PK(now to:Nat->β)(N:Nat):ChOk ne N now (gH (dif ne now to) N) where
 inc:=aBM (λ i=>aUT _ _) (λ i j hij x hx y hy=>by rw[(mem_if1.1 hx).2,(mem_if1.1 hy).2];exact hij) N
 lt x hx:=by obtain⟨i,hi,hx⟩:=mem_flx.1 hx;rw[(mem_if1.1 hx).2];exact hi
 ne x hx:=by obtain⟨i,hi,hx⟩:=mem_flx.1 hx;obtain⟨h1,rfl⟩:=mem_if1.1 hx;exact h1
theorem YT{now:Nat->β}{l:List (Nat×β)}{i:Nat}(h:∀x∈l,x.1≠i):upd now l i=now i:=by unfold upd;rw[a5C.2 (λ x hx=>by simpa using h x hx)]
theorem YS{N:Nat}{now:Nat->β}{l:List (Nat×β)}(h:l.Pairwise (λ x y=>x.1<y.1)){x:Nat×β}(hx:x∈l):upd now l x.1=x.2:=by
 unfold upd
 cases hf:l.find? (λ y=>y.1==x.1)with
 |none=>have:=a5C.1 hf x hx;simp at this
 |some y=>
  have h1:y.1=x.1:=by have:=List.find?_some hf;simpa using this
  have h2:=List.mem_of_find?_eq_some hf
  have:y=x:=by
   obtain⟨i,hi,ei⟩:=tJ.1 h2;obtain⟨j,hj,ej⟩:=tJ.1 hx;have hp:=AV.1 h;rcases kA i j with hij|hij|hij;.have:=hp i j hi hj hij;rw[ei,ej]at this;omega
   .subst hij;rw[<-ei,<-ej]
   have:=hp j i hj hi hij;rw[ei,ej]at this;omega
  rw[this]
theorem aIJ(hne:∀x y,ne x y=aE->x=y)(now to:Nat->β){N i:Nat}(hi:i<N):upd now (gH (dif ne now to) N) i=to i:=by
 cases hb:ne (to i) (now i)with
 |true=>have hm:(i,to i)∈gH (dif ne now to) N:=mem_flx.2 ⟨i,hi,mem_if1.2 ⟨hb,rfl⟩⟩;exact YS (N:=N) (PK now to N).inc hm
 |false=>rw[YT,hne _ _ hb];rintro x hx rfl;obtain⟨j,hj,hx⟩:=mem_flx.1 hx;obtain⟨h1,rfl⟩:=mem_if1.1 hx;rw[hb]at h1;cases h1
theorem uO{α:Type}{key:α->Int}{l m:List α}(h1:l.Pairwise (λ x y=>key x<key y))(h2:m.Pairwise (λ x y=>key x<key y))(h:∀x,x∈l↔x∈m):l=m:=by
 have hn:∀ {q:List α},q.Pairwise (λ x y=>key x<key y)->q.Nodup:=λ hq=>hq.imp λ hxy he=>by subst he;omega
 have hp:l.Perm m:=(List.perm_ext_iff_of_nodup (hn h1) (hn h2)).2 h;refine gQ.eq_of_pairwise (le:=λ x y=>key x<key y) (λ a b ha hb h3 h4=>oO) h1 h2 hp
theorem aLC(hnn:∀x,ne x x=aE){N:Nat}{now:Nat->β}{l:List (Nat×β)}(h:ChOk ne N now l):gH (dif ne now (upd now l)) N=l:=by
 refine uO (key:=λ x=>(x.1:Int)) ((PK now _ N).inc.imp λ hxy=>oO) (h.inc.imp λ hxy=>oO) λ x=>?_;constructor
 .intro hx;obtain⟨i,hi,hx⟩:=mem_flx.1 hx;obtain⟨h1,rfl⟩:=mem_if1.1 hx
  cases hf:l.find? (λ y=>y.1==i)with
  |none=>
   have e:upd now l i=now i:=by unfold upd;rw[hf]
   rw[e,hnn]at h1;cases h1
  |some y=>
   have e:upd now l i=y.2:=by unfold upd;rw[hf]
   have e2:y.1=i:=by have:=List.find?_some hf;simpa using this
   have h2:=List.mem_of_find?_eq_some hf;rw[e,<-e2];exact h2
 intro hx;have e:=YS (N:=N) (now:=now) h.inc hx;refine mem_flx.2 ⟨x.1,h.lt x hx,mem_if1.2 ⟨by rw[e];exact h.ne x hx,by rw[e]⟩⟩
end
def IdL(l:List Tk):Prop:=l.Pairwise (λ x y=>x.id<y.id)
theorem IdL.uniq {l:List Tk}(h:IdL l){x y:Tk}(hx:x∈l)(hy:y∈l)(he:x.id=y.id):x=y:=by
 obtain⟨i,hi,ei⟩:=tJ.1 hx;obtain⟨j,hj,ej⟩:=tJ.1 hy;have hp:=AV.1 h;rcases kA i j with hij|hij|hij;.have:=hp i j hi hj hij;rw[ei,ej]at this;omega
 .subst hij;rw[<-ei,<-ej]
 have:=hp j i hj hi hij;rw[ei,ej]at this;omega
def yT(l:List Tk)(x:Int):Prop:=∃t∈l,t.id=x
instance (l:List Tk)(x:Int):Decidable (yT l x):=by unfold yT;infer_instance
def gnL(la lb:List Tk):List Int:=(la.filter λ t=> !decide (yT lb t.id)).map (·.id)
def nwL [DecidableEq Tk](la lb:List Tk):List Tk:=lb.filter λ t=> !decide (t∈la)
def EF(la:List Tk)(gn:List Int)(tk:List Tk):List Tk:=la.filter λ t=> !(gn.contains t.id)&& !decide (yT tk t.id)
def qS(la:List Tk)(gn:List Int)(tk m:List Tk):Prop:=IdL m/\∀x,x∈m↔x∈tk\/x∈EF la gn tk
structure TkFit (la:List Tk) (gn:List Int) (tk:List Tk):Prop where
 gi:gn.Pairwise (λ x y=>x<y)
 ga:∀x∈gn,yT la x
 gt:∀x∈gn,¬yT tk x
 ti:IdL tk
 ta:∀t∈tk,t∉la
theorem mem_stay{la:List Tk}{gn:List Int}{tk:List Tk}{x:Tk}:x∈EF la gn tk↔x∈la/\x.id∉gn/\¬yT tk x.id:=by unfold EF;simp[lW]
theorem mem_gnL{la lb:List Tk}{x:Int}:x∈gnL la lb↔yT la x/\¬yT lb x:=by
 unfold gnL;simp only[dB,lW,bD,dFn];constructor;.rintro⟨t,⟨h1,h2⟩,rfl⟩;exact⟨⟨t,h1,rfl⟩,h2⟩
 rintro⟨⟨t,h1,rfl⟩,h2⟩;exact⟨t,⟨h1,h2⟩,rfl⟩
theorem WU{la lb:List Tk}(h:IdL la):(gnL la lb).Pairwise (λ x y=>x<y):=by unfold gnL;rw[EC];exact tY.filter _ h
theorem aAD{la:List Tk}{gn:List Int}{tk m n:List Tk}(h1:qS la gn tk m)(h2:qS la gn tk n):m=n:=
 uO (key:=λ t:Tk=>t.id) h1.1 h2.1 λ x=>(h1.2 x).trans (h2.2 x).symm
section
variable [DecidableEq Tk]
theorem mem_nwL{la lb:List Tk}{x:Tk}:x∈nwL la lb↔x∈lb/\x∉la:=by unfold nwL;simp[lW]
theorem WD{la lb:List Tk}(h:IdL lb):IdL (nwL la lb):=tY.filter _ h
theorem aWB{la lb:List Tk}(ha:IdL la)(hb:IdL lb):TkFit la (gnL la lb) (nwL la lb) where
 gi:=WU ha
 ga x hx:=(mem_gnL.1 hx).1
 gt x hx:=λ⟨t,ht,he⟩=>(mem_gnL.1 hx).2 ⟨t,(mem_nwL.1 ht).1,he⟩
 ti:=WD hb
 ta t ht:=(mem_nwL.1 ht).2
theorem aGR{la lb:List Tk}(ha:IdL la)(hb:IdL lb):qS la (gnL la lb) (nwL la lb) lb:=by
 refine⟨hb,λ x=>?_⟩;rw[mem_nwL,mem_stay,mem_gnL];constructor
 .intro hx;by_cases hxa:x∈la;.refine .inr ⟨hxa,λ h=>h.2 ⟨x,hx,rfl⟩,λ⟨t,ht,he⟩=>?_⟩;have:=hb.uniq (mem_nwL.1 ht).1 hx he;subst this;exact(mem_nwL.1 ht).2 hxa
  exact .inl ⟨hx,hxa⟩
 rintro(h|⟨h1,h2,h3⟩);.exact h.1
 by_cases hi:yT lb x.id
 .obtain⟨t,ht,he⟩:=hi;by_cases hta:t∈la;.have:=ha.uniq hta h1 he;subst this;exact ht
  exact absurd ⟨t,mem_nwL.2 ⟨ht,hta⟩,he⟩ h3
 exact absurd ⟨⟨x,h1,rfl⟩,hi⟩ h2
theorem aVE{la:List Tk}{gn:List Int}{tk m:List Tk}(ha:IdL la)(hf:TkFit la gn tk)(hm:qS la gn tk m):gnL la m=gn/\nwL la m=tk:=by
 have hI:∀x,yT m x↔yT tk x\/(yT la x/\x∉gn):=λ x=>by
  constructor
  .rintro⟨t,ht,rfl⟩;rcases(hm.2 t).1 ht with h|h;.exact .inl ⟨t,h,rfl⟩
   obtain⟨h1,h2,h3⟩:=mem_stay.1 h;exact .inr ⟨⟨t,h1,rfl⟩,h2⟩
  rintro(⟨t,ht,rfl⟩|⟨⟨t,ht,rfl⟩,h2⟩);.exact⟨t,(hm.2 t).2 (.inl ht),rfl⟩
  by_cases hk:yT tk t.id;.obtain⟨u,hu,he⟩:=hk;exact⟨u,(hm.2 u).2 (.inl hu),he⟩
  exact⟨t,(hm.2 t).2 (.inr (mem_stay.2 ⟨ht,h2,hk⟩)),rfl⟩
 constructor
 .refine uO (key:=λ x:Int=>x) (WU ha) hf.gi λ x=>?_;rw[mem_gnL,hI];constructor;.rintro⟨h1,h2⟩;exact Classical.byContradiction λ h3=>h2 (.inr ⟨h1,h3⟩)
  intro h;exact⟨hf.ga x h,λ h2=>h2.elim (hf.gt x h) λ h3=>h3.2 h⟩
 refine uO (key:=λ t:Tk=>t.id) (WD hm.1) hf.ti λ x=>?_;rw[mem_nwL,hm.2];constructor
 .rintro⟨h1|h1,h2⟩;.exact h1
  exact absurd (mem_stay.1 h1).1 h2
 intro h;exact⟨.inl h,hf.ta x h⟩
end
deriving instance DecidableEq for Tk
deriving instance DecidableEq for Sp
theorem WX{α β:Type}(g:α->β){f:Nat->List α}:∀n,(gH f n).map g=gH (λ i=>(f i).map g) n
 |0=>rfl
 |n+1=>by rw[gH,gH,aM,WX g n]
theorem aKK{α β:Type}(g:α->β)(b:Bool)(x:α):(DV b x).map g=DV b (g x):=by unfold DV;split<;>rfl
theorem aKP{α:Type}{f:Nat->List α}(m:Nat):∀n,gH f (m+n)=gH f m++gH (λ i=>f (m+i)) n
 |0=>by simp[gH]
 |n+1=>by rw[<-gD,gH,gH,aKP m n,cM]
theorem WY{α:Type}(h:Nat->Nat->List α)(K:Nat):∀n,gH (λ g=>gH (h g) K) n=gH (λ i=>h (i/K) (i%K)) (n*K)
 |0=>by simp[gH]
 |n+1=>by
  rw[gH,cQ,Nat.one_mul,aKP,WY h K n];congr 1;refine mJ λ i hi=>?_;have h1:(n*K+i)/K=n:=by rw[iW,Nat.mul_add_div oO,Nat.div_eq_of_lt hi,jL]
  have h2:(n*K+i)%K=i:=by rw[iW,Nat.mul_add_mod,JP hi]
  rw[h1,h2]
def neI(x y:Int):Bool:=x !=y
def YW(l:List (Int×Int)):List (Nat×Int):=l.map λ x=>(x.1.toNat,x.2)
def ofN(l:List (Nat×Int)):List (Int×Int):=l.map λ x=>((x.1:Int),x.2)
structure ValOk (N:Nat) (now:Nat->Int) (l:List (Int×Int)):Prop where
 lo:∀x∈l,0<=x.1
 ok:ChOk neI N now (YW l)
theorem aIM(l:List (Nat×Int)):YW (ofN l)=l:=by unfold YW ofN;rw[jM];exact(fD λ x _=>sS).trans (List.map_id _)
theorem a1B{l:List (Int×Int)}(h:∀x∈l,0<=x.1):ofN (YW l)=l:=by unfold YW ofN;rw[jM];refine(fD λ x hx=>?_).trans (List.map_id _);have:=h x hx;simp only[Function.comp,id];rw[gA this]
theorem ML(now to:Nat->Int)(N:Nat):gH (kD now to) N=ofN (gH (dif neI now to) N):=by unfold ofN;rw[WX];exact mJ λ i _=>by rw[dif,aKK];rfl
theorem MK(now to:Nat->Int)(N:Nat):ValOk N now (gH (kD now to) N) where
 lo x hx:=by rw[ML]at hx;obtain⟨y,_,rfl⟩:=dB.1 hx;exact rT _
 ok:=by rw[ML,aIM];exact PK _ _ _
theorem VD{N:Nat}{now:Nat->Int}{l:List (Int×Int)}(h:ValOk N now l):gH (kD now (upd now (YW l))) N=l:=by rw[ML,aLC (by simp[neI]) h.ok,a1B h.lo]
theorem MX(now to:Nat->Int){N i:Nat}(hi:i<N):upd now (YW (gH (kD now to) N)) i=to i:=by rw[ML,aIM,aIJ (by simp[neI]) now to hi]
def neS(x y:Sp):Bool:=yK y x
theorem SM(x:Sp):yK x x=aE:=by simp[yK]
theorem aZZ{x y:Sp}(h:yK x y=aE):x=y:=by obtain⟨a,b,c⟩:=x;obtain⟨d,e,f⟩:=y;simp[yK]at h;simp[h]
def AK(K:Nat)(l:List (Int×Int×Sp)):List (Nat×Sp):=l.map λ x=>(x.1.toNat*K+x.2.1.toNat,x.2.2)
def unS(K:Nat)(l:List (Nat×Sp)):List (Int×Int×Sp):=l.map λ x=>(((x.1/K:Nat):Int),((x.1%K:Nat):Int),x.2)
def IN(K:Nat)(now:Nat->Nat->Sp)(i:Nat):Sp:=now (i/K) (i%K)
structure SpotOk (S K:Nat) (now:Nat->Nat->Sp) (l:List (Int×Int×Sp)):Prop where
 rng:∀x∈l,0<=x.1/\x.1<S/\0<=x.2.1/\x.2.1<K
 ok:ChOk neS (S*K) (IN K now) (AK K l)
theorem aLG{K:Nat}(l:List (Nat×Sp))(hK:0<K):AK K (unS K l)=l:=by unfold AK unS;rw[jM];refine(fD λ x _=>?_).trans (List.map_id _);simp only[Function.comp,id,bP];rw[iW,EB]
theorem HB{K g c:Nat}(hc:c<K):(g*K+c)/K=g/\(g*K+c)%K=c:=by
 constructor;.rw[iW,Nat.mul_add_div oO,Nat.div_eq_of_lt hc,jL]
 rw[iW,Nat.mul_add_mod,JP hc]
theorem aZJ{K S:Nat}{l:List (Int×Int×Sp)}(h:∀x∈l,0<=x.1/\x.1<S/\0<=x.2.1/\x.2.1<K):unS K (AK K l)=l:=by unfold AK unS;rw[jM];refine(fD λ x hx=>?_).trans (List.map_id _);obtain⟨h1,h2,h3,h4⟩:=h x hx;obtain⟨h5,h6⟩:=HB (K:=K) (g:=x.1.toNat) (c:=x.2.1.toNat) oO;simp only[Function.comp,id];rw[h5,h6,gA h1,gA h3]
theorem MJ(a b:St)(S K:Nat):gH (λ g=>gH (mA a b g) K) S=unS K (gH (dif neS (IN K a.sp) (IN K b.sp)) (S*K)):=by rw[WY];unfold unS;rw[WX];exact mJ λ i _=>by rw[dif,aKK];rfl
theorem XG(a b:St)(S K:Nat)(hK:0<K):SpotOk S K a.sp (gH (λ g=>gH (mA a b g) K) S) where
 rng x hx:=by rw[MJ]at hx;obtain⟨y,hy,rfl⟩:=dB.1 hx;have h1:=(PK (ne:=neS) _ _ _).lt y hy;have h2:y.1/K<S:=aDJ (by rw[iW];exact h1);have h3:=Nat.mod_lt y.1 hK;exact⟨rT _,Int.ofNat_lt.2 h2,rT _,Int.ofNat_lt.2 h3⟩
 ok:=by rw[MJ,aLG _ hK];exact PK _ _ _
def upS(K:Nat)(now:Nat->Nat->Sp)(l:List (Int×Int×Sp))(g c:Nat):Sp:=match l.find? (λ x=>x.1==(g:Int)&&x.2.1==(c:Int))with
 |some x=>x.2.2
 |none=>now g c
theorem aIK{S K:Nat}{now:Nat->Nat->Sp}{l:List (Int×Int×Sp)}(h:∀x∈l,0<=x.1/\x.1<S/\0<=x.2.1/\x.2.1<K){g c:Nat}(hc:c<K):upS K now l g c=upd (IN K now) (AK K l) (g*K+c):=by
 obtain⟨h5,h6⟩:=HB (g:=g) hc
 have key:∀x∈l,(x.1==(g:Int)&&x.2.1==(c:Int))=(x.1.toNat*K+x.2.1.toNat==g*K+c):=λ x hx=>by
  obtain⟨h1,h2,h3,h4⟩:=h x hx;obtain⟨h7,h8⟩:=HB (K:=K) (g:=x.1.toNat) (c:=x.2.1.toNat) oO;rw[bH];simp only[aH,beq_iff_eq];constructor;.rintro⟨e1,e2⟩;rw[e1,e2,bP,bP]
  intro e;rw[e]at h7 h8;omega
 clear h
 induction l with
 |nil=>simp[upS,upd,AK,IN,h5,h6]
 |cons x l ih=>
  have ih:=ih λ y hy=>key y (dM _ hy);have k1:=key x sS;unfold upS upd AK at ih⊢
  simp only[bI,List.find?_cons];rw[<-k1];cases hb:(x.1==(g:Int)&&x.2.1==(c:Int));.exact ih
  rfl
theorem aRF{a:St}{S K:Nat}{l:List (Int×Int×Sp)}(h:SpotOk S K a.sp l)(b:St)(hb:∀g c,g<S->c<K->b.sp g c=upS K a.sp l g c):gH (λ g=>gH (mA a b g) K) S=l:=by
 by_cases hK:0<K
 .rw[MJ]
  have:gH (dif neS (IN K a.sp) (IN K b.sp)) (S*K)=gH (dif neS (IN K a.sp) (upd (IN K a.sp) (AK K l))) (S*K):=mJ λ i hi=>by
   have e:IN K b.sp i=upd (IN K a.sp) (AK K l) i:=by have h2:i/K<S:=aDJ (by rw[iW];exact hi);have h3:=Nat.mod_lt i hK;rw[IN,hb _ _ h2 h3,aIK h.rng h3,iW,EB]
   rw[dif,dif,e]
  rw[this,aLC (ne:=neS) (λ x=>SM x) h.ok,aZJ h.rng]
 have hn:l=[]:=by
  cases l with
  |nil=>rfl
  |cons x l=>have:=h.rng x sS;omega
 have:K=0:=oO;subst this;subst hn;rw[WY];simp[gH]
def gX:Tk:=⟨0,0,0,0,0,aE,0,0⟩
def mU(s:St):List Tk:=(aN s.nt).map s.tsk
theorem mem_tkL{s:St}{t:Tk}:t∈mU s↔∃i,i<s.nt/\t=s.tsk i:=by unfold mU;rw[dB];exact⟨λ⟨i,h1,h2⟩=>⟨i,dK.1 h1,h2.symm⟩,λ⟨i,h1,h2⟩=>⟨i,dK.2 h1,h2.symm⟩⟩
theorem tO{s:St}(h:CL s):IdL (mU s):=by unfold IdL mU;rw[EC];exact tY.imp_of_mem (λ {x y} hx hy hxy=>h x y hxy (dK.1 hy)) bBI
theorem aZL(x y:Tk):aDU x y= !decide (x=y):=by obtain⟨a,b,c,d,e,f,g,h⟩:=x;obtain⟨a',b',c',d',e',f',g',h'⟩:=y;simp[aDU]
theorem a2D{s:St}{x:Int}:idB s s.nt x=decide (yT (mU s) x):=by
 rw[bH,idB,anyB_iff,decide_eq_true_iff];constructor;.rintro⟨i,h1,h2⟩;exact⟨_,mem_tkL.2 ⟨i,h1,rfl⟩,by simpa using h2⟩
 rintro⟨t,ht,rfl⟩;obtain⟨i,h1,rfl⟩:=mem_tkL.1 ht;exact⟨i,h1,sS⟩
theorem EW{α β:Type}(f:Nat->α)(p:α->Bool)(g:α->β):∀n,gH (λ i=>DV (p (f i)) (g (f i))) n=(((aN n).map f).filter p).map g
 |0=>rfl
 |n+1=>by rw[gH,EW f p g n,List.range_succ,aM,MV,aM];congr 1;simp only[bI,bQ,bNY,List.filter_nil,DV];split<;>rfl
theorem yV(a b:St):yW a b=gnL (mU a) (mU b):=by show gH (TY a b) a.nt=(((aN a.nt).map a.tsk).filter λ t=> !decide (yT (mU b) t.id)).map (·.id);rw[<-EW a.tsk (λ t=> !decide (yT (mU b) t.id)) (·.id)];exact mJ λ i _=>by rw[TY,a2D]
theorem ER{a b:St}(ha:CL a):gH (mN a b) b.nt=nwL (mU a) (mU b):=by
 have h:nwL (mU a) (mU b)=(((aN b.nt).map b.tsk).filter λ t=> !decide (t∈mU a)).map id:=by rw[List.map_id];rfl
 rw[h,<-EW b.tsk (λ t=> !decide (t∈mU a)) id];refine mJ λ i _=>?_;rw[mN];congr 1;unfold aTC
 cases hf:AR a (b.tsk i).id with
 |none=>
  have h:=JF hf;have:b.tsk i∉mU a:=λ hm=>by obtain⟨j,hj,he⟩:=mem_tkL.1 hm;have:=h j hj;rw[he]at this;simp at this
  simp[this]
 |some j=>
  obtain⟨hj,he⟩:=MI hf;simp only[beq_iff_eq]at he;simp only[aZL];congr 1;rw[decide_eq_decide];constructor;.intro h;rw[<-h];exact mem_tkL.2 ⟨j,hj,rfl⟩
  intro h;exact(tO ha).uniq (mem_tkL.2 ⟨j,hj,rfl⟩) h he
theorem OE{m:List Tk}:(aN m.length).map (λ i=>m.getD i gX)=m:=by refine List.ext_getElem sS λ i h1 h2=>?_;simp[aR,aJ h2]
def YN(a:St)(d:Dl)(m:List Tk):St:={a with wt:=upd a.wt (YW d.wg),clk:=upd a.clk (YW d.ck),cur:=upd a.cur (YW d.cu),nt:=m.length,tsk:=λ i=>m.getD i gX,sp:=upS a.nk a.sp d.sp}
structure FitD (a:St) (d:Dl):Prop where
 ck:ValOk a.nk a.clk d.ck
 cu:ValOk a.nk a.cur d.cu
 wg:ValOk a.ng a.wt d.wg
 tk:TkFit (mU a) d.gn d.tk
 sp:SpotOk a.ns a.nk a.sp d.sp
theorem VF(a:St)(d:Dl)(m:List Tk):mU (YN a d m)=m:=OE
theorem aCM{a b:St}(ha:CL a)(hb:CL b)(hp:∀g,g<a.ng->a.par g=b.par g)(hK:0<a.nk):FitD a (AS a b)/\qS (mU a) (AS a b).gn (AS a b).tk (mU b):=by
 have hG:gH (vE a b) a.ng=gH (kD a.wt b.wt) a.ng:=mJ λ i hi=>by rw[vE,kD];congr 1;rw[bH];simp only[decide_eq_true_iff,bne_iff_ne,ne_eq,hp i hi,true_and];exact not_congr eq_comm
 refine⟨⟨MK _ _ _,MK _ _ _,?_,?_,XG a b _ _ hK⟩,?_⟩;.show ValOk a.ng a.wt (gH (vE a b) a.ng);rw[hG];exact MK _ _ _
 .show TkFit (mU a) (yW a b) (gH (mN a b) b.nt);rw[yV,ER ha];exact aWB (tO ha) (tO hb)
 show qS (mU a) (yW a b) (gH (mN a b) b.nt) (mU b);rw[yV,ER ha];exact aGR (tO ha) (tO hb)
theorem aVF{a:St}{d:Dl}{m:List Tk}(ha:CL a)(hf:FitD a d)(hm:qS (mU a) d.gn d.tk m):AS a (YN a d m)=d:=by
 have h1:gH (kD a.clk (YN a d m).clk) a.nk=d.ck:=VD hf.ck;have h2:gH (kD a.cur (YN a d m).cur) a.nk=d.cu:=VD hf.cu;have h3:gH (vE a (YN a d m)) a.ng=d.wg:=by refine Eq.trans (mJ λ i hi=>?_) (VD hf.wg);rw[vE,kD];congr 1;rw[bH];simp only[decide_eq_true_iff,bne_iff_ne,ne_eq];exact not_congr ⟨λ h=>h.2.symm,λ h=>⟨rfl,h.symm⟩⟩
 obtain⟨h4,h5⟩:=aVE (tO ha) hf.tk hm;have h6:yW a (YN a d m)=d.gn:=by rw[yV,VF];exact h4
 have h7:gH (mN a (YN a d m)) (YN a d m).nt=d.tk:=by rw[ER ha,VF];exact h5
 have h8:gH (λ g=>gH (mA a (YN a d m) g) a.nk) a.ns=d.sp:=aRF hf.sp _ λ g c _ _=>rfl;obtain⟨ck,cu,wg,gn,tk,sp⟩:=d;simp only[AS,Dl.mk.injEq];exact⟨h1,h2,h3,h6,h7,h8⟩
theorem yY{α:Type}{l:List α}{z:α}{j:Nat}(h:j<l.length):l.getD j z=l[j]:=by rw[aR,aJ h];rfl
theorem xU{α:Type}{l:List α}{z:α}{j:Nat}(h:j<l.length):l.getD j z∈l:=by rw[yY h];exact JR h
theorem aTL{α:Type}{l:List α}(z:α){x:α}(h:x∈l):∃j,j<l.length/\l.getD j z=x:=by obtain⟨j,hj,e⟩:=tJ.1 h;exact⟨j,hj,by rw[yY hj,e]⟩
theorem aRG{x y:Sp}:yK x y=aB↔x≠y:=by obtain⟨a,b,c⟩:=x;obtain⟨d,e,f⟩:=y;simp only[yK,decide_eq_true_iff,ne_eq,Sp.mk.injEq]
def yM{β:Type}(f:Nat->β)(i:Nat)(v:β):Nat->β:=λ j=>if j=i then v else f j
def ZQ{β:Type}(f:Nat->β)(l:List (Nat×β)):Nat->β:=l.foldl (λ f x=>yM f x.1 x.2) f
theorem aNG{β:Type}(f:Nat->β)(l:List (Nat×β))(x:Nat×β):ZQ f (l++[x])=yM (ZQ f l) x.1 x.2:=by unfold ZQ;rw[List.foldl_append];rfl
theorem NW{β:Type}{i:Nat}:∀ {l:List (Nat×β)} {f:Nat->β},(∀x∈l,x.1≠i)->ZQ f l i=f i
 |[],_,_=>rfl
 |x::l,f,h=>by have:=NW (l:=l) (f:=yM f x.1 x.2) λ y hy=>h y (dM _ hy);show ZQ (yM f x.1 x.2) l i=f i;rw[this,yM,iN (λ e=>h x sS e.symm)]
theorem aSJ{β:Type}{l:List (Nat×β)}(h:l.Pairwise (λ x y=>x.1<y.1))(f:Nat->β):ZQ f l=upd f l:=by
 funext i
 induction l generalizing f with
 |nil=>rfl
 |cons x l ih=>
  obtain⟨h1,h2⟩:=List.pairwise_cons.1 h;show ZQ (yM f x.1 x.2) l i=upd f (x::l) i;by_cases he:x.1=i;.rw[NW λ y hy=>by have:=h1 y hy;omega];simp[yM,upd,he]
  rw[ih h2];have hb:(x.1==i)=aE:=by simpa using he
  simp only[upd,List.find?_cons,hb];cases l.find? (λ x=>x.1==i)<;>simp[yM,show ¬i=x.1 from λ e=>he e.symm]
def yN(N:Nat)(f:Nat->Int)(l:List (Int×Int)):Nat->Int:=ZQ f (YW (l.filter λ x=>decide (0<=x.1/\x.1<N)))
theorem NU{N:Nat}{now f:Nat->Int}{l:List (Int×Int)}(h:ValOk N now l):yN N f l=upd f (YW l):=by unfold yN;rw[wF.2 λ x hx=>?_,aSJ h.ok.inc];have h1:=h.lo x hx;have h2:=h.ok.lt (x.1.toNat,x.2) (dB.2 ⟨x,hx,rfl⟩);simp only at h2;rw[decide_eq_true_iff];omega
def BC(f:Nat->Nat->Sp)(g c:Nat)(v:Sp):Nat->Nat->Sp:=λ g' c'=>if g'=g/\c'=c then v else f g' c'
def LA(S K:Nat)(f:Nat->Nat->Sp)(l:List (Int×Int×Sp)):Nat->Nat->Sp:=l.foldl (λ(f:Nat->Nat->Sp) (x:Int×Int×Sp)=>if 0<=x.1/\x.1<S/\0<=x.2.1/\x.2.1<K then BC f x.1.toNat x.2.1.toNat x.2.2 else f) f
theorem aNF(S K:Nat)(f:Nat->Nat->Sp)(l:List (Int×Int×Sp))(x:Int×Int×Sp):LA S K f (l++[x])=if 0<=x.1/\x.1<S/\0<=x.2.1/\x.2.1<K then BC (LA S K f l) x.1.toNat x.2.1.toNat x.2.2 else LA S K f l:=by unfold LA;rw[List.foldl_append];rfl
theorem NV{S K g c:Nat}:∀ {l:List (Int×Int×Sp)} {f:Nat->Nat->Sp},(∀x∈l,¬(x.1.toNat=g/\x.2.1.toNat=c))->LA S K f l g c=f g c
 |[],_,_=>rfl
 |x::l,f,h=>by
  have ih:=λ f'=>NV (S:=S) (K:=K) (g:=g) (c:=c) (l:=l) (f:=f') λ y hy=>h y (dM _ hy);show LA S K (if 0<=x.1/\x.1<S/\0<=x.2.1/\x.2.1<K then BC f x.1.toNat x.2.1.toNat x.2.2 else f) l g c=f g c;rw[ih];split;.rw[BC,iN (λ e=>h x sS ⟨e.1.symm,e.2.symm⟩)]
  rfl
theorem aSI{S K:Nat}{now:Nat->Nat->Sp}{l:List (Int×Int×Sp)}(h:SpotOk S K now l)(f:Nat->Nat->Sp):LA S K f l=upS K f l:=by
 have hr:=h.rng;have hp:l.Pairwise λ x y=>¬(x.1=y.1/\x.2.1=y.2.1):=by have h1:(AK K l).Pairwise (λ x y=>x.1<y.1):=h.ok.inc;unfold AK at h1;rw[EC]at h1;exact h1.imp λ hxy e=>by rw[e.1,e.2]at hxy;omega
 clear h;funext g c
 induction l generalizing f with
 |nil=>rfl
 |cons x l ih=>
  obtain⟨h1,h2⟩:=List.pairwise_cons.1 hp;have hx:=hr x sS;have hl:=λ y hy=>hr y (dM x hy);show LA S K (if 0<=x.1/\x.1<S/\0<=x.2.1/\x.2.1<K then BC f x.1.toNat x.2.1.toNat x.2.2 else f) l g c=_;rw[iP hx];by_cases he:x.1=(g:Int)/\x.2.1=(c:Int)
  .rw[NV λ y hy e=>?_];.simp[BC,upS,he.1,he.2]
   have:=hl y hy;exact h1 y hy ⟨oO,oO⟩
  rw[ih _ hl h2];have hb:(x.1==(g:Int)&&x.2.1==(c:Int))=aE:=by rw[gB];simp only[ne_eq,aH,beq_iff_eq];exact he
  simp only[upS,List.find?_cons,hb];cases l.find? (λ x=>x.1==(g:Int)&&x.2.1==(c:Int))<;>simp only[BC,iN (oO:¬(g=x.1.toNat/\c=x.2.1.toNat))]
theorem aAE{la:List Tk}{gn:List Int}{tk m:List Tk}(ha:IdL la)(hf:TkFit la gn tk)(hm:qS la gn tk m):m.Perm (EF la gn tk++tk):=by
 have hn:∀ {q:List Tk},IdL q->q.Nodup:=λ hq=>tY.imp (λ hxy he=>by subst he;omega) hq;refine(List.perm_ext_iff_of_nodup (hn hm.1) ?_).2 λ x=>by rw[hm.2,dC];exact Or.comm
 rw[List.nodup_append];refine⟨hn (tY.filter _ ha),hn hf.ti,λ x hx y hy e=>?_⟩;subst e;exact(mem_stay.1 hx).2.2 ⟨x,hy,rfl⟩
theorem aNP{la:List Tk}{gn:List Int}{tk r m:List Tk}(ha:IdL la)(hf:TkFit la gn tk)(hm:qS la gn tk m)(hp:r.Perm (EF la gn tk++tk))(hs:r.Pairwise λ x y=>x.id<=y.id):r=m:=by have h1:r.Perm m:=hp.trans (aAE ha hf hm).symm;have hne:m.Pairwise λ x y=>x.id≠y.id:=tY.imp (λ hxy e=>oO) hm.1;have hne':r.Pairwise λ x y=>x.id≠y.id:=(h1.pairwise_iff λ {x y} h e=>h e.symm).2 hne;have hi:IdL r:=(hs.and hne').imp λ⟨h2,h3⟩=>oO;exact uO (key:=λ t:Tk=>t.id) hi hm.1 λ x=>h1.mem_iff
def WI(a:St)(d:Dl)(r:List Tk):St:={a with wt:=yN a.ng a.wt d.wg,clk:=yN a.nk a.clk d.ck,cur:=yN a.nk a.cur d.cu,nt:=r.length,tsk:=λ i=>r.getD i gX,sp:=LA a.ns a.nk a.sp d.sp}
theorem aTM{a:St}{d:Dl}(h:FitD a d)(r:List Tk):WI a d r=YN a d r:=by unfold WI YN;rw[NU h.ck,NU h.cu,NU h.wg,aSI h.sp]
theorem bKL{a:St}{d:Dl}{r m:List Tk}(ha:CL a)(hb:CL (WI a d r))(hK:0<a.nk)(he:AS a (WI a d r)=d):FitD a d/\(qS (mU a) d.gn d.tk m->YN a d m=WI a d r):=by obtain⟨h1,h2⟩:=aCM (b:=WI a d r) ha hb (λ _ _=>rfl) hK;rw[he]at h1 h2;refine⟨h1,λ hm=>?_⟩;have e:m=r:=aAD hm (show qS (mU a) d.gn d.tk r from OE (m:=r)▸h2);rw[e,aTM h1]
theorem bKK{a:St}{d:Dl}{r m:List Tk}(ha:CL a)(hf:FitD a d)(hm:qS (mU a) d.gn d.tk m)(hp:r.Perm (EF (mU a) d.gn d.tk++d.tk))(hs:r.Pairwise λ x y=>x.id<=y.id):WI a d r=YN a d m/\AS a (WI a d r)=d:=by have e:r=m:=aNP (tO ha) hf.tk hm hp hs;subst e;rw[aTM hf];exact⟨rfl,aVF ha hf hm⟩
theorem IJ{α:Type}{l:List α}{z:α}{i:Nat}(h:i<l.length):l.take (i+1)=l.take i++[l.getD i z]:=by rw[yY h,<-List.take_append_getElem h]
section
variable{α:Type}(z:α)(lt:α->α->Bool)
def YJ(l:List α)(i j:Nat):List α:=(l.set i (l.getD j z)).set j (l.getD i z)
def rB(a:Nat):Nat->List α->List α
 |0,l=>l
 |j+1,l=>if a<j+1/\lt (l.getD (j+1) z) (l.getD j z)=aB then rB a j (YJ z l (j+1) j)else l
def BX(a:Nat)(l:List α):Nat->List α
 |0=>l
 |n+1=>rB z lt a (a+n+1) (BX a l n)
def EU(l:List α)(a b:Nat):List α:=BX z lt a l (b-a-1)
def ZA(l:List α)(a b:Nat):Nat->List α
 |0=>l
 |n+1=>YJ z (ZA l a b n) (a+n) (b+n)
def NO(m:Nat):Nat->Nat->Nat->List α->List α
 |0,_,_,l=>l
 |f+1,i,j,l=>if i=j then ZA z l (m-i) m i else if j<i then NO m f (i-j) j (ZA z l (m-i) m j)else NO m f i (j-i) (ZA z l (m-i) (m+j-i) i)
def rot(l:List α)(a m b:Nat):List α:=NO z m (b-a) (m-a) (b-m) l
def DY(p:Nat->Bool):Nat->Nat->Nat->Nat
 |0,i,_=>i
 |f+1,i,j=>if i<j then(if p ((i+j)/2)=aB then DY p f ((i+j)/2+1) j else DY p f i ((i+j)/2))else i
def shR(l:List α)(a:Nat):Nat->List α
 |0=>l
 |n+1=>YJ z (shR l a n) (a+n) (a+n+1)
def shL(l:List α)(m:Nat):Nat->List α
 |0=>l
 |n+1=>YJ z (shL l m n) (m-n) (m-n-1)
def rW:Nat->List α->Nat->Nat->Nat->List α
 |0,l,_,_,_=>l
 | f+1,l,a,m,b=>
   if m-a=1 then shR z l a (DY (λ h=>lt (l.getD h z) (l.getD a z)) (b-m) m b-1-a)
   else if b-m=1 then shL z l m (m-DY (λ h=> !(lt (l.getD m z) (l.getD h z))) (m-a) a m)
   else
    let mid:=(a+b)/2
    let n:=mid+m
    let st:=DY (λ c=> !(lt (l.getD (n-1-c) z) (l.getD c z))) (b-a) (if mid<m then n-b else a) (if mid<m then mid else m)
    let en:=n-st
    let l1:=if st<m/\m<en then rot z l st m en else l
    let l2:=if a<st/\st<mid then rW f l1 a st mid else l1
    if mid<en/\en<b then rW f l2 mid en b else l2
def blk(l:List α):Nat->List α
 |0=>l
 |q+1=>EU z lt (blk l q) (20*q) (20*q+20)
def YL(s:Nat)(l:List α):Nat->List α
 |0=>l
 |q+1=>rW z lt l.length (YL s l q) (2*s*q) (2*s*q+s) (2*s*q+2*s)
def RB(s:Nat)(l:List α):List α:=
 if 2*s*(l.length/(2*s))+s<l.length then rW z lt l.length (YL z lt s l (l.length/(2*s))) (2*s*(l.length/(2*s))) (2*s*(l.length/(2*s))+s) l.length else YL z lt s l (l.length/(2*s))
def xL:Nat->Nat->List α->List α
 |0,_,l=>l
 |f+1,s,l=>if s<l.length then xL f (2*s) (RB z lt s l)else l
def IM(l:List α):List α:=xL z lt l.length 20 (EU z lt (blk z lt l (l.length/20)) (20*(l.length/20)) l.length)
variable{z lt}
theorem DG{l:List α}{i q:Nat}{v:α}:(l.set i v).getD q z=if i=q/\q<l.length then v else l.getD q z:=by
 rw[aR,aR,dD];split
 .rename_i h;subst h;split;.rename_i h;rw[iP ⟨rfl,h⟩];rfl
  rename_i h;rw[iN (λ e=>h e.2),aX oO]
 rename_i h;rw[iN (λ e=>h e.1)]
theorem yJ{l:List α}{i j:Nat}:(YJ z l i j).length=l.length:=by simp[YJ]
theorem ND{l:List α}{i j q:Nat}(hi:i<l.length)(hj:j<l.length):(YJ z l i j).getD q z=if q=j then l.getD i z else if q=i then l.getD j z else l.getD q z:=by
 unfold YJ;rw[DG,DG,oE];by_cases h1:q=j;.subst h1;rw[iP ⟨rfl,hj⟩,iP rfl]
 rw[iN (λ e=>h1 e.1.symm),iN h1];by_cases h2:q=i;.subst h2;rw[iP ⟨rfl,hi⟩,iP rfl]
 rw[iN (λ e=>h2 e.1.symm),iN h2]
theorem AY{l:List α}{i j:Nat}(hi:i<l.length)(hj:j<l.length):(YJ z l i j).Perm l:=by unfold YJ;rw[aR,aR,aJ hi,aJ hj];exact List.set_set_perm hi hj
theorem OU{a:Nat}:∀ {j:Nat} {l:List α},j<l.length->(rB z lt a j l).Perm l
 |0,_,_=>gQ.refl _
 |j+1,l,h=>by
  rw[rB];split;.exact(OU (by rw[yJ];omega)).trans (AY h oO)
  exact gQ.refl _
theorem yR{a:Nat}{l:List α}:∀ {n:Nat},a+n<l.length\/n=0->(BX z lt a l n).Perm l
 |0,_=>gQ.refl _
 |n+1,h=>by have ih:=yR (a:=a) (l:=l) (n:=n) oO;exact(OU (by rw[ih.length_eq];omega)).trans ih
theorem xS{l:List α}{a b:Nat}(h:b<=l.length):(EU z lt l a b).Perm l:=yR oO
theorem pB{l:List α}{a b:Nat}:∀ {n:Nat},(ZA z l a b n).length=l.length
 |0=>rfl
 |n+1=>by rw[ZA,yJ,pB]
theorem FSq{l:List α}{a b:Nat}:∀ {n:Nat},a+n<=l.length->b+n<=l.length->(ZA z l a b n).Perm l
 |0,_,_=>gQ.refl _
 |n+1,h1,h2=>(AY (by rw[pB];omega) (by rw[pB];omega)).trans (FSq oO oO)
theorem VH{l:List α}{a b:Nat}:∀ {n q:Nat},a+n<=b->b+n<=l.length->(ZA z l a b n).getD q z=if a<=q/\q<a+n then l.getD (q+b-a) z else if b<=q/\q<b+n then l.getD (q+a-b) z else l.getD q z
 |0,q,_,_=>by rw[iN oO,iN oO];rfl
 |n+1,q,h1,h2=>by
  have ih:=λ q=>VH (l:=l) (a:=a) (b:=b) (n:=n) (q:=q) oO oO;rw[ZA,ND (by rw[pB];omega) (by rw[pB];omega),ih,ih,ih];repeat' split
  all_goals first|(exfalso;omega)|rfl|(congr 1;omega)
theorem IR{m:Nat}:∀ {f i j:Nat} {l:List α},i<=m->m+j<=l.length->(NO z m f i j l).Perm l
 |0,_,_,_,_,_=>gQ.refl _
 |f+1,i,j,l,h1,h2=>by
  rw[NO];split;.exact FSq oO oO
  split;.exact(IR oO (by rw[pB];omega)).trans (FSq oO oO)
  exact(IR oO (by rw[pB];omega)).trans (FSq oO oO)
theorem VT{m:Nat}:∀ {f i j:Nat} {l:List α} {q:Nat},0<i->0<j->i+j<=f->i<=m->m+j<=l.length->(NO z m f i j l).getD q z=if m-i<=q/\q<m-i+j then l.getD (q+i) z else if m-i+j<=q/\q<m+j then l.getD (q-j) z else l.getD q z
 |0,_,_,_,_,h1,h2,h3,_,_=>oO
 |f+1,i,j,l,q,h1,h2,h3,h4,h5=>by
  rw[NO];split
  .rename_i he;subst he;rw[VH oO oO];by_cases c1:m-i<=q/\q<m-i+i;.rw[iP c1,iP c1];congr 1;omega
   rw[iN c1,iN c1];by_cases c2:m<=q/\q<m+i;.rw[iP c2,iP oO];congr 1;omega
   rw[iN c2,iN oO]
  rename_i hne;split
  .rename_i hlt;have S:=λ q=>VH (z:=z) (l:=l) (a:=m-i) (b:=m) (n:=j) (q:=q) oO oO;rw[VT oO oO oO oO (by rw[pB];omega),S,S,S];repeat' split
   all_goals first|(exfalso;omega)|rfl|(congr 1;omega)
  rename_i hlt;have S:=λ q=>VH (z:=z) (l:=l) (a:=m-i) (b:=m+j-i) (n:=i) (q:=q) oO oO;rw[VT oO oO oO oO (by rw[pB];omega),S,S,S];repeat' split
  all_goals first|(exfalso;omega)|rfl|(congr 1;omega)
theorem a7N{l:List α}{a m b q:Nat}(h1:a<m)(h2:m<b)(h3:b<=l.length):(rot z l a m b).getD q z=if a<=q/\q<a+(b-m)then l.getD (q+(m-a)) z else if a+(b-m)<=q/\q<b then l.getD (q-(b-m)) z else l.getD q z:=by unfold rot;rw[VT oO oO oO oO oO];rw[(oO:m-(m-a)=a),(oO:m+(b-m)=b)]
theorem NN{l:List α}{a m b:Nat}(h1:a<m)(h2:m<b)(h3:b<=l.length):(rot z l a m b).Perm l:=IR oO oO
theorem rP{p:Nat->Bool}:∀ {f i j:Nat},i<=j->i<=DY p f i j/\DY p f i j<=j
 |0,i,j,h=>⟨aF _,h⟩
 |f+1,i,j,h=>by
  rw[DY];split
  .split;.have:=rP (p:=p) (f:=f) (i:=(i+j)/2+1) (j:=j) oO;omega
   have:=rP (p:=p) (f:=f) (i:=i) (j:=(i+j)/2) oO;omega
  omega
theorem CH{p:Nat->Bool}:∀ {f i j:Nat},j-i<=f->(∀x y,i<=x->x<y->y<j->p y=aB->p x=aB)->(∀x,i<=x->x<DY p f i j->p x=aB)/\∀x,DY p f i j<=x->x<j->p x=aE
 |0,i,j,h,_=>⟨λ x h1 h2=>by rw[DY]at h2;omega,λ x h1 h2=>by rw[DY]at h1;omega⟩
 |f+1,i,j,h,hm=>by
  rw[DY];split
  .split
   .rename_i hp;obtain⟨h1,h2⟩:=CH (p:=p) (f:=f) (i:=(i+j)/2+1) (j:=j) oO (λ x y a b c d=>hm x y oO b c d);refine⟨λ x a b=>?_,λ x a b=>h2 x a b⟩;by_cases c:x<(i+j)/2+1
    .by_cases e:x=(i+j)/2;.subst e;exact hp
     exact hm x _ a (oO:x<(i+j)/2) oO hp
    exact h1 x oO b
   rename_i hp;obtain⟨h1,h2⟩:=CH (p:=p) (f:=f) (i:=i) (j:=(i+j)/2) oO (λ x y a b c d=>hm x y a b oO d);refine⟨λ x a b=>h1 x a b,λ x a b=>?_⟩;by_cases c:x<(i+j)/2;.exact h2 x a c
   rw[gB];intro hx;by_cases e:x=(i+j)/2;.subst e;exact hp hx
   exact hp (hm _ x oO oO b hx)
  exact⟨λ x a b=>oO,λ x a b=>oO⟩
theorem CU{l:List α}{a:Nat}:∀ {n:Nat},(shR z l a n).length=l.length
 |0=>rfl
 |n+1=>by rw[shR,yJ,CU]
theorem NG{l:List α}{a:Nat}:∀ {n:Nat},a+n<l.length\/n=0->(shR z l a n).Perm l
 |0,_=>gQ.refl _
 |n+1,h=>(AY (by rw[CU];omega) (by rw[CU];omega)).trans (NG oO)
theorem aRQ{l:List α}{a:Nat}:∀ {n q:Nat},a+n<l.length\/n=0->(shR z l a n).getD q z=if a<=q/\q<a+n then l.getD (q+1) z else if q=a+n then l.getD a z else l.getD q z
 |0,q,_=>by
  rw[iN oO];split;.rename_i h;subst h;rfl
  rfl
 |n+1,q,h=>by
  have ih:=λ q=>aRQ (l:=l) (a:=a) (n:=n) (q:=q) oO;rw[shR,ND (by rw[CU];omega) (by rw[CU];omega),ih,ih,ih];repeat' split
  all_goals first|(exfalso;omega)|rfl|(congr 1;omega)
theorem CV{l:List α}{m:Nat}:∀ {n:Nat},(shL z l m n).length=l.length
 |0=>rfl
 |n+1=>by rw[shL,yJ,CV]
theorem NH{l:List α}{m:Nat}(hm:m<l.length):∀ {n:Nat},(shL z l m n).Perm l
 |0=>gQ.refl _
 |n+1=>(AY (by rw[CV];omega) (by rw[CV];omega)).trans (NH hm)
theorem aRR{l:List α}{m:Nat}(hm:m<l.length):∀ {n q:Nat},n<=m->(shL z l m n).getD q z=if m-n<q/\q<=m then l.getD (q-1) z else if q=m-n then l.getD m z else l.getD q z
 |0,q,_=>by
  rw[iN oO];split;.rename_i h;subst h;rfl
  rfl
 |n+1,q,h=>by
  have ih:=λ q=>aRR (l:=l) hm (n:=n) (q:=q) oO;rw[shL,ND (by rw[CV];omega) (by rw[CV];omega),ih,ih,ih];repeat' split
  all_goals first|(exfalso;omega)|rfl|(congr 1;omega)
end
section
variable{α:Type}{z:α}{lt:α->α->Bool}{key:α->Int}
def Inc(z:α)(key:α->Int)(l:List α)(a b:Nat):Prop:=∀i j,a<=i->i<j->j<b->key (l.getD i z)<=key (l.getD j z)
def LM(z:α)(lt:α->α->Bool)(key:α->Int)(l:List α):Prop:=∀i j,i<l.length->j<l.length->lt (l.getD i z) (l.getD j z)=decide (key (l.getD i z)<key (l.getD j z))
theorem mH{l m:List α}(h:LM z lt key l)(hp:m.Perm l):LM z lt key m:=λ i j hi hj=>by obtain⟨i',hi',ei⟩:=aTL z (hp.mem_iff.1 (xU (z:=z) hi));obtain⟨j',hj',ej⟩:=aTL z (hp.mem_iff.1 (xU (z:=z) hj));rw[<-ei,<-ej];exact h i' j' hi' hj'
theorem sB{l m:List α}{a b:Nat}(h:Inc z key l a b)(he:∀q,a<=q->q<b->m.getD q z=l.getD q z):Inc z key m a b:=λ i j h1 h2 h3=>by rw[he i h1 oO,he j oO h3];exact h i j h1 h2 h3
theorem TS{a:Nat}:∀ {j:Nat} {l:List α} {q:Nat},j<l.length->a<=j->q<a\/j<q->(rB z lt a j l).getD q z=l.getD q z
 |0,_,_,_,_,_=>rfl
 |j+1,l,q,h,ha,hq=>by
  rw[rB];split;.rename_i hc;rw[TS (by rw[yJ];omega) oO oO,ND h oO,iN oO,iN oO]
  rfl
theorem TT{a e:Nat}:∀ {j:Nat} {l:List α},j<l.length->a<=j->LM z lt key l->(∀x y,a<=x->x<y->y<e->x≠j->y≠j->key (l.getD x z)<=key (l.getD y z))->(∀y,j<y->y<e->key (l.getD j z)<=key (l.getD y z))->Inc z key (rB z lt a j l) a e
 |0,l,h,ha,hk,h1,h2=>λ x y hx hxy hy=>by
  show key (l.getD x z)<=key (l.getD y z);by_cases he:x=0;.subst he;exact h2 y hxy hy
  exact h1 x y hx hxy hy he oO
 |j+1,l,h,ha,hk,h1,h2=>by
  rw[rB];split
  .rename_i hc;have hs:=λ q=>ND (z:=z) (q:=q) h (oO:j<l.length);have hlt:=hk (j+1) j h oO;rw[hc.2]at hlt;have hlt:=of_decide_eq_true hlt.symm;refine TT (by rw[yJ];omega) oO (mH hk (AY h oO)) (λ x y hx hxy hy n1 n2=>?_) (λ y hjy hy=>?_)
   .rw[hs,hs,iN n1,iN n2];by_cases c1:x=j+1;.subst c1;rw[iP rfl,iN oO];exact h1 j y oO oO hy oO oO
    rw[iN c1];by_cases c2:y=j+1;.subst c2;rw[iP rfl];exact h1 x j hx oO oO oO oO
    rw[iN c2];exact h1 x y hx hxy hy c1 c2
   rw[hs,hs,iP rfl,iN oO];by_cases c1:y=j+1;.subst c1;rw[iP rfl];omega
   rw[iN c1];exact h2 y oO hy
  rename_i hc;intro x y hx hxy hy;by_cases c1:x=j+1;.subst c1;exact h2 y hxy hy
  by_cases c2:y=j+1
  .subst c2;have hlt:=hk (j+1) j h oO;have h3:key (l.getD j z)<=key (l.getD (j+1) z):=by have:lt (l.getD (j+1) z) (l.getD j z)≠aB:=λ e=>hc ⟨oO,e⟩;rw[hlt]at this;simp only[ne_eq,decide_eq_true_iff]at this;omega
   by_cases c3:x=j;.subst c3;exact h3
   have:=h1 x j hx oO oO c1 oO;omega
  exact h1 x y hx hxy hy c1 c2
theorem OT{a:Nat}{l:List α}(hk:LM z lt key l):∀ {n:Nat},a+n<l.length->Inc z key (BX z lt a l n) a (a+n+1)/\∀q,q<a\/a+n<q->(BX z lt a l n).getD q z=l.getD q z
 |0,h=>⟨λ i j h1 h2 h3=>oO,λ q _=>rfl⟩
 |n+1,h=>by obtain⟨i1,i2⟩:=OT (a:=a) hk (n:=n) oO;have hp:=yR (z:=z) (lt:=lt) (a:=a) (l:=l) (n:=n) oO;rw[BX];refine⟨TT (j:=a+n+1) (by rw[hp.length_eq];omega) oO (mH hk hp) (λ x y hx hxy hy n1 n2=>i1 x y hx hxy oO) (λ y h1 h2=>oO),λ q hq=>?_⟩;rw[TS (j:=a+n+1) (by rw[hp.length_eq];omega) oO oO,i2 q oO]
theorem TQ{l:List α}(hk:LM z lt key l){a b:Nat}(hb:b<=l.length):Inc z key (EU z lt l a b) a b/\∀q,q<a\/b<=q->(EU z lt l a b).getD q z=l.getD q z:=by
 by_cases h:a+1<b;.obtain⟨h1,h2⟩:=OT (a:=a) (n:=b-a-1) hk oO;exact⟨λ i j c1 c2 c3=>h1 i j c1 c2 oO,λ q hq=>h2 q oO⟩
 have:b-a-1=0:=oO;unfold EU;rw[this];exact⟨λ i j c1 c2 c3=>oO,λ q _=>rfl⟩
structure Sym (z:α) (key:α->Int) (l r:List α) (a b:Nat):Prop where
 perm:r.Perm l
 inc:Inc z key r a b
 out:∀q,q<a\/b<=q->r.getD q z=l.getD q z
 inn:∀q,a<=q->q<b->∃q',a<=q'/\q'<b/\r.getD q z=l.getD q' z
theorem Sym.none {l:List α}{a b:Nat}(h:Inc z key l a b):Sym z key l l a b:=⟨gQ.refl _,h,λ _ _=>rfl,λ q h1 h2=>⟨q,h1,h2,rfl⟩⟩
theorem aZO{l l1 l2 l3:List α}{a mid b:Nat}(h1:a<=mid)(h2:mid<=b)(hp:l1.Perm l)(ho:∀q,q<a\/b<=q->l1.getD q z=l.getD q z)(hi:∀q,a<=q->q<b->∃q',a<=q'/\q'<b/\l1.getD q z=l.getD q' z)
 (hc:∀q q',a<=q->q<mid->mid<=q'->q'<b->key (l1.getD q z)<=key (l1.getD q' z)) (s2:Sym z key l1 l2 a mid) (s3:Sym z key l2 l3 mid b):Sym z key l l3 a b where
 perm:=(s3.perm.trans s2.perm).trans hp
 inc i j c1 c2 c3:=by
  by_cases d1:j<mid;.rw[s3.out i oO,s3.out j oO];exact s2.inc i j c1 c2 d1
  by_cases d2:mid<=i;.exact s3.inc i j d2 c2 c3
  rw[s3.out i oO];obtain⟨i',e1,e2,e3⟩:=s2.inn i c1 oO;obtain⟨j',f1,f2,f3⟩:=s3.inn j oO c3;rw[e3,f3,s2.out j' oO];exact hc i' j' e1 e2 f1 f2
 out q hq:=by rw[s3.out q oO,s2.out q oO,ho q hq]
 inn q c1 c2:=by
  by_cases d:q<mid;.obtain⟨q',e1,e2,e3⟩:=s2.inn q c1 d;obtain⟨q2,f1,f2,f3⟩:=hi q' e1 oO;exact⟨q2,f1,f2,by rw[s3.out q oO,e3,f3]⟩
  obtain⟨q',e1,e2,e3⟩:=s3.inn q oO c2;obtain⟨q2,f1,f2,f3⟩:=hi q' oO e2;exact⟨q2,f1,f2,by rw[e3,s2.out q' oO,f3]⟩
theorem CQ:∀ {f:Nat} {l:List α} {a m b:Nat},LM z lt key l->a<m->m<b->b<=l.length->b-a<=f->Inc z key l a m->Inc z key l m b->Sym z key l (rW z lt f l a m b) a b
 |0,_,_,_,_,_,h1,h2,_,h4,_,_=>oO
 |f+1,l,a,m,b,hk,h1,h2,h3,h4,h5,h6=>by
  rw[rW];split
  .rename_i hma;obtain⟨B1,B2⟩:=CH (p:=λ h=>lt (l.getD h z) (l.getD a z)) (f:=b-m) (i:=m) (j:=b) oO (λ x y c1 c2 c3 c4=>by have e1:=hk x a oO oO;have e2:=hk y a oO oO;rw[e2]at c4;have c4:=of_decide_eq_true c4;have:=h6 x y c1 c2 c3;show lt _ _=aB;rw[e1];exact decide_eq_true oO)
   have hr:=rP (p:=λ h=>lt (l.getD h z) (l.getD a z)) (f:=b-m) (i:=m) (j:=b) oO;generalize DY (λ h=>lt (l.getD h z) (l.getD a z)) (b-m) m b=i at B1 B2 hr;have hs:=λ q=>aRQ (z:=z) (l:=l) (a:=a) (n:=i-1-a) (q:=q) oO;have T1:∀x,m<=x->x<i->key (l.getD x z)<key (l.getD a z):=λ x c1 c2=>by have:=B1 x c1 c2;simp only[hk x a oO oO,decide_eq_true_iff]at this;exact this
   have T2:∀x,i<=x->x<b->key (l.getD a z)<=key (l.getD x z):=λ x c1 c2=>by have:=B2 x c1 c2;simp only[hk x a oO oO,dFn]at this;omega
   refine⟨NG oO,λ x y c1 c2 c3=>?_,λ q hq=>?_,λ q c1 c2=>?_⟩
   .rw[hs,hs];by_cases d1:a<=x/\x<a+(i-1-a)
    .rw[iP d1];by_cases d2:y<a+(i-1-a);.rw[iP oO];exact h6 (x+1) (y+1) oO oO oO
     rw[iN oO];by_cases d3:y=a+(i-1-a);.rw[iP d3];have:=T1 (x+1) oO oO;omega
     rw[iN d3];exact h6 (x+1) y oO oO oO
    rw[iN d1];by_cases d2:x=a+(i-1-a);.rw[iP d2,iN oO,iN oO];exact T2 y oO oO
    rw[iN d2,iN oO,iN oO];exact h6 x y oO c2 c3
   .rw[hs,iN oO,iN oO]
   rw[hs];by_cases d1:a<=q/\q<a+(i-1-a);.rw[iP d1];exact⟨q+1,oO,oO,rfl⟩
   rw[iN d1];by_cases d2:q=a+(i-1-a);.rw[iP d2];exact⟨a,oO,oO,rfl⟩
   rw[iN d2];exact⟨q,c1,c2,rfl⟩
  split
  .rename_i hma hbm;obtain⟨B1,B2⟩:=CH (p:=λ h=> !(lt (l.getD m z) (l.getD h z))) (f:=m-a) (i:=a) (j:=m) oO (λ x y c1 c2 c3 c4=>by have e1:=hk m x oO oO;have e2:=hk m y oO oO;rw[e2,bD]at c4;have c4:=of_decide_eq_false c4;have:=h5 x y c1 c2 c3;show(!(lt _ _))=aB;rw[e1,bD];exact decide_eq_false oO)
   have hr:=rP (p:=λ h=> !(lt (l.getD m z) (l.getD h z))) (f:=m-a) (i:=a) (j:=m) oO;generalize DY (λ h=> !(lt (l.getD m z) (l.getD h z))) (m-a) a m=i at B1 B2 hr;have hs:=λ q=>aRR (z:=z) (l:=l) (m:=m) (oO:m<l.length) (n:=m-i) (q:=q) oO;have T1:∀x,a<=x->x<i->key (l.getD x z)<=key (l.getD m z):=λ x c1 c2=>by have:=B1 x c1 c2;simp only[hk m x oO oO,bD,dFn]at this;omega
   have T2:∀x,i<=x->x<m->key (l.getD m z)<key (l.getD x z):=λ x c1 c2=>by have:=B2 x c1 c2;simp only[hk m x oO oO,jI,decide_eq_true_iff]at this;omega
   refine⟨NH oO,λ x y c1 c2 c3=>?_,λ q hq=>?_,λ q c1 c2=>?_⟩
   .rw[hs,hs];by_cases d1:m-(m-i)<x/\x<=m;.rw[iP d1,iP oO];exact h5 (x-1) (y-1) oO oO oO
    rw[iN d1];by_cases d2:x=m-(m-i);.rw[iP d2,iP oO];have:=T2 (y-1) oO oO;omega
    rw[iN d2];by_cases d3:m-(m-i)<y/\y<=m;.rw[iP d3];exact h5 x (y-1) c1 oO oO
    rw[iN d3];by_cases d4:y=m-(m-i);.rw[iP d4];exact T1 x c1 oO
    rw[iN d4];exact h5 x y c1 c2 oO
   .rw[hs,iN oO,iN oO]
   rw[hs];by_cases d1:m-(m-i)<q/\q<=m;.rw[iP d1];exact⟨q-1,oO,oO,rfl⟩
   rw[iN d1];by_cases d2:q=m-(m-i);.rw[iP d2];exact⟨m,oO,oO,rfl⟩
   rw[iN d2];exact⟨q,c1,c2,rfl⟩
  rename_i hma hbm;obtain⟨mid,em⟩:∃mid,mid=(a+b)/2:=⟨_,rfl⟩;simp only[<-em];obtain⟨s0,es⟩:∃s0,s0=if mid<m then mid+m-b else a:=⟨_,rfl⟩
  obtain⟨r0,er⟩:∃r0,r0=if mid<m then mid else m:=⟨_,rfl⟩
  rw[<-es,<-er]
  have cs:(mid<m/\s0=mid+m-b/\r0=mid)\/(m<=mid/\s0=a/\r0=m):=by
   by_cases c:mid<m;.rw[iP c]at es er;exact .inl ⟨c,es,er⟩
   rw[iN c]at es er;exact .inr ⟨oO,es,er⟩
  clear es er;have hpk:∀c,s0<=c->c<r0->(!(lt (l.getD (mid+m-1-c) z) (l.getD c z)))=decide (key (l.getD c z)<=key (l.getD (mid+m-1-c) z)):=λ c c1 c2=>by rw[hk _ _ oO oO,bH,bD,dFn,decide_eq_true_iff];omega
  obtain⟨B1,B2⟩:=CH (p:=λ c=> !(lt (l.getD (mid+m-1-c) z) (l.getD c z))) (f:=b-a) (i:=s0) (j:=r0) oO (λ x y c1 c2 c3 c4=>by show(!(lt _ _))=aB;rw[hpk x c1 oO];rw[hpk y oO c3]at c4;have c4:=of_decide_eq_true c4;have i1:=h5 x y oO c2 oO;have i2:=h6 (mid+m-1-y) (mid+m-1-x) oO oO oO;exact decide_eq_true oO)
  have hr:=rP (p:=λ c=> !(lt (l.getD (mid+m-1-c) z) (l.getD c z))) (f:=b-a) (i:=s0) (j:=r0) oO;generalize DY (λ c=> !(lt (l.getD (mid+m-1-c) z) (l.getD c z))) (b-a) s0 r0=st at B1 B2 hr;obtain⟨en,ee⟩:∃en,en=mid+m-st:=⟨_,rfl⟩;rw[<-ee];have T1:s0<st->key (l.getD (st-1) z)<=key (l.getD en z):=λ c=>by have:=B1 (st-1) oO oO;rw[hpk _ oO oO,decide_eq_true_iff,(oO:mid+m-1-(st-1)=en)]at this;exact this
  have T2:st<r0->key (l.getD (en-1) z)<key (l.getD st z):=λ c=>by have:=B2 st oO oO;rw[hpk _ oO oO,dFn,(oO:mid+m-1-st=en-1)]at this;omega
  have le5:∀x y,a<=x->x<=y->y<m->key (l.getD x z)<=key (l.getD y z):=λ x y c1 c2 c3=>by
   by_cases c:x=y;.subst c;omega
   exact h5 x y c1 oO c3
  have le6:∀x y,m<=x->x<=y->y<b->key (l.getD x z)<=key (l.getD y z):=λ x y c1 c2 c3=>by
   by_cases c:x=y;.subst c;omega
   exact h6 x y c1 oO c3
  obtain⟨l1,e1⟩:∃l1,l1=if st<m/\m<en then rot z l st m en else l:=⟨_,rfl⟩
  have hp1:l1.Perm l:=by
   rw[e1];split;.exact NN oO oO oO
   exact gQ.refl _
  have ha1:∀q,l1.getD q z=if st<=q/\q<mid then l.getD (q+(m-st)) z else if mid<=q/\q<en then l.getD (q-(mid-st)) z else l.getD q z:=λ q=>by
   rw[e1];split
   .rw[a7N oO oO oO];repeat' split
    all_goals first|(exfalso;omega)|rfl|(congr 1;omega)
   repeat' split
   all_goals first|(exfalso;omega)|rfl|(congr 1;omega)
  rw[<-e1]
  have s2:Sym z key l1 (if a<st/\st<mid then rW z lt f l1 a st mid else l1) a mid:=by
   split
   .refine CQ (mH hk hp1) oO oO (by rw[hp1.length_eq];omega) oO (λ i j c1 c2 c3=>?_) (λ i j c1 c2 c3=>?_);.rw[ha1,ha1,iN oO,iN oO,iN oO,iN oO];exact le5 _ _ oO oO oO
    rw[ha1,ha1,iP oO,iP oO];exact le6 _ _ oO oO oO
   refine .none λ i j c1 c2 c3=>?_;rw[ha1,ha1];by_cases c:st<=a;.rw[iP oO,iP oO];exact le6 _ _ oO oO oO
   rw[iN oO,iN oO,iN oO,iN oO];exact le5 _ _ oO oO oO
  obtain⟨l2,e2⟩:∃l2,l2=if a<st/\st<mid then rW z lt f l1 a st mid else l1:=⟨_,rfl⟩
  rw[<-e2]at s2⊢
  have hp2:l2.Perm l:=s2.perm.trans hp1;have ha2:∀q,mid<=q->l2.getD q z=l1.getD q z:=λ q h=>s2.out q (.inr h)
  have s3:Sym z key l2 (if mid<en/\en<b then rW z lt f l2 mid en b else l2) mid b:=by
   split
   .refine CQ (mH hk hp2) oO oO (by rw[hp2.length_eq];omega) oO (λ i j c1 c2 c3=>?_) (λ i j c1 c2 c3=>?_);.rw[ha2 i oO,ha2 j oO,ha1,ha1,iN oO,iP oO,iN oO,iP oO];exact le5 _ _ oO oO oO
    rw[ha2 i oO,ha2 j oO,ha1,ha1,iN oO,iN oO,iN oO,iN oO];exact le6 _ _ oO oO oO
   refine .none λ i j c1 c2 c3=>?_;rw[ha2 i oO,ha2 j oO,ha1,ha1];by_cases c:en<=mid;.rw[iN oO,iN oO,iN oO,iN oO];exact le6 _ _ oO oO oO
   rw[iN oO,iP oO,iN oO,iP oO];exact le5 _ _ oO oO oO
  refine aZO (mid:=mid) oO oO hp1 (λ q hq=>?_) (λ q c1 c2=>?_) (λ q q' c1 c2 c3 c4=>?_) s2 s3;.rw[ha1,iN oO,iN oO]
  .rw[ha1];split;.exact⟨q+(m-st),oO,oO,rfl⟩
   split;.exact⟨q-(mid-st),oO,oO,rfl⟩
   exact⟨q,c1,c2,rfl⟩
  rw[ha1 q,ha1 q',iN (oO:¬(st<=q'/\q'<mid))];by_cases d1:q<st
  .rw[iN oO,iN oO];by_cases d2:q'<en;.rw[iP oO];exact le5 _ _ oO oO oO
   rw[iN oO];have t1:=T1 oO;have t2:=le5 q (st-1) oO oO oO;have t3:=le6 en q' oO oO oO;omega
  rw[iP oO];by_cases d2:q'<en;.rw[iP oO];have t1:=T2 oO;have t2:=le6 (q+(m-st)) (en-1) oO oO oO;have t3:=le5 st (q'-(mid-st)) oO oO oO;omega
  rw[iN oO];exact le6 _ _ oO oO oO
end
section
variable{α:Type}{z:α}{lt:α->α->Bool}{key:α->Int}
def aYW(z:α)(key:α->Int)(s:Nat)(l:List α):Prop:=∀t,Inc z key l (s*t) (min (s*t+s) l.length)
theorem aCO{l:List α}(hk:LM z lt key l):∀ {q:Nat},20*q<=l.length->(blk z lt l q).Perm l/\∀t,t<q->Inc z key (blk z lt l q) (20*t) (20*t+20)
 |0,_=>⟨gQ.refl _,λ t ht=>absurd ht (bO t)⟩
 |q+1,h=>by
  obtain⟨h1,h2⟩:=aCO hk (q:=q) oO;have hb:20*q+20<=(blk z lt l q).length:=by rw[h1.length_eq];omega
  obtain⟨h3,h4⟩:=TQ (a:=20*q) (mH hk h1) hb;refine⟨(xS hb).trans h1,λ t ht=>?_⟩;by_cases he:t=q;.subst he;exact h3
  exact sB (h2 t oO) λ q' c1 c2=>h4 q' oO
theorem aFY{l:List α}(hk:LM z lt key l):(EU z lt (blk z lt l (l.length/20)) (20*(l.length/20)) l.length).Perm l/\aYW z key 20 (EU z lt (blk z lt l (l.length/20)) (20*(l.length/20)) l.length):=by
 obtain⟨h1,h2⟩:=aCO hk (q:=l.length/20) oO;obtain⟨h3,h4⟩:=TQ (a:=20*(l.length/20)) (b:=l.length) (mH hk h1) (by rw[h1.length_eq];omega);have hp:=(xS (z:=z) (lt:=lt) (l:=blk z lt l (l.length/20)) (a:=20*(l.length/20)) (b:=l.length) (by rw[h1.length_eq];omega)).trans h1;refine⟨hp,λ t=>?_⟩;rw[hp.length_eq];intro i j c1 c2 c3;by_cases ht:t<l.length/20;.exact sB (h2 t ht) (λ q' d1 d2=>h4 q' oO) i j c1 c2 oO
 exact h3 i j oO c2 oO
theorem WE{s t q:Nat}(h:t<=q):2*s*t<=2*s*q:=Nat.mul_le_mul_left _ h
theorem LU{s t q:Nat}(h:t<q):2*s*t+2*s<=2*s*q:=by have:=WE (s:=s) (show t+1<=q from h);rw[Nat.mul_add,HW]at this;exact this
theorem ZS{s:Nat}{l:List α}(hs:0<s)(hk:LM z lt key l)(hB:aYW z key s l):∀ {q:Nat},2*s*q<=l.length->(YL z lt s l q).Perm l/\(∀t,t<q->Inc z key (YL z lt s l q) (2*s*t) (2*s*t+2*s))/\∀x,2*s*q<=x->(YL z lt s l q).getD x z=l.getD x z
 |0,_=>⟨gQ.refl _,λ t ht=>absurd ht (bO t),λ _ _=>rfl⟩
 |q+1,h=>by
  have hm:=LU (s:=s) (oO:q<q+1);obtain⟨h1,h2,h3⟩:=ZS hs hk hB (q:=q) oO;have e1:s*(2*q)=2*s*q:=by rw[iW 2 s,Nat.mul_assoc]
  have e2:s*(2*q+1)=2*s*q+s:=by rw[Nat.mul_add,e1,HW]
  have b1:=hB (2*q);have b2:=hB (2*q+1);rw[e1]at b1;rw[e2]at b2
  have S:Sym z key (YL z lt s l q) (rW z lt l.length (YL z lt s l q) (2*s*q) (2*s*q+s) (2*s*q+2*s)) (2*s*q) (2*s*q+2*s):=
   CQ (mH hk h1) oO oO (by rw[h1.length_eq];omega) oO (sB (λ i j c1 c2 c3=>b1 i j c1 c2 oO) λ x c1 c2=>h3 x c1) (sB (λ i j c1 c2 c3=>b2 i j c1 c2 oO) λ x c1 c2=>h3 x oO)
  rw[YL];refine⟨S.perm.trans h1,λ t ht=>?_,λ x hx=>?_⟩
  .by_cases he:t=q;.subst he;exact S.inc
   have:=LU (s:=s) (oO:t<q);exact sB (h2 t oO) λ x c1 c2=>S.out x oO
  rw[S.out x oO,h3 x oO]
theorem aNI{s:Nat}{l:List α}(hs:0<s)(hk:LM z lt key l)(hB:aYW z key s l):(RB z lt s l).Perm l/\aYW z key (2*s) (RB z lt s l):=by
 obtain⟨k,ek⟩:∃k,k=l.length/(2*s):=⟨_,rfl⟩;have k1:2*s*k<=l.length:=by rw[ek];exact Nat.mul_div_le _ _
 have k2:l.length<2*s*k+2*s:=by have:=Nat.lt_mul_div_succ l.length (oO:0<2*s);rw[<-ek,Nat.mul_add,HW]at this;exact this
 obtain⟨h1,h2,h3⟩:=ZS hs hk hB k1;have e1:s*(2*k)=2*s*k:=by rw[iW 2 s,Nat.mul_assoc]
 have e2:s*(2*k+1)=2*s*k+s:=by rw[Nat.mul_add,e1,HW]
 have b1:=hB (2*k);have b2:=hB (2*k+1);rw[e1]at b1;rw[e2]at b2;unfold RB;rw[<-ek];split
 .rename_i hc
  have S:Sym z key (YL z lt s l k) (rW z lt l.length (YL z lt s l k) (2*s*k) (2*s*k+s) l.length) (2*s*k) l.length:=
   CQ (mH hk h1) oO oO (by rw[h1.length_eq];omega) oO (sB (λ i j c1 c2 c3=>b1 i j c1 c2 oO) λ x c1 c2=>h3 x c1) (sB (λ i j c1 c2 c3=>b2 i j c1 c2 oO) λ x c1 c2=>h3 x oO)
  have hp:=S.perm.trans h1;refine⟨hp,λ t=>?_⟩;rw[hp.length_eq];intro i j c1 c2 c3;by_cases ht:t<k;.have:=LU (s:=s) ht;exact sB (h2 t ht) (λ x d1 d2=>S.out x oO) i j c1 c2 oO
  have:=WE (s:=s) (oO:k<=t);exact S.inc i j oO c2 oO
 rename_i hc;refine⟨h1,λ t=>?_⟩;rw[h1.length_eq];intro i j c1 c2 c3;by_cases ht:t<k;.exact h2 t ht i j c1 c2 oO
 have:=WE (s:=s) (oO:k<=t);rw[h3 i oO,h3 j oO];exact b1 i j oO c2 oO
theorem NX:∀ {f s:Nat} {l:List α},0<s->l.length<=s+f->LM z lt key l->aYW z key s l->(xL z lt f s l).Perm l/\Inc z key (xL z lt f s l) 0 l.length
 |0,s,l,hs,hf,hk,hB=>⟨gQ.refl _,λ i j c1 c2 c3=>hB 0 i j oO c2 (by show j<min (s*0+s) l.length;omega)⟩
 |f+1,s,l,hs,hf,hk,hB=>by
  rw[xL];split;.obtain⟨h1,h2⟩:=aNI hs hk hB;obtain⟨h3,h4⟩:=NX (f:=f) (s:=2*s) (l:=RB z lt s l) oO (by rw[h1.length_eq];omega) (mH hk h1) h2;rw[h1.length_eq]at h4;exact⟨h3.trans h1,h4⟩
  exact⟨gQ.refl _,λ i j c1 c2 c3=>hB 0 i j oO c2 (by show j<min (s*0+s) l.length;omega)⟩
theorem aMI{l:List α}(hk:LM z lt key l):(IM z lt l).Perm l/\(IM z lt l).Pairwise λ x y=>key x<=key y:=by obtain⟨h1,h2⟩:=aFY hk;have h3:=NX (f:=l.length) (s:=20) oO (by rw[h1.length_eq];omega) (mH hk h1) h2;have hp:=h3.1.trans h1;refine⟨hp,?_⟩;have h4:=h3.2;rw[h1.length_eq]at h4;rw[AV];intro i j hi hj hij;have:key ((IM z lt l).getD i z)<=key ((IM z lt l).getD j z):=h4 i j oO hij (by rw[<-hp.length_eq];exact hj);rw[yY hj,yY hi]at this;exact this
end
section
variable{α:Type}{z:α}{lt:α->α->Bool}
theorem xD:∀ {f:Nat} {l:List α} {a m b:Nat},a<m->m<b->b<=l.length->(rW z lt f l a m b).Perm l
 |0,_,_,_,_,_,_,_=>gQ.refl _
 |f+1,l,a,m,b,h1,h2,h3=>by
  rw[rW];split;.have hr:=rP (p:=λ h=>lt (l.getD h z) (l.getD a z)) (f:=b-m) (i:=m) (j:=b) oO;exact NG oO
  split;.exact NH oO
  obtain⟨mid,em⟩:∃mid,mid=(a+b)/2:=⟨_,rfl⟩;simp only[<-em];obtain⟨s0,es⟩:∃s0,s0=if mid<m then mid+m-b else a:=⟨_,rfl⟩
  obtain⟨r0,er⟩:∃r0,r0=if mid<m then mid else m:=⟨_,rfl⟩
  rw[<-es,<-er]
  have cs:(mid<m/\s0=mid+m-b/\r0=mid)\/(m<=mid/\s0=a/\r0=m):=by
   by_cases c:mid<m;.rw[iP c]at es er;exact .inl ⟨c,es,er⟩
   rw[iN c]at es er;exact .inr ⟨oO,es,er⟩
  clear es er;have hr:=rP (p:=λ c=> !(lt (l.getD (mid+m-1-c) z) (l.getD c z))) (f:=b-a) (i:=s0) (j:=r0) oO;generalize DY (λ c=> !(lt (l.getD (mid+m-1-c) z) (l.getD c z))) (b-a) s0 r0=st at hr;obtain⟨en,ee⟩:∃en,en=mid+m-st:=⟨_,rfl⟩;rw[<-ee];obtain⟨l1,e1⟩:∃l1,l1=if st<m/\m<en then rot z l st m en else l:=⟨_,rfl⟩
  have hp1:l1.Perm l:=by
   rw[e1];split;.exact NN oO oO oO
   exact gQ.refl _
  rw[<-e1];obtain⟨l2,e2⟩:∃l2,l2=if a<st/\st<mid then rW z lt f l1 a st mid else l1:=⟨_,rfl⟩
  have hp2:l2.Perm l:=by
   rw[e2];split;.exact(xD oO oO (by rw[hp1.length_eq];omega)).trans hp1
   exact hp1
  rw[<-e2];split;.exact(xD oO oO (by rw[hp2.length_eq];omega)).trans hp2
  exact hp2
theorem QA{l:List α}:∀ {q:Nat},20*q<=l.length->(blk z lt l q).Perm l
 |0,_=>gQ.refl _
 |q+1,h=>by have ih:=QA (l:=l) (q:=q) oO;exact(xS (by rw[ih.length_eq];omega)).trans ih
theorem NZ{s:Nat}{l:List α}(hs:0<s):∀ {q:Nat},2*s*q<=l.length->(YL z lt s l q).Perm l
 |0,_=>gQ.refl _
 |q+1,h=>by have hm:=LU (s:=s) (oO:q<q+1);have ih:=NZ (l:=l) hs (q:=q) oO;exact(xD oO oO (by rw[ih.length_eq];omega)).trans ih
theorem SZ{s:Nat}{l:List α}(hs:0<s):(RB z lt s l).Perm l:=by
 have k1:2*s*(l.length/(2*s))<=l.length:=Nat.mul_div_le _ _;have ih:=NZ (z:=z) (lt:=lt) (l:=l) hs k1;unfold RB;split;.exact(xD oO oO (by rw[ih.length_eq];omega)).trans ih
 exact ih
theorem NY:∀ {f s:Nat} {l:List α},0<s->(xL z lt f s l).Perm l
 |0,_,_,_=>gQ.refl _
 |f+1,s,l,hs=>by
  rw[xL];split;.exact(NY oO).trans (SZ hs)
  exact gQ.refl _
theorem aFZ{l:List α}:(EU z lt (blk z lt l (l.length/20)) (20*(l.length/20)) l.length).Perm l:=by have h1:=QA (z:=z) (lt:=lt) (l:=l) (q:=l.length/20) oO;exact(xS (by rw[h1.length_eq];omega)).trans h1
theorem stab_perm{l:List α}:(IM z lt l).Perm l:=(NY oO).trans aFZ
end
end Go.Proofs.T
end
section
namespace Go.Proofs.T
open Go Go.AM Go.Proofs
def a4H(a:St)(d:Dl)(r:List Tk):Prop:=DX a (WI a d r)=0/\btw a (WI a d r)=d
def appR(a:St)(d:Dl)(m:List Tk):Prop:=FitD a d/\dQ (YN a d m)=[]
theorem a8Q{s:St}(h:dQ s=[]):∀t∈mU s,1<=t.id/\t.id<=65535:=λ t ht=>by obtain⟨i,hi,rfl⟩:=mem_tkL.1 ht;have h:=yS (s:=s) (by rw[h];rfl);exact⟨h.lo i hi,h.hi i hi⟩
theorem aFC(a:St)(d:Dl)(r:List Tk):QU a (WI a d r) a.ng=aB:=by simp only[QU,dTt];exact⟨rfl,rfl,rfl,λ _ _=>rfl⟩
theorem a4F{a:St}{d:Dl}{r m:List Tk}(ha:dQ a=[])(hK:0<a.nk)(hp:r.Perm (EF (mU a) d.gn d.tk++d.tk))
 (hs:(∀t∈r,1<=t.id/\t.id<=65535)->r.Pairwise λ x y=>x.id<=y.id) (hm:FitD a d->qS (mU a) d.gn d.tk m):(a4H a d r↔appR a d m)/\(a4H a d r->WI a d r=YN a d m):=by
 have ia:=(yS (s:=a) (by rw[ha];rfl)).st
 have key:a4H a d r->FitD a d/\dQ (WI a d r)=[]/\WI a d r=YN a d m:=by
  rintro⟨h1,h2⟩;have hnb:¬tV a (WI a d r):=λ hb=>by unfold DX at h1;rw[iP hb]at h1;exact absurd h1 (by decide)
  have hb:dQ (WI a d r)=[]:=by refine jU ?_;unfold tV at hnb;omega
  have h3:AS a (WI a d r)=d:=by unfold btw at h2;rw[iN hnb,aFC,iN sS]at h2;exact h2
  obtain⟨h4,h5⟩:=bKL (m:=m) ia (yS (by rw[hb];rfl)).st hK h3;exact⟨h4,hb,(h5 (hm h4)).symm⟩
 refine⟨⟨λ h=>?_,?_⟩,λ h=>(key h).2.2⟩;.obtain⟨h1,h2,h3⟩:=key h;exact⟨h1,by rw[<-h3];exact h2⟩
 rintro⟨hf,hc⟩;have hmm:=hm hf
 have hid:∀t∈r,1<=t.id/\t.id<=65535:=λ t ht=>by
  have h1:=a8Q hc t;rw[VF]at h1;refine h1 ((hmm.2 t).2 ?_);rcases dC.1 (hp.mem_iff.1 ht)with h|h;.exact .inr h
  exact .inl h
 obtain⟨e1,e2⟩:=bKK ia hf hmm hp (hs hid);have hnb:¬tV a (WI a d r):=by unfold tV;rw[e1,ha,hc];simp
 refine⟨?_,?_⟩;.unfold DX;rw[iN hnb,aFC,iN sS]
 unfold btw;rw[iN hnb,aFC,iN sS];exact e2
def iO(x y:Tk):Bool:=decide (aL.wrap (x.id-y.id)<0)
theorem aRB{l:List Tk}(h:∀t∈l,1<=t.id/\t.id<=65535):(IM gX iO l).Pairwise λ x y=>x.id<=y.id:=by refine(aMI (z:=gX) (lt:=iO) (key:=λ t:Tk=>t.id) λ i j hi hj=>?_).2;have h1:=h _ (xU (z:=gX) hi);have h2:=h _ (xU (z:=gX) hj);unfold iO;rw[dP oO oO];show decide _=decide ((l.getD i gX).id<(l.getD j gX).id);congr 1;exact propext ⟨λ h=>oO,λ h=>oO⟩
end Go.Proofs.T
end
section
namespace Go.Proofs.T
open Go Go.AM Go.Proofs
variable{Γ:dL}
theorem a6R(a b:Int):mK (a,b)=[.lit (.int .i64 a),.lit (.int .i64 b)]:=rfl
theorem bCG(a b:Int)(s:Sp):pR (a,b,s)=[.lit (.int .i64 a),.lit (.int .i64 b),.lit (.int .u64 s.v),.lit (.int .u32 s.r),.lit (.int .u64 s.floor)]:=rfl
attribute [go_sem] a6R bCG
theorem jW{c:AVal}(h:∀p,iM p c=aB)(a b:Nat):AP a b c=c:=by have:=h λ _=>aE;cases c<;>first|rfl|(simp[iM]at this;done)|(simp[iM]at this;subst this;rfl)
theorem xX(a b:Nat->Int)(i:Nat):(kD a b i).length<=1:=GM _ _
theorem PM(a b:St)(i:Nat):(vE a b i).length<=1:=GM _ _
theorem aBW(a b:St)(g i:Nat):(mA a b g i).length<=1:=GM _ _
theorem a3D(k D:Nat)(hD:D<k)(a b:Nat->Int)(n:Nat)(hn:n<=1000)(c1 c2 c3 c4 c5:AVal)(e1:∀p,iM p c1=aB)(e2:∀p,iM p c2=aB)(e3:∀p,iM p c3=aB)(e4:∀p,iM p c4=aB)(e5:∀p,iM p c5=aB):
 Tr aD Γ 53 k [.rd 1 n (λ i=>[(a i)]),.rd 1 n (λ i=>[(b i)]),.fn 54 [.ptr D 0 0]] ([(D,⟨6,aE,[[(),c1,c2,c3,c4,c5]]⟩)]) (λ k1 r1 H1=>k1=k+1/\r1= .tup []/\H1=cL k 2 ((gH (kD a b) n).map mK) [(D,⟨6,aE,[[dG k ((gH (kD a b) n).map mK),c1,c2,c3,c4,c5]]⟩)]):=by
 obtain⟨a1,a2,a3,a4,a5,a6⟩:=fK hD;obtain⟨s1,s2,s3,s4,s5⟩:=ID (jW e1) (jW e2) (jW e3) (jW e4) (jW e5);refine cN Tryz.func53 rfl 26 rfl bB (pA ?_);have kp:Kp [0,1,2,6,7,8,9,10,11,20] (λ i=>if i=D then 0 else i-k+1):=jZ;have uU:=fP a1 a2 a3 a4 a5 a6 e1 e2 (AO e3 e4 e5 s1 s2 s3 s4 s5);refine wl ?_;refine cA ?_;refine bY (X:=Nat) rfl [0,1,2,6,7,8,9,10,11,20] (k+1) (λ i=>[(10,i)]) (λ i=>cL k 2 ((gH (kD a b) i).map mK) [(D,⟨6,aE,[[dG k ((gH (kD a b) i).map mK),c1,c2,c3,c4,c5]]⟩)]) (λ i=>i<=n) (λ i=>n-i) 0 ?_ (aZ _) ?_;.rw[xV,bQ];refine rR ?_;apply zN;(have uU:=fP a1 a2 a3 a4 a5 a6 e1 e2 (AO e3 e4 e5 s1 s2 s3 s4 s5);exact qT)
 intro i hi;have hfl:=kR (xX a b) i;obtain⟨l,el,hl⟩:∃x,x=((gH (kD a b) i).map mK)/\x.length<=i:=⟨_,rfl,by simp;omega⟩;have es:((gH (kD a b) (i+1)).map mK)=l++(kD a b i).map mK:=by rw[vD,aM,<-el]
 rw[<-el];refine rR ?_;apply zN;refine wl ?_;refine jV ⟨λ ht ht=>zN ?_⟩ ⟨λ ht ht=>zN ?_⟩ ⟨λ ht=>zN ?_⟩
 .refine cl [.gen (.tup []) (k+3) (cL k 2 l [(D,⟨6,aE,[[dG k l,c1,c2,c3,c4,c5]]⟩)]) [(k+2,⟨2,aB,l++[[.lit (.int .i64 (i:Int)),.lit (.int .i64 (b i))]]⟩),(D,⟨6,aE,[[.sl (k+2) 0 (l.length+1),c1,c2,c3,c4,c5]]⟩)]] ?_;refine iE ?_ ?_;.exact bFK (k+1) D k oO oO oO l oO c1 c2 c3 c4 c5 (i:Int) (b i) (e1 _) (e2 _) (e3 _) (e4 _) (e5 _)
  refine wl ?_;refine cA ?_;refine⟨i+1,oO,oO,?_⟩;rw[es,show kD a b i=[_]from by rw[kD,DV,iP (by first|(simp;omega)|(simp[yK]at ht⊢;omega))],bI,bQ];refine rR ?_;apply zN;exact DZ (k+2) k (wV (fP (@a1) (@a2) (@a3) (@a4) (@a5) (@a6) (@e1) (@e2) (AO (@e3) (@e4) (@e5) (@s1) (@s2) (@s3) (@s4) (@s5))))
 .refine⟨i+1,oO,oO,?_⟩;rw[es,show kD a b i=[]from by rw[kD,DV,iN (by first|(simp;omega)|(simp[yK]at ht⊢;omega))],bQ,cZ];refine rR ?_;apply zN;(have uU:=fP a1 a2 a3 a4 a5 a6 e1 e2 (AO e3 e4 e5 s1 s2 s3 s4 s5);exact qT)
 have hin:i=n:=oO;subst hin;refine⟨k+1,[],cL k 2 l [(D,⟨6,aE,[[dG k l,c1,c2,c3,c4,c5]]⟩)],?_,_,rfl,rfl,rfl,by rw[el]⟩;(have uU:=fP a1 a2 a3 a4 a5 a6 e1 e2 (AO e3 e4 e5 s1 s2 s3 s4 s5);exact qT)
theorem a3C(k D:Nat)(hD:D<k)(a b:Nat->Int)(n:Nat)(hn:n<=1000)(c1 c2 c3 c4 c5:AVal)(e1:∀p,iM p c1=aB)(e2:∀p,iM p c2=aB)(e3:∀p,iM p c3=aB)(e4:∀p,iM p c4=aB)(e5:∀p,iM p c5=aB):
 Tr aD Γ 53 k [.rd 1 n (λ i=>[(a i)]),.rd 1 n (λ i=>[(b i)]),.fn 55 [.ptr D 0 0]] ([(D,⟨6,aE,[[c1,(),c2,c3,c4,c5]]⟩)]) (λ k1 r1 H1=>k1=k+1/\r1= .tup []/\H1=cL k 2 ((gH (kD a b) n).map mK) [(D,⟨6,aE,[[c1,dG k ((gH (kD a b) n).map mK),c2,c3,c4,c5]]⟩)]):=by
 obtain⟨a1,a2,a3,a4,a5,a6⟩:=fK hD;obtain⟨s1,s2,s3,s4,s5⟩:=ID (jW e1) (jW e2) (jW e3) (jW e4) (jW e5);refine cN Tryz.func53 rfl 26 rfl bB (pA ?_);have kp:Kp [0,1,2,6,7,8,9,10,11,20] (λ i=>if i=D then 0 else i-k+1):=jZ;have uU:=fP a1 a2 a3 a4 a5 a6 e1 e2 (AO e3 e4 e5 s1 s2 s3 s4 s5);refine wl ?_;refine cA ?_;refine bY (X:=Nat) rfl [0,1,2,6,7,8,9,10,11,20] (k+1) (λ i=>[(10,i)]) (λ i=>cL k 2 ((gH (kD a b) i).map mK) [(D,⟨6,aE,[[c1,dG k ((gH (kD a b) i).map mK),c2,c3,c4,c5]]⟩)]) (λ i=>i<=n) (λ i=>n-i) 0 ?_ (aZ _) ?_;.rw[xV,bQ];refine rR ?_;apply zN;(have uU:=fP a1 a2 a3 a4 a5 a6 e1 e2 (AO e3 e4 e5 s1 s2 s3 s4 s5);exact qT)
 intro i hi;have hfl:=kR (xX a b) i;obtain⟨l,el,hl⟩:∃x,x=((gH (kD a b) i).map mK)/\x.length<=i:=⟨_,rfl,by simp;omega⟩;have es:((gH (kD a b) (i+1)).map mK)=l++(kD a b i).map mK:=by rw[vD,aM,<-el]
 rw[<-el];refine rR ?_;apply zN;refine wl ?_;refine jV ⟨λ ht ht=>zN ?_⟩ ⟨λ ht ht=>zN ?_⟩ ⟨λ ht=>zN ?_⟩
 .refine cl [.gen (.tup []) (k+3) (cL k 2 l [(D,⟨6,aE,[[c1,dG k l,c2,c3,c4,c5]]⟩)]) [(k+2,⟨2,aB,l++[[.lit (.int .i64 (i:Int)),.lit (.int .i64 (b i))]]⟩),(D,⟨6,aE,[[c1,.sl (k+2) 0 (l.length+1),c2,c3,c4,c5]]⟩)]] ?_;refine iE ?_ ?_;.exact bFJ (k+1) D k oO oO oO l oO c1 c2 c3 c4 c5 (i:Int) (b i) (e1 _) (e2 _) (e3 _) (e4 _) (e5 _)
  refine wl ?_;refine cA ?_;refine⟨i+1,oO,oO,?_⟩;rw[es,show kD a b i=[_]from by rw[kD,DV,iP (by first|(simp;omega)|(simp[yK]at ht⊢;omega))],bI,bQ];refine rR ?_;apply zN;exact DZ (k+2) k (wV (fP (@a1) (@a2) (@a3) (@a4) (@a5) (@a6) (@e1) (@e2) (AO (@e3) (@e4) (@e5) (@s1) (@s2) (@s3) (@s4) (@s5))))
 .refine⟨i+1,oO,oO,?_⟩;rw[es,show kD a b i=[]from by rw[kD,DV,iN (by first|(simp;omega)|(simp[yK]at ht⊢;omega))],bQ,cZ];refine rR ?_;apply zN;(have uU:=fP a1 a2 a3 a4 a5 a6 e1 e2 (AO e3 e4 e5 s1 s2 s3 s4 s5);exact qT)
 have hin:i=n:=oO;subst hin;refine⟨k+1,[],cL k 2 l [(D,⟨6,aE,[[c1,dG k l,c2,c3,c4,c5]]⟩)],?_,_,rfl,rfl,rfl,by rw[el]⟩;(have uU:=fP a1 a2 a3 a4 a5 a6 e1 e2 (AO e3 e4 e5 s1 s2 s3 s4 s5);exact qT)
theorem a3B(k D:Nat)(hD:D<k)(a b:St)(n:Nat)(hn:n<=1000)(c1 c2 c3 c4 c5:AVal)(e1:∀p,iM p c1=aB)(e2:∀p,iM p c2=aB)(e3:∀p,iM p c3=aB)(e4:∀p,iM p c4=aB)(e5:∀p,iM p c5=aB):
 Tr aD Γ 56 k [.rd 2 n (gf a),.rd 2 n (gf b),.fn 57 [.ptr D 0 0]] ([(D,⟨6,aE,[[c1,c2,(),c3,c4,c5]]⟩)]) (λ k1 r1 H1=>k1=k+1/\r1= .tup []/\H1=cL k 2 ((gH (vE a b) n).map mK) [(D,⟨6,aE,[[c1,c2,dG k ((gH (vE a b) n).map mK),c3,c4,c5]]⟩)]):=by
 obtain⟨a1,a2,a3,a4,a5,a6⟩:=fK hD;obtain⟨s1,s2,s3,s4,s5⟩:=ID (jW e1) (jW e2) (jW e3) (jW e4) (jW e5);refine cN Tryz.func56 rfl 26 rfl bB (pA ?_);have kp:Kp [0,1,2,6,7,8,9,10,11,20] (λ i=>if i=D then 0 else i-k+1):=jZ;have uU:=fP a1 a2 a3 a4 a5 a6 e1 e2 (AO e3 e4 e5 s1 s2 s3 s4 s5);refine wl ?_;refine cA ?_;refine bY (X:=Nat) rfl [0,1,2,6,7,8,9,10,11,20] (k+1) (λ i=>[(10,i)]) (λ i=>cL k 2 ((gH (vE a b) i).map mK) [(D,⟨6,aE,[[c1,c2,dG k ((gH (vE a b) i).map mK),c3,c4,c5]]⟩)]) (λ i=>i<=n) (λ i=>n-i) 0 ?_ (aZ _) ?_;.rw[xV,bQ];refine rR ?_;apply zN;(have uU:=fP a1 a2 a3 a4 a5 a6 e1 e2 (AO e3 e4 e5 s1 s2 s3 s4 s5);exact qT)
 intro i hi;have hfl:=kR (PM a b) i;obtain⟨l,el,hl⟩:∃x,x=((gH (vE a b) i).map mK)/\x.length<=i:=⟨_,rfl,by simp;omega⟩;have es:((gH (vE a b) (i+1)).map mK)=l++(vE a b i).map mK:=by rw[vD,aM,<-el]
 rw[<-el];refine rR ?_;apply zN;refine wl ?_;refine jV ⟨λ ht ht=>zN ?_⟩ ⟨λ ht ht=>zN ?_⟩ ⟨λ ht=>zN ?_⟩
 .refine cl [.gen (.tup []) (k+5) (cL k 2 l [(D,⟨6,aE,[[c1,c2,dG k l,c3,c4,c5]]⟩)]) [(k+4,⟨2,aB,l++[[.lit (.int .i64 (i:Int)),.lit (.int .i64 (b.wt i))]]⟩),(D,⟨6,aE,[[c1,c2,.sl (k+4) 0 (l.length+1),c3,c4,c5]]⟩)]] ?_;refine iE ?_ ?_;.exact bFI (k+2) D k oO oO oO l oO c1 c2 c3 c4 c5 (i:Int) (b.par i) (b.wt i) (e1 _) (e2 _) (e3 _) (e4 _) (e5 _)
  refine wl ?_;refine cA ?_;refine⟨i+1,oO,oO,?_⟩;rw[es,show vE a b i=[_]from by rw[vE,DV,iP (by first|(simp;omega)|(simp[yK]at ht⊢;omega))],bI,bQ];refine rR ?_;apply zN;exact DZ (k+4) k (wV (fP (@a1) (@a2) (@a3) (@a4) (@a5) (@a6) (@e1) (@e2) (AO (@e3) (@e4) (@e5) (@s1) (@s2) (@s3) (@s4) (@s5))))
 .refine⟨i+1,oO,oO,?_⟩;rw[es,show vE a b i=[]from by rw[vE,DV,iN (by first|(simp;omega)|(simp[yK]at ht⊢;omega))],bQ,cZ];refine rR ?_;apply zN;(have uU:=fP a1 a2 a3 a4 a5 a6 e1 e2 (AO e3 e4 e5 s1 s2 s3 s4 s5);exact qT)
 have hin:i=n:=oO;subst hin;refine⟨k+1,[],cL k 2 l [(D,⟨6,aE,[[c1,c2,dG k l,c3,c4,c5]]⟩)],?_,_,rfl,rfl,rfl,by rw[el]⟩;(have uU:=fP a1 a2 a3 a4 a5 a6 e1 e2 (AO e3 e4 e5 s1 s2 s3 s4 s5);exact qT)
theorem a3A(k D:Nat)(hD:D<k)(id:Nat)(hid:id<k)(hne:D≠id)(E:Nat)(hE:E<k)(hDE:D≠E)(hEi:E≠id)(l0:List (Int×Int×Sp))(hl0:l0.length<=10000)(a b:St)(g:Nat)(n:Nat)(hn:n<=1000)(c1 c2 c3 c4 c5:AVal)(e1:∀p,iM p c1=aB)(e2:∀p,iM p c2=aB)(e3:∀p,iM p c3=aB)(e4:∀p,iM p c4=aB)(e5:∀p,iM p c5=aB):
 Tr aD Γ 59 k [.rd 3 n (sf a g),.rd 3 n (sf b g),.fn 60 [.ptr D 0 0,.ptr E 0 0]] (cL id 5 (l0.map pR) [(D,⟨6,aE,[[c1,c2,c3,c4,c5,dG id (l0.map pR)]]⟩),(E,⟨1,aB,[[g]]⟩)]) (λ k1 r1 H1=>k1=k+1/\r1= .tup []/\H1=cL k 5 ((l0++gH (mA a b g) n).map pR) [(D,⟨6,aE,[[c1,c2,c3,c4,c5,dG k ((l0++gH (mA a b g) n).map pR)]]⟩),(E,⟨1,aB,[[g]]⟩)]):=by
 obtain⟨a1,a2,a3,a4,a5,a6⟩:=fK hD;obtain⟨s1,s2,s3,s4,s5⟩:=ID (jW e1) (jW e2) (jW e3) (jW e4) (jW e5);obtain⟨b1,b2,b3,b4,b5,b6⟩:=fK hid;obtain⟨d1,d2⟩:=iR hne;obtain⟨g1,g2,g3,g4,g5,g6⟩:=fK hE;obtain⟨d3,d4⟩:=iR hDE;obtain⟨d5,d6⟩:=iR hEi;refine cN Tryz.func59 rfl 26 rfl bB (pA ?_);refine gL (tX id oO) ?_;have uU:=fP a1 a2 a3 a4 a5 a6 e1 e2 (fP e3 e4 e5 s1 s2 s3 s4 s5 (fP b1 b2 b3 b4 b5 b6 d1 d2 (fP g1 g2 g3 g4 g5 g6 d3 d4 (zA d5 d6))));refine rR ?_;apply zN;have kp:Kp [0,1,2,6,7,8,9,10,11,20] (λ i=>if i=D then 0 else if i=E then 1 else if i=id then 2 else i-k+3):=jZ;refine wl ?_;refine cA ?_;refine bY (X:=Nat) rfl [0,1,2,6,7,8,9,10,11,20] (k+1) (λ i=>[(10,i)]) (λ i=>cL k 5 ((l0++gH (mA a b g) i).map pR) [(D,⟨6,aE,[[c1,c2,c3,c4,c5,dG k ((l0++gH (mA a b g) i).map pR)]]⟩),(E,⟨1,aB,[[g]]⟩)]) (λ i=>i<=n) (λ i=>n-i) 0 ?_ (aZ _) ?_;.rw[xV,cZ];refine rR ?_;apply zN;(have uU:=fP a1 a2 a3 a4 a5 a6 e1 e2 (fP e3 e4 e5 s1 s2 s3 s4 s5 (fP b1 b2 b3 b4 b5 b6 d1 d2 (fP g1 g2 g3 g4 g5 g6 d3 d4 (zA d5 d6))));exact qT)
 intro i hi;have hfl:=kR (aBW a b g) i;obtain⟨l,el,hl⟩:∃x,x=((l0++gH (mA a b g) i).map pR)/\x.length<=10000+i:=⟨_,rfl,by simp;omega⟩;have es:((l0++gH (mA a b g) (i+1)).map pR)=l++(mA a b g i).map pR:=by rw[vD,<-cM,aM,<-el]
 rw[<-el];refine rR ?_;apply zN;refine wl ?_;refine jV ⟨λ ht ht=>zN ?_⟩ ⟨λ ht ht=>zN ?_⟩ ⟨λ ht=>zN ?_⟩
 .refine cl [.gen (.tup []) (k+5) (cL k 5 l [(D,⟨6,aE,[[c1,c2,c3,c4,c5,dG k l]]⟩),(E,⟨1,aB,[[g]]⟩)]) [(k+4,⟨5,aB,l++[[.lit (.int .i64 (g:Int)),.lit (.int .i64 (i:Int)),.lit (.int .u64 (b.sp g i).v),.lit (.int .u32 (b.sp g i).r),.lit (.int .u64 (b.sp g i).floor)]]⟩),(D,⟨6,aE,[[c1,c2,c3,c4,c5,.sl (k+4) 0 (l.length+1)]]⟩),(E,⟨1,aB,[[g]]⟩)]] ?_;refine iE ?_ ?_;.exact bFH (k+2) D E k oO oO oO oO hDE oO l oO c1 c2 c3 c4 c5 (g:Int) (i:Int) (b.sp g i).v (b.sp g i).r (b.sp g i).floor (e1 _) (e2 _) (e3 _) (e4 _) (e5 _)
  refine wl ?_;refine cA ?_;refine⟨i+1,oO,oO,?_⟩;rw[es,show mA a b g i=[_]from by rw[mA,DV,iP (by first|(simp[yK];omega)|(simp[yK]at ht⊢;omega))],bI,bQ];refine rR ?_;apply zN;exact DZ (k+4) k (wV (fP (@a1) (@a2) (@a3) (@a4) (@a5) (@a6) (@e1) (@e2) (fP (@e3) (@e4) (@e5) (@s1) (@s2) (@s3) (@s4) (@s5) (fP (@b1) (@b2) (@b3) (@b4) (@b5) (@b6) (@d1) (@d2) (fP (@g1) (@g2) (@g3) (@g4) (@g5) (@g6) (@d3) (@d4) (zA (@d5) (@d6)))))))
 .refine⟨i+1,oO,oO,?_⟩;rw[es,show mA a b g i=[]from by rw[mA,DV,iN (by first|(simp[yK];omega)|(simp[yK]at ht⊢;omega))],bQ,cZ];refine rR ?_;apply zN;(have uU:=fP a1 a2 a3 a4 a5 a6 e1 e2 (fP e3 e4 e5 s1 s2 s3 s4 s5 (fP b1 b2 b3 b4 b5 b6 d1 d2 (fP g1 g2 g3 g4 g5 g6 d3 d4 (zA d5 d6))));exact qT)
 have hin:i=n:=oO;subst hin;refine⟨k+1,[],cL k 5 l [(D,⟨6,aE,[[c1,c2,c3,c4,c5,dG k l]]⟩),(E,⟨1,aB,[[g]]⟩)],?_,_,rfl,rfl,rfl,by rw[el]⟩;(have uU:=fP a1 a2 a3 a4 a5 a6 e1 e2 (fP e3 e4 e5 s1 s2 s3 s4 s5 (fP b1 b2 b3 b4 b5 b6 d1 d2 (fP g1 g2 g3 g4 g5 g6 d3 d4 (zA d5 d6))));exact qT)
end Go.Proofs.T
end
