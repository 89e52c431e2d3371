import Derived.Test.YteimiejbhhgljaaGreatDoorZAH
import Derived.Laws.Bits64
set_option linter.unusedVariables false
set_option linter.unusedSimpArgs false
set_option maxHeartbeats 0
set_option maxRecDepth 100000
open Bool renaming and_eq_false_iff->iA,and_eq_true->aC,and_false->qP,and_true->qO,eq_iff_iff->aY,false_and->kD,false_eq_true->aO,false_or->FW,not_eq_true'->aT,or_eq_true->bH,true_and->kQ,true_eq_false->bM,true_or->yV
open Int renaming ediv_nonneg->PJ,fdiv_eq_ediv_of_nonneg->dL,le_refl->fA,pow_nonneg->qN
open Go.IntKind renaming i64->aN,u64->bN
open List renaming all_cons->hY,all_eq_true->aW,append_assoc->bL,append_nil->aR,ext_getElem?->kP,getD_eq_getElem?_getD->bD,getElem?_eq_none->cI,getElem?_map->aQ,getElem?_range->aML,getElem?_set->fY,getElem_mem->bKH,length_append->bQ,length_set->PI,map->jL,map_append->aH,map_congr_left->gB,map_cons->bG,map_map->jD,map_nil->aV,mem_map->cL,mem_range->dO,range->aM,range_succ->CI
open Nat renaming add_assoc->fS,add_mul->cX,add_sub_cancel->rN,add_sub_cancel_left->iW,eq_zero_or_pos->jJ,le_refl->aF,lt_trichotomy->mH,mod_eq_of_lt->HR,mul_one->bAM,not_lt_zero->bJ,one_mul->aMJ,sub_self->PG,zero_add->dV,zero_le->aJ
open Option renaming map_eq_none_iff->dG,map_eq_some_iff->aB,map_some->cB
open Go.Proofs.Tryz renaming prog->aA
open Go.Value renaming bool->mG
section
namespace Go.Proofs.T
open Go Go.AM Go.Proofs
variable{Γ:List (Nat×List AVal)}
theorem aYJ{f s n:Nat}{R:Nat->List (List AVal)}{id:Nat}{B:Blk}:(mK f s n R).map (λ x=>(x.1,IX id B x.2))=mK f s n R:=by
 induction n generalizing f R with
 |zero=>rfl
 |succ n ih=>simp only[mK,bG];rw[ih];rfl
theorem aRL{f s n:Nat}{R:Nat->List (List AVal)}{id:Nat}{B:Blk}(h:id<f\/f+n<=id):yK id B (mK f s n R)=mK f s n R:=by unfold yK;rw[ZB h,aYJ]
attribute [go_sem] aRL
theorem aKW{id t s f n:Nat}{l:List (List AVal)}{H:aS}{R:Nat->List (List AVal)}(h:id<f\/f+n<=id):xK (cA id t l H) f s n R=xK H f s n R:=by
 cases l with
 |nil=>rfl
 |cons a r=>exact MT h
attribute [go_sem] aKW
theorem aXB(a b c:Int):Pure aA Γ 78 [.agg [.lit (.int .u64 a),.lit (.int .u64 b),.lit (.int .u64 c)]] (.lit (.int .u64 a)):=by refine aZ Tryz.func78 rfl 5 rfl bB rfl λ k=>?_;have kp:=fI k [0,1,2];refine bS ?_;refine aU (zs ?_);refine aX rfl ⟨_,rfl,aI ?_⟩;rfl
theorem Bor.lit {Hc:aS}{u:Value}:Bor Γ Hc (.lit u) (.lit u):=λ w G ρ H A cv _ _ hv=>by have e:=gV hv;rw[e];exact .lit
theorem wG{Hc:aS}{id n:Nat}{B:Blk}{F:Nat->List AVal}(hB:AM.look Hc id=some B)(hn:n<=B.rows.length)(hF:∀i,i<n->(F i).length=B.sz)
 (h:∀i,i<n->∃row,B.rows[i]? =some row/\∀(j:Nat) v v',row[j]? =some v->(F i)[j]? =some v'->Bor Γ Hc v v'):Bor Γ Hc (.sl id 0 n) (.rd B.sz n F):=
 Bor.sl hB oO hF λ i row j v v' hi hr hv hv'=>by obtain⟨row',h1,h2⟩:=h i hi;rw[dV]at hr;rw[h1]at hr;cases hr;exact h2 j v v' hv hv'
theorem qF{Hc:aS}{row:List AVal}(h:row.all (λ v=>match v with| .lit _=>true|_=>false)=true):∀(j:Nat) v v',row[j]? =some v->row[j]? =some v'->Bor Γ Hc v v':=λ j v v' h1 h2=>by
 rw[h1]at h2;cases h2;have:=gP h h1
 cases v with
 |lit u=>exact Bor.lit
 |_=>cases this
def tfL(L:LSt)(i:Nat):List AVal:=tkc (L.tsk i)
def gfL(L:LSt)(i:Nat):List AVal:=[.lit (.int .i64 (L.par i)),.lit (.int .i64 (L.wt i))]
def kfL(L:LSt)(i:Nat):List AVal:=[.lit (.int .i64 (L.clk i))]
def ufL(L:LSt)(i:Nat):List AVal:=[.lit (.int .i64 (L.cur i))]
def ssL(L:LSt)(g:Nat):List AVal:=[.rd 3 (L.sl.getD g []).length (λ c=>spc (L.sp g c))]
def mcL(L:LSt):List AVal:=[.lit (.int .i64 L.cpus),.lit (.int .u64 L.credit),.rd 2 L.gl.length (gfL L),.rd 1 L.kl.length (kfL L),.rd 1 L.ul.length (ufL L),.rd 8 L.tl.length (tfL L),.rd 1 L.sl.length (ssL L),.lit (.bool true)]
attribute [go_sem] tfL gfL kfL ufL ssL mcL
theorem aTO(L:LSt)(id:Int)(p:Nat)(hp:a1Z L id p)(hso:HQ L)(hnt:L.tl.length<=100000):
 Pure aA Γ 136 [.rd 8 L.tl.length (tfL L),id,.fn 137 []] (.tup [p,(decide (p<L.tl.length/\(L.tsk p).id=id))]):=by
 refine aZ Tryz.func136 rfl 49 rfl bB rfl λ k=>?_;have kp:=fI k [0,1,2,6,7,8,9,10,11,17,31];refine bS ?_;refine aU (zs ?_);refine bE (X:=Nat×Nat) rfl [0,1,2,6,7,8,9,10,11,17,31] k (λ x=>[(9,x.1),(10,x.2)]) (λ x=>[]) (λ x=>x.1<=x.2/\x.2<=L.tl.length/\x.1<=p/\p<=x.2) (λ x=>x.2-x.1) (0,L.tl.length) ?_ ⟨aJ _,aF _,aJ _,hp.1⟩ ?_;.refine cQ ?_;apply zN;exact fH
 rintro⟨i,j⟩ ⟨h1,h2,h3,h4⟩;simp only[]at h1 h2 h3 h4;have e1:bN.wrap ((i:Int)+(j:Int))=(i:Int)+(j:Int):=fF oO oO;have e2:((i:Int)+(j:Int)).fdiv (2^min 1 64)=(((i+j)/2:Nat):Int):=by rw[show(2:Int)^min 1 64=2 from rfl,dL _ oO];omega
 obtain⟨h,eh⟩:∃h,h=(i+j)/2:=⟨_,rfl⟩;rw[<-eh]at e2;have e3:aN.wrap (h:Int)=(h:Int):=wrap_i64 oO oO;refine cQ ?_;apply zN;have uU:=AW @e1 @e2 @e3;refine bS ?_;refine dD ⟨λ ht=>zN ?_⟩ ⟨λ ht=>zN ?_⟩
 .refine lU [.ret (sK (L.tsk h).id id)] ?_;refine dD (zs ?_) (zs ?_);.exact a1O (L.tsk h) id
  refine bS ?_;refine dD ⟨λ ht=>zN ?_⟩ ⟨λ ht=>zN ?_⟩
  .have hc:=cmpZ_neg.1 ht;have:h<p:=Nat.lt_of_not_le λ e=>by have:=hp.2.2 h e oO;omega
   refine⟨(h+1,j),⟨by show h+1<=j;omega,h2,by show h+1<=p;omega,h4⟩,by show j-(h+1)<j-i;omega,?_⟩;refine cQ ?_;apply zN;exact fH
  have hc:¬(L.tsk h).id<id:=λ e=>by have:=cmpZ_neg.2 e;omega
  have:p<=h:=Nat.le_of_not_lt λ e=>hc (hp.2.1 h e);refine⟨(i,h),⟨by show i<=h;omega,by show h<=L.tl.length;omega,h3,this⟩,by show h-i<j-i;omega,?_⟩;refine cQ ?_;apply zN;exact fH
 have hi:i=p:=oO;subst hi;refine lU [.ret (sK (L.tsk i).id id)] ?_;refine wM ⟨⟨λ hg=>⟨?_⟩⟩⟩ ⟨⟨λ hg=>⟨?_⟩⟩⟩ ⟨⟨λ hg=>⟨?_⟩⟩⟩;.exact a1O (L.tsk i) id
 .refine aX rfl ⟨_,rfl,aI ?_⟩
  rw[show(sK (L.tsk i).id id==0)=decide (i<L.tl.length/\(L.tsk i).id=id)by
   rw[aY,beq_iff_eq,dTt,aLI];constructor;.intro h;exact⟨oO,h⟩
   exact λ h=>h.2]
 refine aX rfl ⟨_,rfl,aI ?_⟩;rw[decide_eq_false (by rintro⟨h,_⟩;omega)]
theorem a7N(L:LSt)(id r:Int)(hr:aVA L id r)(hso:HQ L)(hnt:L.tl.length<=100000):
 Pure aA Γ 76 [.rp (mcL L),id] r:=by
 obtain⟨p,hp⟩:=a3F L hso id
 have hrp:r=if p<L.tl.length/\(L.tsk p).id=id then(p:Int)else-1:=by
  rcases hr with⟨rfl,h⟩|⟨i,h1,rfl,h2⟩;.rw[if_neg (λ e=>h p e.1 e.2)]
  have:p=i:=by
   rcases mH p i with hc|hc|hc;.have:=hp.2.2 p (aF _) oO;have:=hso p i hc h1;omega
   .exact hc
   have:=hp.2.1 i hc;omega
  subst this;rw[if_pos ⟨h1,h2⟩]
 refine aZ Tryz.func76 rfl 20 rfl bB rfl λ k=>?_;have kp:=fI k [0,1,4,5,6,18];refine bS ?_;refine aU (zs ?_);refine lU [.ret (.tup [p,(decide (p<L.tl.length/\(L.tsk p).id=id))])] ?_;refine dD (zs ?_) (zs ?_);.exact aTO L id p hp hso hnt
 refine bS ?_;refine dD ⟨λ ht=>zN ?_⟩ ⟨λ ht=>zN ?_⟩;.refine aX rfl ⟨_,rfl,aI ?_⟩;rw[hrp,if_neg oO]
 refine aX rfl ⟨_,rfl,aI ?_⟩;rw[hrp,if_pos oO]
theorem a3W(L:LSt)(n c:Nat)(hS:Shp L n)(hc:c<n):∀(f g:Nat),g<L.sl.length->L.sl.length-g<=f→
 Pure aA Γ 77 [.rp (mcL L),g,c] (resL (pZ L f g c)):=by
 obtain⟨hng,hrw,hnt,hns,htid,hspv⟩:=id hS;intro f
 induction f with
 |zero=>intro g hgS hf;omega
 |succ f ih=>
 intro g hgS hf;obtain⟨RV,eRV⟩:∃x,x=resL (pZ L (f+1) g c):=⟨_,rfl⟩;rw[<-eRV];refine aZ Tryz.func77 rfl 102 rfl bB (by rw[eRV];exact aWN _) λ k=>?_;have kp:=fI k [0,1,2,6,7,8,9,10,12,13,15,22,23,24,25,41,60,74,82];refine bS ?_;refine aU (zs ?_);refine bE (X:=Nat) rfl [0,1,2,6,7,8,9,10,12,13,15,22,23,24,25,41,60,74,82] (k+3) (λ i=>[(24,i)]) (λ i=>[(k+2,smb (lT L g c i)),(k+1,bst (lT L g c i)),(k,ON 0 0 0)]) (λ i=>i<=L.tl.length) (λ i=>L.tl.length-i) 0 ?_ (aJ _) ?_;.rw[show lT L g c 0=none from rfl];have uU:=zA @bst.eq_1 @smb.eq_1;refine cQ ?_;apply zN;exact fH
 intro i hi;refine cQ ?_;apply zN;have e1:i<L.tl.length->bN.wrap (L.tsk i).id=(L.tsk i).id:=λ h=>by have:=htid i h;exact fF oO oO
 refine bS ?_;refine zq5 ⟨λ ht ht=>⟨λ hg hg=>⟨?_⟩⟩⟩ ⟨λ ht ht=>⟨λ hg hg=>⟨?_⟩⟩⟩ ⟨λ ht ht=>⟨λ hg hg=>⟨?_⟩⟩⟩ ⟨λ ht ht=>⟨λ hg=>⟨?_⟩⟩⟩ ⟨λ ht=>zN ?_⟩
 .have e1':=e1 oO;have hx:=htid i oO;have uU:= @e1';refine lU [.gen (.tup []) (k+5) [(k+1,bst (lT L g c i)),(k+2,smb (lT L g c i))] [(k+1,bst (NR (lT L g c i) (tmb (L.tsk i)))),(k+2,smb (NR (lT L g c i) (tmb (L.tsk i))))]] ?_;refine dD (zs ?_) (zs ?_);.exact aQK (k+4) (k+1) (k+2) (lT L g c i) (tmb (L.tsk i)) oO oO oO hx.2.2 (by show(0:Int)<=1;omega)
  have uU:=Go.AM.uU;refine bS ?_;refine aU (zs ?_);refine⟨i+1,oO,oO,?_⟩;rw[aXN (takes_iff.2 ⟨by assumption,by assumption,by assumption⟩)];refine cQ ?_;apply zN;exact fH
 iterate 3
  · refine⟨i+1,oO,oO,?_⟩
    rw[aXO (by rw[takes_iff];rintro⟨a1,a2,a3⟩;first|omega|(simp_all;done))]
    refine cQ ?_;apply zN
    exact fH
 have hi':i=L.tl.length:=oO;subst hi';clear hi e1;refine bE (X:=Nat) rfl [0,1,2,6,7,8,9,10,12,13,15,22,23,24,25,41,60,74,82] (k+3) (λ h=>[(13,h)]) (λ h=>[(k+2,smb (lS L (λ h=>pZ L f h c) g c (h-(g+1)))),(k+1,bst (lS L (λ h=>pZ L f h c) g c (h-(g+1)))),(k,ON 0 0 0)]) (λ h=>g+1<=h/\h<=L.sl.length) (λ h=>L.sl.length-h) (g+1) ?_ ⟨aF _,hgS⟩ ?_;.rw[PG,lS];refine cQ ?_;apply zN;exact fH
 rintro h ⟨h1,h2⟩;obtain⟨o,eo⟩:∃o,o=lS L (λ h=>pZ L f h c) g c (h-(g+1)):=⟨_,rfl⟩;rw[<-eo];refine cQ ?_;apply zN;refine bS ?_;refine wM ⟨λ ht ht=>zN ?_⟩ ⟨λ ht ht=>zN ?_⟩ ⟨λ ht=>zN ?_⟩;.refine⟨h+1,⟨oO,oO⟩,oO,?_⟩;rw[aGJ h1 (by rintro⟨a1,_⟩;omega),<-eo];refine cQ ?_;apply zN;exact fH
 .have hr:=hrw h oO;have e2:bN.wrap (h:Int)=(h:Int):=fF oO oO;obtain⟨q,eq⟩:∃q,q=pZ L f h c:=⟨_,rfl⟩;obtain⟨q0,q1,q2,hq⟩:∃q0 q1 q2,mbc q=[.lit (.int .u64 q0),.lit (.int .u64 q1),.lit (.int .u64 q2)]:=⟨_,_,_,aFZ q⟩;have uU:=zA @resL.eq_1 @hq;refine lU [.ret (resL q)] ?_;refine dD (zs ?_) (zs ?_);.have:=ih h oO oO;rw[<-eq]at this;unfold resL at this;rw[hq]at this;exact this
  have uU:=zA @e2 @hr;refine bS ?_;refine dD ⟨λ ht=>zN ?_⟩ ⟨λ ht=>zN ?_⟩
  .refine lU [.gen (.tup []) (k+5) [(k+1,bst o),(k+2,smb o)] [(k+1,bst (NR o ⟨(L.sp h c).v,1,(h:Int)⟩)),(k+2,smb (NR o ⟨(L.sp h c).v,1,(h:Int)⟩))]] ?_;refine dD (zs ?_) (zs ?_);.exact aQK (k+4) (k+1) (k+2) o ⟨(L.sp h c).v,1,(h:Int)⟩ oO oO oO (hspv h c oO hc) (fA _)
   have uU:=Go.AM.uU;refine bS ?_;refine aU (zs ?_);refine⟨h+1,⟨oO,oO⟩,oO,?_⟩;rw[aXP h1 oO (by rw[<-eq];assumption),<-eo];refine cQ ?_;apply zN;exact fH
  refine⟨h+1,⟨oO,oO⟩,oO,?_⟩;rw[aGJ h1 (by rw[<-eq];rintro⟨_,a1⟩;simp_all),<-eo];have uU:=Go.AM.uU;refine cQ ?_;apply zN;exact fH
 have hh:h=L.sl.length:=oO;have eo':o=pZ L (f+1) g c:=by rw[eo,hh];rfl
 rw[<-eo']at eRV;clear eo eo';obtain⟨q0,q1,q2,hq,hq'⟩:∃q0 q1 q2,bst o=ON q0 q1 q2/\mbc o=[.lit (.int .u64 q0),.lit (.int .u64 q1),.lit (.int .u64 q2)]:=⟨_,_,_,aZR o,aFZ o⟩;rw[hq];have uU:= @smb.eq_1;refine mN [] ?_;refine aU (zs ?_);have uU:= @smb.eq_1;refine IZ (zN ?_);exact aI (by rw[eRV,resL,hq'])
structure Opn where
 kind:Int
 cpu:Int
 task:Int
 group:Int
 weight:Int
 to:Int
 ticks:Int
 mask:Int
def opc(o:Opn):List AVal:=[.lit (.int .u8 o.kind),.lit (.int .i64 o.cpu),.lit (.int .i64 o.task),.lit (.int .i64 o.group),.lit (.int .i64 o.weight),.lit (.int .i64 o.to),.lit (.int .i64 o.ticks),.lit (.int .u64 o.mask)]
attribute [go_sem] opc
def bBR(a e:Int):AVal:= .tup [.lit (.int .i64 a),.lit (.int .i64 e)]
structure Fwd (L L':LSt):Prop where
 cpus:L'.cpus=L.cpus
 credit:L'.credit=L.credit
 ns:L'.sl.length=L.sl.length
 par:∀g,L'.par g=L.par g
 clk:∀c,L.clk c<=L'.clk c
 fl:∀g c,(L.sp g c).floor<=(L'.sp g c).floor
 nt:L'.tl.length<=L.tl.length+1
 w0:L'.wt 0=L.wt 0
def OpOk(Γ:List (Nat×List AVal))(f:FuncId)(L:LSt)(n:Nat)(o:Opn)(m tk k:Nat):Prop:=
 ∃ L' a e tk' k',Rt0 L' n/\(Fwd L L'/\(e=0\/L'=L))/\m+6+L.sl.length<=tk'/\(tk'<k'/\(tk'=tk\/k<=tk'))/\k<=k'∧
   Tr aA Γ f k [.ptr m 0 0,.agg (opc o)] (MH m tk L) (λ k1 r1 H1=>k1=k'/\r1=bBR a e/\H1=MH m tk' L')
def Tk.run (t:Tk)(v r w:Int):Tk:={t with v:=v,r:=r,weight:=w}
theorem a0I{x:Int}(h1:0<=x)(h2:x<18446744073709551616):bN.wrap ((BitVec.ofInt bN.bits x&&&BitVec.ofInt bN.bits 1).toNat:Int)=x%2:=by
 obtain⟨n,rfl⟩:∃n:Nat,x=(n:Int):=⟨x.toNat,oO⟩
 have e1:(BitVec.ofInt bN.bits (n:Int)&&&BitVec.ofInt bN.bits 1).toNat=n%2:=by
  rw[BitVec.toNat_and];have a:(BitVec.ofInt bN.bits (n:Int)).toNat=n:=by show(BitVec.ofInt 64 (n:Int)).toNat=n;rw[BitVec.ofInt_natCast,BitVec.toNat_ofNat];exact HR oO
  have b:(BitVec.ofInt bN.bits 1).toNat=1:=by decide
  rw[a,b,Nat.and_one_is_mod]
 rw[e1];exact fF oO oO
theorem aPT{x:Int}{c:Int}(h1:0<=x)(h2:x<18446744073709551616)(h3:0<=c)(h4:c<64):bN.wrap ((BitVec.ofInt bN.bits (x.fdiv (2^min c.toNat 64))&&&BitVec.ofInt bN.bits 1).toNat:Int)=x/2^c.toNat%2:=by rw[(oO:min c.toNat 64=c.toNat),dL _ (qN oO)];have h5:0<=x/2^c.toNat:=PJ h1 (qN oO);have h6:x/2^c.toNat<=x:=Int.ediv_le_self _ h1;exact a0I h5 oO
theorem pM{α:Type}(l:List α)(f:α->List AVal)(h:∀x,(f x).all AM.one=true):((l.map f).all λ row=>row.all AM.one)=true:=by rw[aW];intro row hr;simp only[cL]at hr;obtain⟨t,_,rfl⟩:=hr;exact h t
theorem aJR(n:Nat)(f:Nat->List AVal)(k:Nat)(hn0:0<n)(hn2:n<=100000)(hone:(((aM n).map f).all λ row=>row.all AM.one)=true):
 Tr aA Γ 121 k [.rd 1 n f] [] (λ k1 r1 H1=>k1=k+2/\r1= .sl (k+1) 0 n/\H1=[(k+1,⟨1,true,(aM n).map f⟩)]):=by
 obtain⟨R,eR⟩:∃R,R=(aM n).map f:=⟨_,rfl⟩;have hl:R.length=n:=by rw[eR];simp
 obtain⟨RH,eRH⟩:∃x:aS,x=[(k+1,⟨1,true,R⟩)]:=⟨_,rfl⟩;rw[<-eR]at hone⊢
 refine Tr.mono (AU (kk:=k+2) (V:= .sl (k+1) 0 n) (RH:=RH) oO (by simp[bd,JX,iC,kW]) (by rw[eRH];exact tK (by simp only[kW,dTt];omega) rfl) ?_) (λ _ _ _ h=>⟨h.1,h.2.1,h.2.2.trans eRH⟩);have hne:¬n=0:=oO;have eR2:=eR.symm;refine iD Tryz.func121 rfl 8 rfl bB ?_;have kp:=fI k [0,2,4];have uU:=DP @hone @hne @hn0 @eR2;refine IS ?_;refine aU ⟨λ ht=>zN ?_⟩;have uU:=DP @hone @hne @hn0 @eR2;refine IZ (zN ?_);refine⟨rfl,?_⟩;rw[eRH];exact OE iH
theorem a3J(n:Nat)(f:Nat->List AVal)(k:Nat)(hn0:0<n)(hn2:n<=100000)(hone:(((aM n).map f).all λ row=>row.all AM.one)=true):
 Tr aA Γ 120 k [.rd 2 n f] [] (λ k1 r1 H1=>k1=k+2/\r1= .sl (k+1) 0 n/\H1=[(k+1,⟨2,true,(aM n).map f⟩)]):=by
 obtain⟨R,eR⟩:∃R,R=(aM n).map f:=⟨_,rfl⟩;have hl:R.length=n:=by rw[eR];simp
 obtain⟨RH,eRH⟩:∃x:aS,x=[(k+1,⟨2,true,R⟩)]:=⟨_,rfl⟩;rw[<-eR]at hone⊢
 refine Tr.mono (AU (kk:=k+2) (V:= .sl (k+1) 0 n) (RH:=RH) oO (by simp[bd,JX,iC,kW]) (by rw[eRH];exact tK (by simp only[kW,dTt];omega) rfl) ?_) (λ _ _ _ h=>⟨h.1,h.2.1,h.2.2.trans eRH⟩);have hne:¬n=0:=oO;have eR2:=eR.symm;refine iD Tryz.func120 rfl 8 rfl bB ?_;have kp:=fI k [0,2,4];have uU:=DP @hone @hne @hn0 @eR2;refine IS ?_;refine aU ⟨λ ht=>zN ?_⟩;have uU:=DP @hone @hne @hn0 @eR2;refine IZ (zN ?_);refine⟨rfl,?_⟩;rw[eRH];exact OE iH
theorem a3H(n:Nat)(f:Nat->List AVal)(k:Nat)(hn0:0<n)(hn2:n<=100000)(hone:(((aM n).map f).all λ row=>row.all AM.one)=true):
 Tr aA Γ 124 k [.rd 3 n f] [] (λ k1 r1 H1=>k1=k+2/\r1= .sl (k+1) 0 n/\H1=[(k+1,⟨3,true,(aM n).map f⟩)]):=by
 obtain⟨R,eR⟩:∃R,R=(aM n).map f:=⟨_,rfl⟩;have hl:R.length=n:=by rw[eR];simp
 obtain⟨RH,eRH⟩:∃x:aS,x=[(k+1,⟨3,true,R⟩)]:=⟨_,rfl⟩;rw[<-eR]at hone⊢
 refine Tr.mono (AU (kk:=k+2) (V:= .sl (k+1) 0 n) (RH:=RH) oO (by simp[bd,JX,iC,kW]) (by rw[eRH];exact tK (by simp only[kW,dTt];omega) rfl) ?_) (λ _ _ _ h=>⟨h.1,h.2.1,h.2.2.trans eRH⟩);have hne:¬n=0:=oO;have eR2:=eR.symm;refine iD Tryz.func124 rfl 8 rfl bB ?_;have kp:=fI k [0,2,4];have uU:=DP @hone @hne @hn0 @eR2;refine IS ?_;refine aU ⟨λ ht=>zN ?_⟩;have uU:=DP @hone @hne @hn0 @eR2;refine IZ (zN ?_);refine⟨rfl,?_⟩;rw[eRH];exact OE iH
def zJ(b ns n:Nat)(i:Nat):List (List AVal):=(aM ns).map λ j=>if j<i then [.sl (b+j) 0 n]else [.lit (.slice none 0 0)]
theorem xM(b ns n:Nat):zJ b ns n ns=(aM ns).map λ j=>[.sl (b+j) 0 n]:=gB λ j hj=>if_pos (dO.1 hj)
theorem aCT{H:aS}{f s n:Nat}{R:Nat->List (List AVal)}:xK H f s (n+1) R↔xK H f s n R/\AM.look H (f+n)=some ⟨s,true,R n⟩:=by
 constructor;.exact λ h=>⟨λ g hg=>h g oO,h n oO⟩
 rintro⟨h1,h2⟩ g hg;by_cases e:g=n;.subst e;exact h2
 exact h1 g oO
theorem FP {kb k k2:Nat}{fr:Fr}{H:aS}(h:k<=k2):Mv kb k fr H k2 fr H:=λ hk=>⟨oO,λ Γ nt A0 w G ρ a hA hi=>by
 have hal:∀i,jA A0 kb k i->jA A0 kb k2 i:=λ i h'=>h'.imp id λ h''=>⟨h''.1,oO⟩;refine⟨G,ρ,⟨hi.rel.allow (bK H (jA A0 kb k2)) (λ id hn=>?_) (λ id B A' hs=>?_),hi.size,hi.defers,λ t v hv=>(hi.frm t v hv).mono (λ _ h=>h) (λ _ _=>rfl) (λ _ _=>rfl) hal (λ _ _=> .inr rfl)⟩,jT _ _ _ _⟩;.simp only[bK,dG]at hn⊢;exact hn
 simp only[bK,aB]at hs;obtain⟨B1,h1,h2⟩:=hs;cases h2;exact⟨jA A0 kb k,by simp[bK,h1],hal⟩⟩
theorem MS{H:aS}{f s:Nat}{R:Nat->List (List AVal)}:xK H f s 0 R=True:=eq_true λ g hg=>absurd hg (bJ _)
attribute [go_sem] MS
theorem pP{H:aS}{f s n:Nat}{R:Nat->List (List AVal)}:xK H f s (n+1) R=(xK H f s n R/\AM.look H (f+n)=some ⟨s,true,R n⟩):=propext aCT
theorem EZ{b ns n i kk:Nat}(h:b+ns<=kk):((zJ b ns n i).all λ row=>row.all (iC (kW kk)))=true:=by
 rw[aW];intro row hr;simp only[zJ,cL,dO]at hr;obtain⟨g,hg,rfl⟩:=hr;split;.simp[iC,kW];omega
 rfl
attribute [go_sem] EZ pP
end Go.Proofs.T
end
section
namespace Go.AM
open Go
section
variable{P:Program}{Γ:List (Nat×List AVal)}{o:Oper}{ev:Operand->Option AVal}{get:Nat->Option Blk}{k:Nat}
theorem aBP{x y:Operand}{t ty:Nat}{p:Addr}{m c m' c':Nat}(ho:o.op= .binOp .eql t x y ty)(ht:yE P t=some 1)(hx:ev x=some (.lit (.slice (some p) m c)))(hy:ev y=some (.lit (.slice none m' c'))):Good P Γ o ev get k ⟨.lit (.bool false),k,[],[]⟩:=by
 refine⟨cE λ w G ρ H A a hr hrd hop=>⟨.bool false,?_,.lit⟩,λ id hid=>by simp at hid,aF _⟩;have ex:=gV (hop x (by simp[ho,Op.operands]) _ hx);have ey:=gV (hop y (by simp[ho,Op.operands]) _ hy)
 obtain⟨e,he⟩:∃e,P.underlying t=some (.slice e):=by
  unfold yE at ht;split at ht;.cases ht
  .rename_i e he;exact⟨e,he⟩
  .cases ht
  .cases ht
  cases ht
 obtain⟨h1,_,h3,_⟩:=EE he p m c m' c' w;simp[execOp,ho,ex,ey,h1,h3]
theorem kO {a:Option Addr}{cap s:Nat}{f:Nat->List AVal}:VLe (.lit (.slice a 0 cap)) (.rd s 0 f):=λ w G ρ A cv hv=>by cases hv;exact .rd0
theorem a0S {kb:Nat}{fr:Fr}{H:aS}(t s:Nat)(f:Nat->List AVal){a:Option Addr}{cap:Nat}(hf:look fr t=some (.lit (.slice a 0 cap))):Mv kb k fr H k ((t,.rd s 0 f)::del fr t) H:=a2A λ t' v hv=>by
 simp only[look]at hv;split at hv;.rename_i e;subst e;cases hv;exact⟨_,hf,kO⟩
 rw[gI]at hv;split at hv;.cases hv
 exact⟨v,hv,aK _⟩
end
theorem a0Q{P:Program}{Γ:List (Nat×List AVal)}{fn:FuncId}{k s:Nat}{g:Nat->List AVal}{cells:List AVal}{H:aS}{Q:Nat->AVal->aS->Prop}(j:Nat)(hj:cells[j]? =some (.rd s 0 g))(h:∀a cap,Tr P Γ fn k [.agg (cells.set j (.lit (.slice a 0 cap)))] H Q):Tr P Γ fn k [.agg cells] H Q:=λ A hA w G ρ cargs hrel hvs=>by
 have hv:=hvs.2 0 _ rfl
 obtain⟨cs,hev⟩:∃cs,cargs.getD 0 undef= .agg cs:=by
  generalize cargs.getD 0 undef=cv at hv
  cases hv with
  |agg h1 h2=>exact⟨_,rfl⟩
 rw[hev]at hv
 cases hv with
 |agg h1 h2=>
  have hc:=h2 j _ hj
  obtain⟨x,cap,hx⟩:∃x cap,cs.getD j undef= .slice x 0 cap:=by
   generalize cs.getD j undef=cv at hc
   cases hc with
   |rd0=>exact⟨_,_,rfl⟩
   |rd=>exact⟨_,_,rfl⟩
  refine h x cap A hA w G ρ cargs hrel ⟨hvs.1,λ i v hi=>?_⟩
  cases i with
  |succ i=>simp at hi
  |zero=>
   cases hi;rw[hev];refine .agg (by rw[PI];exact h1) λ i v hi'=>?_;rw[fY]at hi';split at hi'
   .rename_i e;subst e;split at hi';.cases hi';rw[hx];exact .lit
    cases hi'
   exact h2 i v hi'
end Go.AM
end
section
namespace Go.Proofs.T
open Go Go.AM Go.Proofs
variable{Γ:List (Nat×List AVal)}
theorem bBS(n:Nat)(f:Nat->List AVal)(k:Nat)(hn0:0<n)(hn2:n<=100000)(hone:(((aM n).map f).all λ row=>row.all one)=true):
 Tr aA Γ 122 k [.rd 8 n f] [] (λ k1 r1 H1=>k1=k+2/\r1= .sl (k+1) 0 n/\H1=[(k+1,⟨8,true,(aM n).map f⟩)]):=by
 obtain⟨R,eR⟩:∃R,R=(aM n).map f:=⟨_,rfl⟩;have hl:R.length=n:=by rw[eR];simp
 obtain⟨RH,eRH⟩:∃x:aS,x=[(k+1,⟨8,true,R⟩)]:=⟨_,rfl⟩;rw[<-eR]at hone⊢
 refine Tr.mono (AU (kk:=k+2) (V:= .sl (k+1) 0 n) (RH:=RH) oO (by simp[bd,JX,iC,kW]) (by rw[eRH];exact tK (by simp only[kW,dTt];omega) rfl) ?_) (λ _ _ _ h=>⟨h.1,h.2.1,h.2.2.trans eRH⟩);have hne:¬n=0:=oO;have eR2:=eR.symm;refine iD Tryz.func122 rfl 8 rfl bB ?_;have kp:=fI k [0,2,4];have uU:=DP @hone @hne @hn0 @eR2;refine IS ?_;refine aU ⟨λ ht=>zN ?_⟩;have uU:=DP @hone @hne @hn0 @eR2;refine IZ (zN ?_);refine⟨rfl,?_⟩;rw[eRH];exact OE iH
theorem a3I(n:Nat)(f:Nat->List AVal)(k:Nat)(hn0:0<n)(hn2:n<=100000)(hone:(((aM n).map f).all λ row=>row.all one)=true):
 Tr aA Γ 123 k [.rd 1 n f] [] (λ k1 r1 H1=>k1=k+2/\r1= .sl (k+1) 0 n/\H1=[(k+1,⟨1,true,(aM n).map f⟩)]):=by
 obtain⟨R,eR⟩:∃R,R=(aM n).map f:=⟨_,rfl⟩;have hl:R.length=n:=by rw[eR];simp
 obtain⟨RH,eRH⟩:∃x:aS,x=[(k+1,⟨1,true,R⟩)]:=⟨_,rfl⟩;rw[<-eR]at hone⊢
 refine Tr.mono (AU (kk:=k+2) (V:= .sl (k+1) 0 n) (RH:=RH) oO (by simp[bd,JX,iC,kW]) (by rw[eRH];exact tK (by simp only[kW,dTt];omega) rfl) ?_) (λ _ _ _ h=>⟨h.1,h.2.1,h.2.2.trans eRH⟩);have hne:¬n=0:=oO;have eR2:=eR.symm;refine iD Tryz.func123 rfl 8 rfl bB ?_;have kp:=fI k [0,2,4];have uU:=DP @hone @hne @hn0 @eR2;refine IS ?_;refine aU ⟨λ ht=>zN ?_⟩;have uU:=DP @hone @hne @hn0 @eR2;refine IZ (zN ?_);refine⟨rfl,?_⟩;rw[eRH];exact OE iH
theorem a6U(cap:Nat):AM.Pure aA Γ 122 [.lit (.slice none 0 cap)] ():=by refine aZ Tryz.func122 rfl 8 rfl bB rfl λ k=>?_;have kp:=fI k [0,2,4];refine IS ?_;refine aU ⟨λ ht=>zN ?_⟩;refine aX rfl ⟨_,rfl,aI ?_⟩;rfl
theorem a6V(p:Addr)(cap k:Nat):
 Tr aA Γ 122 k [.lit (.slice (some p) 0 cap)] [] (λ k1 r1 H1=>k1=k+1/\r1= .sl k 0 0/\H1=[(k,⟨8,true,[]⟩)]):=by
 obtain⟨RH,eRH⟩:∃x:aS,x=[(k,⟨8,true,[]⟩)]:=⟨_,rfl⟩;refine Tr.mono (AU (kk:=k+1) (V:= .sl k 0 0) (RH:=RH) oO (by simp[bd,JX,iC,kW]) (by rw[eRH];exact tK (by simp only[kW,dTt];omega) rfl) ?_) (λ _ _ _ h=>⟨h.1,h.2.1,h.2.2.trans eRH⟩);refine iD Tryz.func122 rfl 8 rfl bB ?_;have kp:=fI k [0,2,4];refine IS ?_;refine aU (zs ?_);refine clL [.raw (some 4) ⟨.lit (.bool false),k,[],[]⟩] ?_;refine dD (zs ?_) (zs ?_);.exact aBP rfl (by kernel_rfl) rfl rfl
 refine IS ?_;refine aU ⟨λ ht=>zN ?_⟩;refine dI (a0S 0 8 (λ _=>[]) (by simp-dsimp-implicitDefEqProofs (disch:=omega)only[go_sem,iN,eq_self,↓reduceIte];rfl)) ?_;refine OE ?_;apply zN;refine IS ?_;refine aU (zs ?_);refine IZ (zN ?_);refine⟨rfl,?_⟩;rw[eRH];exact OE iH
attribute [local irreducible] gK del
def VX(b ns n:Nat)(sF:Nat->Nat->List AVal)(i:Nat):List (List AVal):=(aM ns).map λ j=>if j<i then [.sl (b+j) 0 n]else [.rd 3 n (sF j)]
section
variable{b ns n i:Nat}{sF:Nat->Nat->List AVal}
theorem JU:(VX b ns n sF i).length=ns:=by simp[VX]
theorem NB:VX b ns n sF 0=(aM ns).map λ j=>[.rd 3 n (sF j)]:=gB λ j hj=>if_neg oO
theorem US(h:i<ns):(VX b ns n sF i)[i]? =some [.rd 3 n (sF i)]:=by simp[VX,h]
theorem NC:VX b ns n sF ns=zJ b ns n ns:=gB λ j hj=>by rw[if_pos (dO.1 hj),if_pos (dO.1 hj)]
theorem aDO{x:Nat}(h:b+ns<=x)(hi:i<ns):((VX b ns n sF i).set i [.sl x 0 n]).map (λ row=>row.map (CO x (b+i)))=VX b ns n sF (i+1):=kP λ j=>by
 rw[aQ,fY];by_cases e:i=j;.subst e;rw[if_pos rfl,if_pos (by rw[JU];exact hi)];simp only[VX,aQ,aML hi,cB,bG,aV,CO,sw];rw[if_pos trivial,if_pos oO]
 rw[if_neg e];by_cases hj:j<ns
 .simp only[VX,aQ,aML hj,cB];by_cases h1:j<i;.rw[if_pos h1,if_pos oO];simp only[bG,aV,CO,sw];rw[if_neg oO,if_neg oO]
  rw[if_neg h1,if_neg oO];rfl
 rw[cI (by rw[JU];omega),cI (by rw[JU];omega)];rfl
theorem aZH{kk:Nat}(h:b+ns<=kk):((VX b ns n sF i).all λ row=>row.all (iC (kW kk)))=true:=by
 rw[aW];intro row hr;simp only[VX,cL,dO]at hr;obtain⟨g,hg,rfl⟩:=hr;split;.simp[iC,kW];omega
 rfl
end
attribute [go_sem] JU aZH
theorem aSX(cpus credit:Int)(ng n ns:Nat)(gF kF uF:Nat->List AVal)(sF:Nat->Nat->List AVal)(nt:Nat)(tF:Nat->List AVal)(h7:0<nt)(h8:nt<=1000)(htone:(((aM nt).map tF).all λ row=>row.all one)=true)(hgone:(((aM ng).map gF).all λ row=>row.all one)=true)(hkone:(((aM n).map kF).all λ row=>row.all one)=true)(huone:(((aM n).map uF).all λ row=>row.all one)=true)(hsone:∀g,(((aM n).map (sF g)).all λ row=>row.all one)=true)
 (h1:0<ng) (h2:ng<=1000) (h3:0<n) (h4:n<=1000) (h5:0<ns) (h6:ns<=1000) (k:Nat):
 Tr aA Γ 61 k [.agg [cpus,.lit (.int .u64 credit),.rd 2 ng gF,.rd 1 n kF,.rd 1 n uF,.rd 8 nt tF,.rd 1 ns (λ g=>[.rd 3 n (sF g)])]] []
   (λ k1 r1 H1=>k1=k+(20+ns)/\r1= .agg [cpus,.lit (.int .u64 credit),.sl (k+13) 0 ng,.sl (k+14) 0 n,.sl (k+15) 0 n,.sl (k+16) 0 nt,.sl (k+17) 0 ns]∧
     H1=(k+13,⟨2,true,(aM ng).map gF⟩)::(k+14,⟨1,true,(aM n).map kF⟩)::(k+15,⟨1,true,(aM n).map uF⟩)::(k+16,⟨8,true,(aM nt).map tF⟩)::(k+17,⟨1,false,zJ (k+18) ns n ns⟩)::mK (k+18) 3 ns (λ g=>(aM n).map (sF g))):=by
 obtain⟨kx,hkx⟩:∃x,x=k+(20+ns):=⟨_,rfl⟩;rw[<-hkx];have cG:=a3J ng gF (k+2) h1 oO hgone (Γ:=Γ);have cK:=aJR n kF (k+4) h3 oO hkone (Γ:=Γ);have cU:=aJR n uF (k+6) h3 oO huone (Γ:=Γ);have cT:=bBS nt tF (k+8) h7 oO htone (Γ:=Γ);obtain⟨oF,eoF⟩:∃o:Nat->List AVal,o=λ g=>[.rd 3 n (sF g)]:=⟨_,rfl⟩;have hoone:(((aM ns).map oF).all λ row=>row.all one)=true:=by rw[eoF];exact pM _ _ λ _=>rfl
 have cO:=a3I ns oF (k+10) h5 oO hoone (Γ:=Γ);obtain⟨GR,eG⟩:∃GR,GR=(aM ng).map gF:=⟨_,rfl⟩;obtain⟨KR,eK⟩:∃KR,KR=(aM n).map kF:=⟨_,rfl⟩;obtain⟨UR,eU⟩:∃UR,UR=(aM n).map uF:=⟨_,rfl⟩;obtain⟨TR,eT⟩:∃TR,TR=(aM nt).map tF:=⟨_,rfl⟩;obtain⟨OR,eO⟩:∃OR,OR=(aM ns).map oF:=⟨_,rfl⟩;have hO0:OR=VX (k+18) ns n sF 0:=by rw[eO,eoF,NB]
 obtain⟨SR,eS⟩:∃SR:Nat->List (List AVal),SR=λ g=>(aM n).map (sF g):=⟨_,rfl⟩;rw[<-eG]at cG⊢
 rw[<-eK]at cK;rw[<-eU]at cU;rw[<-eK,<-eU,<-eS];rw[<-eT]at cT⊢
 rw[<-eO]at cO;rw[<-eoF];obtain⟨RH,eRH⟩:∃x:aS,x=(k+13,⟨2,true,GR⟩)::(k+14,⟨1,true,KR⟩)::(k+15,⟨1,true,UR⟩)::(k+16,⟨8,true,TR⟩)::(k+17,⟨1,false,zJ (k+18) ns n ns⟩)::mK (k+18) 3 ns SR:=⟨_,rfl⟩;obtain⟨RV,eRV⟩:∃x:AVal,x= .agg [.lit (.int .i64 cpus),.lit (.int .u64 credit),.sl (k+13) 0 ng,.sl (k+14) 0 n,.sl (k+15) 0 n,.sl (k+16) 0 nt,.sl (k+17) 0 ns]:=⟨_,rfl⟩;refine Tr.mono (AU (kk:=kx) (V:=RV) (RH:=RH) oO ?_ ?_ ?_) (λ _ _ _ h=>⟨h.1,h.2.1.trans eRV,h.2.2.trans eRH⟩);.rw[eRV];simp-dsimp-implicitDefEqProofs (disch:=omega)only[go_sem,iN,nq5,ltB_iff,aH,eq_self,↓reduceIte];try(simp only[aC,dTt];omega)
 .have hf:=FD (s:=3) (R:=SR) (oO:k+18+ns<=kx);have ho:((zJ (k+18) ns n ns).all λ row=>row.all (iC (kW kx)))=true:=EZ oO;rw[eRH];simp only[rG]at hf;simp only[rG,hY,hf,ho,kW,yV,FW,qO,aC,dTt];repeat'(first|(refine And.intro ?_ ?_)|omega|trivial)
 refine iD Tryz.func61 rfl 44 rfl bB ?_;have kp:=fI k [0,1,2,3,28,29,30];refine IS ?_;refine aU (zs ?_);refine dlL [.gen (.sl (k+3) 0 ng) (k+4) [] [(k+3,⟨2,true,GR⟩)],.gen (.sl (k+5) 0 n) (k+6) [] [(k+5,⟨1,true,KR⟩)],.gen (.sl (k+7) 0 n) (k+8) [] [(k+7,⟨1,true,UR⟩)],.gen (.sl (k+9) 0 nt) (k+10) [] [(k+9,⟨8,true,TR⟩)],.gen (.sl (k+11) 0 ns) (k+12) [] [(k+11,⟨1,true,OR⟩)]] ?_;refine aU (zs ?_);refine IS ?_;refine aU (zs ?_);refine bE (X:=Nat) rfl [0,1,2,3,28,29,30] kx (λ i=>[(29,i)]) (λ i=>(k,⟨7,false,[[cpus,.lit (.int .u64 credit),.sl (k+13) 0 ng,.sl (k+14) 0 n,.sl (k+15) 0 n,.sl (k+16) 0 nt,.sl (k+17) 0 ns]]⟩)::(k+1,⟨7,true,[[(0:Int),.lit (.int .u64 0),(),(),(),(),()]]⟩)::(k+13,⟨2,true,GR⟩)::(k+14,⟨1,true,KR⟩)::(k+15,⟨1,true,UR⟩)::(k+16,⟨8,true,TR⟩)::(k+17,⟨1,decide (i=0),VX (k+18) ns n sF i⟩)::mK (k+18) 3 i SR) (λ i=>i<=ns) (λ i=>ns-i) 0 ?_ (aJ _) ?_;.rw[<-hO0];refine Mv.trans (FP (k2:=kx) oO) ?_;refine Mv.trans (iT (k+3) (k+13) ⟨oO,oO⟩ ⟨oO,oO⟩) ?_;refine Mv.trans (iT (k+5) (k+14) ⟨oO,oO⟩ ⟨oO,oO⟩) ?_;refine Mv.trans (iT (k+7) (k+15) ⟨oO,oO⟩ ⟨oO,oO⟩) ?_;refine Mv.trans (iT (k+9) (k+16) ⟨oO,oO⟩ ⟨oO,oO⟩) ?_;refine Mv.trans (iT (k+11) (k+17) ⟨oO,oO⟩ ⟨oO,oO⟩) ?_;refine OE ?_;apply zN;exact fH
 clear hO0;intro i hi;refine OE ?_;apply zN;by_cases hi2:i<ns;.have cS:=a3H n (sF i) kx h3 oO (hsone i) (Γ:=Γ);rw[show(aM n).map (sF i)=SR i by rw[eS]]at cS;have hcg:=US (b:=k+18) (ns:=ns) (n:=n) (i:=i) (sF:=sF) hi2;have kp:Kp [0,1,2,3,28,29,30] (λ i=>if k+18<=i then i-kx+19 else i-k):=vD;have uU:= @hcg;refine IS ?_;refine aU ⟨λ ht=>zN ?_⟩;refine dlL [.gen (.sl (kx+1) 0 n) (kx+2) [] [(kx+1,⟨3,true,SR i⟩)]] ?_;refine aU (zs ?_);refine IS ?_;refine aU (zs ?_);refine⟨i+1,oO,oO,?_⟩;have hsw:=aDO (b:=k+18) (ns:=ns) (n:=n) (i:=i) (sF:=sF) (x:=kx+1) oO hi2;rw[fS k 18 i]at hsw;refine Mv.trans (iT (kx+1) (k+(18+i)) ⟨oO,oO⟩ ⟨oO,oO⟩) ?_;have uU:=zA @hsw @pP;refine OE ?_;apply zN;exact fH
 have hil:i=ns:=oO;have hla:=NC (b:=k+18) (ns:=ns) (n:=n) (sF:=sF);subst hil;rw[hla];have hdi:decide (i=0)=false:=decide_eq_false oO;rw[hdi];have kp:Kp [0,1,2,3,28,29,30] (λ i=>if k+18<=i then i-kx+19 else i-k):=vD;refine IS ?_;refine aU ⟨λ ht=>zN ?_⟩;have uU:=Go.AM.uU;refine IZ (zN ?_);refine⟨?_,?_⟩;.rw[eRV]
 rw[eRH];exact OE iH
theorem aSY(cpus credit:Int)(ng n ns:Nat)(gF kF uF:Nat->List AVal)(sF:Nat->Nat->List AVal)(cap:Nat)(hgone:(((aM ng).map gF).all λ row=>row.all one)=true)(hkone:(((aM n).map kF).all λ row=>row.all one)=true)(huone:(((aM n).map uF).all λ row=>row.all one)=true)(hsone:∀g,(((aM n).map (sF g)).all λ row=>row.all one)=true)
 (h1:0<ng) (h2:ng<=1000) (h3:0<n) (h4:n<=1000) (h5:0<ns) (h6:ns<=1000) (k:Nat):
 Tr aA Γ 61 k [.agg [cpus,.lit (.int .u64 credit),.rd 2 ng gF,.rd 1 n kF,.rd 1 n uF,.lit (.slice none 0 cap),.rd 1 ns (λ g=>[.rd 3 n (sF g)])]] []
   (λ k1 r1 H1=>k1=k+(20+ns)/\r1= .agg [cpus,.lit (.int .u64 credit),.sl (k+13) 0 ng,.sl (k+14) 0 n,.sl (k+15) 0 n,.sl (k+16) 0 0,.sl (k+17) 0 ns]∧
     H1=(k+13,⟨2,true,(aM ng).map gF⟩)::(k+14,⟨1,true,(aM n).map kF⟩)::(k+15,⟨1,true,(aM n).map uF⟩)::(k+16,⟨8,true,[]⟩)::(k+17,⟨1,false,zJ (k+18) ns n ns⟩)::mK (k+18) 3 ns (λ g=>(aM n).map (sF g))):=by
 obtain⟨kx,hkx⟩:∃x,x=k+(20+ns):=⟨_,rfl⟩;rw[<-hkx];have cG:=a3J ng gF (k+2) h1 oO hgone (Γ:=Γ);have cK:=aJR n kF (k+4) h3 oO hkone (Γ:=Γ);have cU:=aJR n uF (k+6) h3 oO huone (Γ:=Γ);have cT:=a6U cap (Γ:=Γ);obtain⟨oF,eoF⟩:∃o:Nat->List AVal,o=λ g=>[.rd 3 n (sF g)]:=⟨_,rfl⟩;have hoone:(((aM ns).map oF).all λ row=>row.all one)=true:=by rw[eoF];exact pM _ _ λ _=>rfl
 have cO:=a3I ns oF (k+8) h5 oO hoone (Γ:=Γ);obtain⟨GR,eG⟩:∃GR,GR=(aM ng).map gF:=⟨_,rfl⟩;obtain⟨KR,eK⟩:∃KR,KR=(aM n).map kF:=⟨_,rfl⟩;obtain⟨UR,eU⟩:∃UR,UR=(aM n).map uF:=⟨_,rfl⟩;skip
 obtain⟨OR,eO⟩:∃OR,OR=(aM ns).map oF:=⟨_,rfl⟩;have hO0:OR=VX (k+18) ns n sF 0:=by rw[eO,eoF,NB]
 obtain⟨SR,eS⟩:∃SR:Nat->List (List AVal),SR=λ g=>(aM n).map (sF g):=⟨_,rfl⟩;rw[<-eG]at cG⊢
 rw[<-eK]at cK;rw[<-eU]at cU;rw[<-eK,<-eU,<-eS];skip
 rw[<-eO]at cO;rw[<-eoF];obtain⟨RH,eRH⟩:∃x:aS,x=(k+13,⟨2,true,GR⟩)::(k+14,⟨1,true,KR⟩)::(k+15,⟨1,true,UR⟩)::(k+16,⟨8,true,[]⟩)::(k+17,⟨1,false,zJ (k+18) ns n ns⟩)::mK (k+18) 3 ns SR:=⟨_,rfl⟩;obtain⟨RV,eRV⟩:∃x:AVal,x= .agg [.lit (.int .i64 cpus),.lit (.int .u64 credit),.sl (k+13) 0 ng,.sl (k+14) 0 n,.sl (k+15) 0 n,.sl (k+16) 0 0,.sl (k+17) 0 ns]:=⟨_,rfl⟩;refine Tr.mono (AU (kk:=kx) (V:=RV) (RH:=RH) oO ?_ ?_ ?_) (λ _ _ _ h=>⟨h.1,h.2.1.trans eRV,h.2.2.trans eRH⟩);.rw[eRV];simp-dsimp-implicitDefEqProofs (disch:=omega)only[go_sem,iN,nq5,ltB_iff,aH,eq_self,↓reduceIte];try(simp only[aC,dTt];omega)
 .have hf:=FD (s:=3) (R:=SR) (oO:k+18+ns<=kx);have ho:((zJ (k+18) ns n ns).all λ row=>row.all (iC (kW kx)))=true:=EZ oO;rw[eRH];simp only[rG]at hf;simp only[rG,hY,hf,ho,kW,yV,FW,qO,aC,dTt];repeat'(first|(refine And.intro ?_ ?_)|omega|trivial)
 refine iD Tryz.func61 rfl 44 rfl bB ?_;have kp:=fI k [0,1,2,3,28,29,30];refine IS ?_;refine aU (zs ?_);refine dlL [.gen (.sl (k+3) 0 ng) (k+4) [] [(k+3,⟨2,true,GR⟩)],.gen (.sl (k+5) 0 n) (k+6) [] [(k+5,⟨1,true,KR⟩)],.gen (.sl (k+7) 0 n) (k+8) [] [(k+7,⟨1,true,UR⟩)],.ret (),.gen (.sl (k+9) 0 ns) (k+10) [] [(k+9,⟨1,true,OR⟩)]] ?_;refine aU (zs ?_);refine IS ?_;refine aU (zs ?_);refine bE (X:=Nat) rfl [0,1,2,3,28,29,30] kx (λ i=>[(29,i)]) (λ i=>(k,⟨7,false,[[cpus,.lit (.int .u64 credit),.sl (k+13) 0 ng,.sl (k+14) 0 n,.sl (k+15) 0 n,(),.sl (k+17) 0 ns]]⟩)::(k+1,⟨7,true,[[(0:Int),.lit (.int .u64 0),(),(),(),(),()]]⟩)::(k+13,⟨2,true,GR⟩)::(k+14,⟨1,true,KR⟩)::(k+15,⟨1,true,UR⟩)::(k+17,⟨1,decide (i=0),VX (k+18) ns n sF i⟩)::mK (k+18) 3 i SR) (λ i=>i<=ns) (λ i=>ns-i) 0 ?_ (aJ _) ?_;.rw[<-hO0];refine Mv.trans (FP (k2:=kx) oO) ?_;refine Mv.trans (iT (k+3) (k+13) ⟨oO,oO⟩ ⟨oO,oO⟩) ?_;refine Mv.trans (iT (k+5) (k+14) ⟨oO,oO⟩ ⟨oO,oO⟩) ?_;refine Mv.trans (iT (k+7) (k+15) ⟨oO,oO⟩ ⟨oO,oO⟩) ?_;refine Mv.trans (iT (k+9) (k+17) ⟨oO,oO⟩ ⟨oO,oO⟩) ?_;refine OE ?_;apply zN;exact fH
 clear hO0;intro i hi;refine OE ?_;apply zN;by_cases hi2:i<ns;.have cS:=a3H n (sF i) kx h3 oO (hsone i) (Γ:=Γ);rw[show(aM n).map (sF i)=SR i by rw[eS]]at cS;have hcg:=US (b:=k+18) (ns:=ns) (n:=n) (i:=i) (sF:=sF) hi2;have kp:Kp [0,1,2,3,28,29,30] (λ i=>if k+18<=i then i-kx+19 else i-k):=vD;have uU:= @hcg;refine IS ?_;refine aU ⟨λ ht=>zN ?_⟩;refine dlL [.gen (.sl (kx+1) 0 n) (kx+2) [] [(kx+1,⟨3,true,SR i⟩)]] ?_;refine aU (zs ?_);refine IS ?_;refine aU (zs ?_);refine⟨i+1,oO,oO,?_⟩;have hsw:=aDO (b:=k+18) (ns:=ns) (n:=n) (i:=i) (sF:=sF) (x:=kx+1) oO hi2;rw[fS k 18 i]at hsw;refine Mv.trans (iT (kx+1) (k+(18+i)) ⟨oO,oO⟩ ⟨oO,oO⟩) ?_;have uU:=zA @hsw @pP;refine OE ?_;apply zN;exact fH
 have hil:i=ns:=oO;have hla:=NC (b:=k+18) (ns:=ns) (n:=n) (sF:=sF);subst hil;rw[hla];have hdi:decide (i=0)=false:=decide_eq_false oO;rw[hdi];have kp:Kp [0,1,2,3,28,29,30] (λ i=>if k+18<=i then i-kx+19 else i-k):=vD;refine IS ?_;refine aU ⟨λ ht=>zN ?_⟩;refine dI (aMK k 8 (B:=⟨7,false,[[cpus,.lit (.int .u64 credit),.sl (k+13) 0 ng,.sl (k+14) 0 n,.sl (k+15) 0 n,(),.sl (k+17) 0 i]]⟩) (by simp(disch:=omega)only[AM.look,iN,↓reduceIte]) oO) ?_;refine OE ?_;apply zN;refine dI (aUX (k+1) 5 kx 0 0 (B:=⟨7,false,[[cpus,.lit (.int .u64 credit),.sl (k+13) 0 ng,.sl (k+14) 0 n,.sl (k+15) 0 n,(),.sl (k+17) 0 i]]⟩) (T:=⟨8,true,[]⟩) (by simp(disch:=omega)only[AM.look,iN,↓reduceIte]) (by simp(disch:=omega)only[AM.look,iN,↓reduceIte]) oO rfl rfl rfl) ?_;refine OE ?_;apply zN;have hcs:(zJ (k+18) i n i).map (λ row=>row.map (CO kx (k+16)))=zJ (k+18) i n i:=by rw[xM,jD];refine gB λ g hg=>?_;have:=dO.1 hg;simp only[Function.comp,bG,aV,CO,sw];rw[if_neg oO,if_neg oO]
 refine dI (iT kx (k+16) ⟨oO,oO⟩ ⟨oO,oO⟩) ?_;have uU:= @hcs;refine OE ?_;apply zN;have uU:= @hcs;refine IZ (zN ?_);refine⟨?_,?_⟩;.rw[eRV]
 rw[eRH];exact OE iH
theorem aSZ(cpus credit:Int)(ng n ns:Nat)(gF kF uF:Nat->List AVal)(sF:Nat->Nat->List AVal)(p:Addr)(cap:Nat)(hgone:(((aM ng).map gF).all λ row=>row.all one)=true)(hkone:(((aM n).map kF).all λ row=>row.all one)=true)(huone:(((aM n).map uF).all λ row=>row.all one)=true)(hsone:∀g,(((aM n).map (sF g)).all λ row=>row.all one)=true)
 (h1:0<ng) (h2:ng<=1000) (h3:0<n) (h4:n<=1000) (h5:0<ns) (h6:ns<=1000) (k:Nat):
 Tr aA Γ 61 k [.agg [cpus,.lit (.int .u64 credit),.rd 2 ng gF,.rd 1 n kF,.rd 1 n uF,.lit (.slice (some p) 0 cap),.rd 1 ns (λ g=>[.rd 3 n (sF g)])]] []
   (λ k1 r1 H1=>k1=k+(20+ns)/\r1= .agg [cpus,.lit (.int .u64 credit),.sl (k+13) 0 ng,.sl (k+14) 0 n,.sl (k+15) 0 n,.sl (k+16) 0 0,.sl (k+17) 0 ns]∧
     H1=(k+13,⟨2,true,(aM ng).map gF⟩)::(k+14,⟨1,true,(aM n).map kF⟩)::(k+15,⟨1,true,(aM n).map uF⟩)::(k+16,⟨8,true,[]⟩)::(k+17,⟨1,false,zJ (k+18) ns n ns⟩)::mK (k+18) 3 ns (λ g=>(aM n).map (sF g))):=by
 obtain⟨kx,hkx⟩:∃x,x=k+(20+ns):=⟨_,rfl⟩;rw[<-hkx];have cG:=a3J ng gF (k+2) h1 oO hgone (Γ:=Γ);have cK:=aJR n kF (k+4) h3 oO hkone (Γ:=Γ);have cU:=aJR n uF (k+6) h3 oO huone (Γ:=Γ);have cT:=a6V p cap (k+8) (Γ:=Γ);obtain⟨oF,eoF⟩:∃o:Nat->List AVal,o=λ g=>[.rd 3 n (sF g)]:=⟨_,rfl⟩;have hoone:(((aM ns).map oF).all λ row=>row.all one)=true:=by rw[eoF];exact pM _ _ λ _=>rfl
 have cO:=a3I ns oF (k+9) h5 oO hoone (Γ:=Γ);obtain⟨GR,eG⟩:∃GR,GR=(aM ng).map gF:=⟨_,rfl⟩;obtain⟨KR,eK⟩:∃KR,KR=(aM n).map kF:=⟨_,rfl⟩;obtain⟨UR,eU⟩:∃UR,UR=(aM n).map uF:=⟨_,rfl⟩;skip
 obtain⟨OR,eO⟩:∃OR,OR=(aM ns).map oF:=⟨_,rfl⟩;have hO0:OR=VX (k+18) ns n sF 0:=by rw[eO,eoF,NB]
 obtain⟨SR,eS⟩:∃SR:Nat->List (List AVal),SR=λ g=>(aM n).map (sF g):=⟨_,rfl⟩;rw[<-eG]at cG⊢
 rw[<-eK]at cK;rw[<-eU]at cU;rw[<-eK,<-eU,<-eS];skip
 rw[<-eO]at cO;rw[<-eoF];obtain⟨RH,eRH⟩:∃x:aS,x=(k+13,⟨2,true,GR⟩)::(k+14,⟨1,true,KR⟩)::(k+15,⟨1,true,UR⟩)::(k+16,⟨8,true,[]⟩)::(k+17,⟨1,false,zJ (k+18) ns n ns⟩)::mK (k+18) 3 ns SR:=⟨_,rfl⟩;obtain⟨RV,eRV⟩:∃x:AVal,x= .agg [.lit (.int .i64 cpus),.lit (.int .u64 credit),.sl (k+13) 0 ng,.sl (k+14) 0 n,.sl (k+15) 0 n,.sl (k+16) 0 0,.sl (k+17) 0 ns]:=⟨_,rfl⟩;refine Tr.mono (AU (kk:=kx) (V:=RV) (RH:=RH) oO ?_ ?_ ?_) (λ _ _ _ h=>⟨h.1,h.2.1.trans eRV,h.2.2.trans eRH⟩);.rw[eRV];simp-dsimp-implicitDefEqProofs (disch:=omega)only[go_sem,iN,nq5,ltB_iff,aH,eq_self,↓reduceIte];try(simp only[aC,dTt];omega)
 .have hf:=FD (s:=3) (R:=SR) (oO:k+18+ns<=kx);have ho:((zJ (k+18) ns n ns).all λ row=>row.all (iC (kW kx)))=true:=EZ oO;rw[eRH];simp only[rG]at hf;simp only[rG,hY,hf,ho,kW,yV,FW,qO,aC,dTt];repeat'(first|(refine And.intro ?_ ?_)|omega|trivial)
 refine iD Tryz.func61 rfl 44 rfl bB ?_;have kp:=fI k [0,1,2,3,28,29,30];refine IS ?_;refine aU (zs ?_);refine dlL [.gen (.sl (k+3) 0 ng) (k+4) [] [(k+3,⟨2,true,GR⟩)],.gen (.sl (k+5) 0 n) (k+6) [] [(k+5,⟨1,true,KR⟩)],.gen (.sl (k+7) 0 n) (k+8) [] [(k+7,⟨1,true,UR⟩)],.gen (.sl (k+8) 0 0) (k+9) [] [(k+8,⟨8,true,[]⟩)],.gen (.sl (k+10) 0 ns) (k+11) [] [(k+10,⟨1,true,OR⟩)]] ?_;refine aU (zs ?_);refine IS ?_;refine aU (zs ?_);refine bE (X:=Nat) rfl [0,1,2,3,28,29,30] kx (λ i=>[(29,i)]) (λ i=>(k,⟨7,false,[[cpus,.lit (.int .u64 credit),.sl (k+13) 0 ng,.sl (k+14) 0 n,.sl (k+15) 0 n,.sl (k+16) 0 0,.sl (k+17) 0 ns]]⟩)::(k+1,⟨7,true,[[(0:Int),.lit (.int .u64 0),(),(),(),(),()]]⟩)::(k+13,⟨2,true,GR⟩)::(k+14,⟨1,true,KR⟩)::(k+15,⟨1,true,UR⟩)::(k+16,⟨8,true,[]⟩)::(k+17,⟨1,decide (i=0),VX (k+18) ns n sF i⟩)::mK (k+18) 3 i SR) (λ i=>i<=ns) (λ i=>ns-i) 0 ?_ (aJ _) ?_;.rw[<-hO0];refine Mv.trans (FP (k2:=kx) oO) ?_;refine Mv.trans (iT (k+3) (k+13) ⟨oO,oO⟩ ⟨oO,oO⟩) ?_;refine Mv.trans (iT (k+5) (k+14) ⟨oO,oO⟩ ⟨oO,oO⟩) ?_;refine Mv.trans (iT (k+7) (k+15) ⟨oO,oO⟩ ⟨oO,oO⟩) ?_;refine Mv.trans (iT (k+8) (k+16) ⟨oO,oO⟩ ⟨oO,oO⟩) ?_;refine Mv.trans (iT (k+10) (k+17) ⟨oO,oO⟩ ⟨oO,oO⟩) ?_;refine OE ?_;apply zN;exact fH
 clear hO0;intro i hi;refine OE ?_;apply zN;by_cases hi2:i<ns;.have cS:=a3H n (sF i) kx h3 oO (hsone i) (Γ:=Γ);rw[show(aM n).map (sF i)=SR i by rw[eS]]at cS;have hcg:=US (b:=k+18) (ns:=ns) (n:=n) (i:=i) (sF:=sF) hi2;have kp:Kp [0,1,2,3,28,29,30] (λ i=>if k+18<=i then i-kx+19 else i-k):=vD;have uU:= @hcg;refine IS ?_;refine aU ⟨λ ht=>zN ?_⟩;refine dlL [.gen (.sl (kx+1) 0 n) (kx+2) [] [(kx+1,⟨3,true,SR i⟩)]] ?_;refine aU (zs ?_);refine IS ?_;refine aU (zs ?_);refine⟨i+1,oO,oO,?_⟩;have hsw:=aDO (b:=k+18) (ns:=ns) (n:=n) (i:=i) (sF:=sF) (x:=kx+1) oO hi2;rw[fS k 18 i]at hsw;refine Mv.trans (iT (kx+1) (k+(18+i)) ⟨oO,oO⟩ ⟨oO,oO⟩) ?_;have uU:=zA @hsw @pP;refine OE ?_;apply zN;exact fH
 have hil:i=ns:=oO;have hla:=NC (b:=k+18) (ns:=ns) (n:=n) (sF:=sF);subst hil;rw[hla];have hdi:decide (i=0)=false:=decide_eq_false oO;rw[hdi];have kp:Kp [0,1,2,3,28,29,30] (λ i=>if k+18<=i then i-kx+19 else i-k):=vD;refine IS ?_;refine aU ⟨λ ht=>zN ?_⟩;have uU:=Go.AM.uU;refine IZ (zN ?_);refine⟨?_,?_⟩;.rw[eRV]
 rw[eRH];exact OE iH
def jI(f:Nat->Bool):Nat->Bool
 |0=>false
 |n+1=>jI f n||f n
theorem tL{f:Nat->Bool}{i:Nat}(h:f i=true):∀ {n:Nat},i<n->jI f n=true
 |0,hn=>absurd hn oO
 |n+1,hn=>by
  simp only[jI,bH];by_cases he:i=n;.subst he;exact .inr h
  exact .inl (tL h oO)
theorem anyB_iff{f:Nat->Bool}:∀ {n:Nat},jI f n=true↔∃i,i<n/\f i=true
 |0=>by simp[jI]
 |n+1=>by
  simp only[jI,bH,anyB_iff];constructor
  .rintro(⟨i,h1,h2⟩|h);.exact⟨i,oO,h2⟩
   exact⟨n,oO,h⟩
  rintro⟨i,h1,h2⟩;by_cases he:i=n;.subst he;exact .inr h2
  exact .inl ⟨i,oO,h2⟩
def fO(s:St)(id c:Int)(i:Nat):Bool:=decide ((s.tsk i).id=id)&&((s.tsk i).ready&&decide ((s.tsk i).cpu=c))
theorem aJJ(s:St)(id c:Int)(hn:s.nt<=1000):Pure aA Γ 243 [.agg s.cells,id,c] (jI (fO s id c) s.nt):=by
 refine aZ Tryz.func243 rfl 41 rfl bB rfl λ k=>?_;(repeat(first|(refine bY rfl ?_)|(refine eZ rfl ?_)|(refine iF rfl [1,2,3,6,7] [] rfl (λ K hK=>?_);refine sT ?_;(refine hK _ _ _ _ (λ hx=>?_));clear hx hK;refine sT ?_;clear K)|(refine fD rfl ?_;simp-dsimp-implicitDefEqProofs only[go_sem,eq_self,↓reduceIte])));refine aHR (X:=Nat) rfl (k+1) (λ i=>[(1,id),(2,c),(3,.ptr k 0 0),(7,i)]) (λ i=>[(k,⟨7,true,[St.cells s]⟩)]) (λ i=>i<=s.nt/\jI (fO s id c) i=false) (λ i=>s.nt-i) 0 ?_ ⟨aJ _,rfl⟩ ?_;.rw[show((0:Nat):Int)=0 from rfl];exact fW
 rintro i ⟨hi,hany⟩;refine bY rfl ?_;(repeat(first|(refine bY rfl ?_)|(refine eZ rfl ?_)|(refine iF rfl [1,2,3,7,12] [] rfl (λ K hK=>?_);refine sT ?_;(refine hK _ _ _ _ (λ hx=>?_));clear hx hK;refine sT ?_;clear K)|(refine fD rfl ?_;simp-dsimp-implicitDefEqProofs only[go_sem,eq_self,↓reduceIte])));refine gA rfl _ rfl (λ ht=>?_) (λ hf=>?_)
 .simp only[dTt]at ht;refine fD rfl ?_;refine sT ?_;refine SF (X:=Unit) rfl (k+1) (λ _=>[(1,id),(2,c),(3,.ptr k 0 0),(7,i)]) (λ _=>[(k,⟨7,true,[St.cells s]⟩)]) (λ _=>fO s id c i=false) ?_ ?_
  .refine eZ rfl ?_;refine bY rfl ?_;refine iF rfl [1,2,3,7,40] [] rfl (λ K hK=>?_);refine sT ?_;(repeat'(first|(refine And.intro ?_ ?_)|(refine iI (λ hb=>?_) (λ hb=>?_)<;>(have hg:=hb;(try simp only[QH]at hg);simp-dsimp-implicitDefEqProofs only[go_sem,hb,hg,eq_self,↓reduceIte];clear hb;(try simp only[QG]at hg)))));(any_goals ((refine hK _ _ _ _ (λ hx=>?_));clear hx hK;refine sT ?_;(try simp(disch:=omega)only[wrap_i64,fF,wrap_u32,jV])));(all_goals(try omega));all_goals(try omega)
   all_goals(refine gA rfl _ rfl (λ ht=>?_) (λ hf=>?_))
   all_goals(first|(have hrt:fO s id c i=true:=by(simp only[fO,aC,dTt];simp_all))|(have hrf:fO s id c i=false:=by(simp only[fO,iA,dFn];simp_all))|(exact absurd ht sS))
   all_goals(first|((repeat(first|(refine bY rfl ?_)|(refine eZ rfl ?_)|(refine iF rfl [6] [] rfl (λ K hK=>?_);refine sT ?_;(refine hK _ _ _ _ (λ hx=>?_));clear hx hK;refine sT ?_;clear K)|(refine fD rfl ?_;simp-dsimp-implicitDefEqProofs only[go_sem,eq_self,↓reduceIte])));refine aX rfl ⟨_,rfl,aI ?_⟩;rw[tL hrt oO])|(refine fD rfl ?_;refine sT ?_;exact⟨(),hrf,by exact fW⟩))
  rintro _ hrf;(repeat(first|(refine bY rfl ?_)|(refine eZ rfl ?_)|(refine iF rfl [1,2,3,7] [] rfl (λ K hK=>?_);refine sT ?_;(refine hK _ _ _ _ (λ hx=>?_));clear hx hK;refine sT ?_;clear K)|(refine fD rfl ?_;simp-dsimp-implicitDefEqProofs only[go_sem,eq_self,↓reduceIte])));refine⟨i+1,⟨oO,by rw[jI,hany,hrf];rfl⟩,oO,?_⟩;rw[wrap_i64 oO oO,show((i+1:Nat):Int)=(i:Int)+1 from rfl];exact fW
 simp only[dFn]at hf;refine jU rfl ?_;refine rR ?_;apply zN;(repeat(first|(refine bY rfl ?_)|(refine eZ rfl ?_)|(refine iF rfl [6] [] rfl (λ K hK=>?_);refine sT ?_;(refine hK _ _ _ _ (λ hx=>?_));clear hx hK;refine sT ?_;clear K)|(refine fD rfl ?_;simp-dsimp-implicitDefEqProofs only[go_sem,eq_self,↓reduceIte])));have hi':i=s.nt:=oO;subst hi';refine aX rfl ⟨_,rfl,aI ?_⟩;rw[hany]
theorem aRH(m:Int)(i:Nat)(hm:0<=m):(m/2^i).tdiv 2=m/2^(i+1):=by rw[Int.tdiv_eq_ediv_of_nonneg (PJ hm (Int.le_of_lt (Int.pow_pos oO))),Int.ediv_ediv_of_nonneg (Int.le_of_lt (Int.pow_pos oO)),Int.pow_succ]
theorem aBH(m:Int)(i:Nat)(hm:0<=m):0<=m/2^i/\m/2^i<=m:=
 ⟨PJ hm (Int.le_of_lt (Int.pow_pos oO)),Int.ediv_le_self _ hm⟩
def tA(m:Int)(c:Nat):Bool:=decide (m/2^c%2=1)
theorem UZ(m c:Int)(hm:0<=m)(hm2:m<18446744073709551616)(hc:c<=9223372036854775807):Pure aA Γ 275 [.lit (.int .u64 m),c] (tA m c.toNat):=by
 refine aZ Tryz.func275 rfl 16 rfl bB rfl λ k=>?_;(repeat(first|(refine bY rfl ?_)|(refine eZ rfl ?_)|(refine iF rfl [0,1,4,5,8] [] rfl (λ K hK=>?_);refine sT ?_;(refine hK _ _ _ _ (λ hx=>?_));clear hx hK;refine sT ?_;clear K)|(refine fD rfl ?_;simp-dsimp-implicitDefEqProofs only[go_sem,eq_self,↓reduceIte])));refine aHR (X:=Nat) rfl k (λ i=>[(0,.lit (.int .u64 (m/2^i))),(1,c),(5,i)]) (λ _=>[]) (λ i=>i<=c.toNat) (λ i=>c.toNat-i) 0 ?_ (aJ _) ?_;.rw[show((0:Nat):Int)=0 from rfl,Int.pow_zero,Int.ediv_one];exact fW
 intro i hi;have hb:=aBH m i hm;(repeat(first|(refine bY rfl ?_)|(refine eZ rfl ?_)|(refine iF rfl [0,1,4,5,8] [] rfl (λ K hK=>?_);refine sT ?_;(refine hK _ _ _ _ (λ hx=>?_));clear hx hK;refine sT ?_;clear K)|(refine fD rfl ?_;simp-dsimp-implicitDefEqProofs only[go_sem,eq_self,↓reduceIte])));refine gA rfl _ rfl (λ ht=>?_) (λ hf=>?_);.simp only[dTt]at ht;(repeat(first|(refine bY rfl ?_)|(refine eZ rfl ?_)|(refine iF rfl [0,1,4,5,8] [] rfl (λ K hK=>?_);refine sT ?_;(refine hK _ _ _ _ (λ hx=>?_));clear hx hK;refine sT ?_;clear K)|(refine fD rfl ?_;simp-dsimp-implicitDefEqProofs only[go_sem,eq_self,↓reduceIte])));refine⟨i+1,oO,oO,?_⟩;rw[aRH m i hm,fF (aBH m (i+1) hm).1 (by have:=(aBH m (i+1) hm).2;omega),wrap_i64 oO oO,show((i+1:Nat):Int)=(i:Int)+1 from rfl];exact fW
 simp only[dFn]at hf;refine jU rfl ?_;refine rR ?_;apply zN;(repeat(first|(refine bY rfl ?_)|(refine eZ rfl ?_)|(refine iF rfl [0,1,4,5,8] [] rfl (λ K hK=>?_);refine sT ?_;(refine hK _ _ _ _ (λ hx=>?_));clear hx hK;refine sT ?_;clear K)|(refine fD rfl ?_;simp-dsimp-implicitDefEqProofs only[go_sem,eq_self,↓reduceIte])));have hi':i=c.toNat:=oO;subst hi';refine aX rfl ⟨_,rfl,aI ?_⟩;have h1:(m/2^c.toNat).tmod 2=m/2^c.toNat%2:=Int.tmod_eq_emod_of_nonneg hb.1;rw[h1];simp only[AVal.lit.injEq,mG.injEq,tA];rw[aY];simp
theorem FA(n:Nat)(f:Nat->Int)(hn:n<=1000):Pure aA Γ 99 [.rd 1 n (λ i=>[(f i)])] (.rd 1 n (λ i=>[(f i)])):=by
 refine aZ Tryz.func99 rfl 7 rfl bB rfl λ k=>?_;rcases jJ n with rfl|hpos;.have kp:=fI k [0,2,3];refine wl ?_;refine aU (zs ?_);exact aX rfl ⟨_,rfl,VLe.nil _ _⟩
 have hne:n≠0:=oO;have kp:=fI k [0,2,3];have uU:=zA @hne @hpos;refine wl ?_;refine aU (zs ?_);refine aHQ rfl (OD (id:=k) 2 (sV (And.intro (@hne) (@hpos))) (sV (And.intro (@hne) (@hpos)))) ⟨_,rfl,aK _⟩
theorem aIX(s:St)(n:Nat)(hn:n<=1000):Pure aA Γ 142 [.rd 8 n (tf s),.rd 8 n (tf s)] true:=by
 refine aZ Tryz.func142 rfl 26 rfl bB rfl λ k=>?_;have kp:=fI k [0,1,4,5,10,14,25];refine wl ?_;refine aU ⟨λ ht=>zN ?_⟩;refine bE (X:=Nat) rfl [0,1,4,5,10,14,25] k (λ i=>[(5,i)]) (λ i=>[]) (λ i=>i<=n) (λ i=>n-i) 0 ?_ (aJ _) ?_;.refine rR ?_;apply zN;exact fW
 intro i hi;refine rR ?_;apply zN;refine wl ?_;refine dD ⟨λ ht ht=>zN ?_⟩ ⟨λ ht=>zN ?_⟩;.refine⟨i+1,oO,oO,?_⟩;refine rR ?_;apply zN;exact fW
 exact aX rfl ⟨_,rfl,aK _⟩
theorem aIY(s:St)(g:Nat)(n:Nat)(hn:n<=1000):Pure aA Γ 143 [.rd 3 n (sf s g),.rd 3 n (sf s g)] true:=by
 refine aZ Tryz.func143 rfl 26 rfl bB rfl λ k=>?_;have kp:=fI k [0,1,4,5,10,14,25];refine wl ?_;refine aU ⟨λ ht=>zN ?_⟩;refine bE (X:=Nat) rfl [0,1,4,5,10,14,25] k (λ i=>[(5,i)]) (λ i=>[]) (λ i=>i<=n) (λ i=>n-i) 0 ?_ (aJ _) ?_;.refine rR ?_;apply zN;exact fW
 intro i hi;refine rR ?_;apply zN;refine wl ?_;refine dD ⟨λ ht ht=>zN ?_⟩ ⟨λ ht=>zN ?_⟩;.refine⟨i+1,oO,oO,?_⟩;refine rR ?_;apply zN;exact fW
 exact aX rfl ⟨_,rfl,aK _⟩
theorem aIZ(s:St)(n:Nat)(hn:n<=1000):Pure aA Γ 214 [.rd 2 n (gf s),.rd 2 n (gf s)] true:=by
 refine aZ Tryz.func214 rfl 26 rfl bB rfl λ k=>?_;have kp:=fI k [0,1,4,5,10,14,25];refine wl ?_;refine aU ⟨λ ht=>zN ?_⟩;refine bE (X:=Nat) rfl [0,1,4,5,10,14,25] k (λ i=>[(5,i)]) (λ i=>[]) (λ i=>i<=n) (λ i=>n-i) 0 ?_ (aJ _) ?_;.refine rR ?_;apply zN;exact fW
 intro i hi;refine rR ?_;apply zN;refine wl ?_;refine dD ⟨λ ht ht=>zN ?_⟩ ⟨λ ht=>zN ?_⟩;.refine⟨i+1,oO,oO,?_⟩;refine rR ?_;apply zN;exact fW
 exact aX rfl ⟨_,rfl,aK _⟩
theorem aJB(s:St)(n:Nat)(hn:n<=1000):Pure aA Γ 80 [.rd 1 n (kf s),.rd 1 n (kf s)] true:=by
 refine aZ Tryz.func80 rfl 26 rfl bB rfl λ k=>?_;have kp:=fI k [0,1,4,5,10,14,25];refine wl ?_;refine aU ⟨λ ht=>zN ?_⟩;refine bE (X:=Nat) rfl [0,1,4,5,10,14,25] k (λ i=>[(5,i)]) (λ i=>[]) (λ i=>i<=n) (λ i=>n-i) 0 ?_ (aJ _) ?_;.refine rR ?_;apply zN;exact fW
 intro i hi;refine rR ?_;apply zN;refine wl ?_;refine dD ⟨λ ht ht=>zN ?_⟩ ⟨λ ht=>zN ?_⟩;.refine⟨i+1,oO,oO,?_⟩;refine rR ?_;apply zN;exact fW
 exact aX rfl ⟨_,rfl,aK _⟩
theorem aJA(s:St)(n:Nat)(hn:n<=1000):Pure aA Γ 80 [.rd 1 n (uf s),.rd 1 n (uf s)] true:=by
 refine aZ Tryz.func80 rfl 26 rfl bB rfl λ k=>?_;have kp:=fI k [0,1,4,5,10,14,25];refine wl ?_;refine aU ⟨λ ht=>zN ?_⟩;refine bE (X:=Nat) rfl [0,1,4,5,10,14,25] k (λ i=>[(5,i)]) (λ i=>[]) (λ i=>i<=n) (λ i=>n-i) 0 ?_ (aJ _) ?_;.refine rR ?_;apply zN;exact fW
 intro i hi;refine rR ?_;apply zN;refine wl ?_;refine dD ⟨λ ht ht=>zN ?_⟩ ⟨λ ht=>zN ?_⟩;.refine⟨i+1,oO,oO,?_⟩;refine rR ?_;apply zN;exact fW
 exact aX rfl ⟨_,rfl,aK _⟩
theorem aIV(s:St)(n:Nat)(hn:n<=1000):Pure aA Γ 81 [.rd 8 n (tf s),.rd 8 n (tf s)] true:=by
 refine aZ Tryz.func81 rfl 8 rfl bB rfl λ k=>?_;have kp:=fI k [0,1,4];refine wl ?_;refine aU (zs ?_);refine cl [.ret true] ?_;refine dD (zs ?_) (zs ?_);.exact aIX s n hn
 exact aX rfl ⟨_,rfl,aK _⟩
theorem aIW(s:St)(g:Nat)(n:Nat)(hn:n<=1000):Pure aA Γ 82 [.rd 3 n (sf s g),.rd 3 n (sf s g)] true:=by
 refine aZ Tryz.func82 rfl 8 rfl bB rfl λ k=>?_;have kp:=fI k [0,1,4];refine wl ?_;refine aU (zs ?_);refine cl [.ret true] ?_;refine dD (zs ?_) (zs ?_);.exact aIY s g n hn
 exact aX rfl ⟨_,rfl,aK _⟩
theorem aBB(s:St)(n:Nat)(hn:n<=1000):Pure aA Γ 141 [.rd 2 n (gf s),.rd 2 n (gf s)] true:=by
 refine aZ Tryz.func141 rfl 8 rfl bB rfl λ k=>?_;have kp:=fI k [0,1,4];refine wl ?_;refine aU (zs ?_);refine cl [.ret true] ?_;refine dD (zs ?_) (zs ?_);.exact aIZ s n hn
 exact aX rfl ⟨_,rfl,aK _⟩
def St.cfg (s:St):List AVal:=[.lit (.int .i64 s.cpus),.lit (.int .u64 s.credit),.rd 2 s.ng (gf s)]
attribute [go_sem] St.cfg
structure St.Small (s:St):Prop where
 ng:s.ng<=1000
 nk:s.nk<=1000
 nu:s.nu<=1000
 nt:s.nt<=1000
 ns:s.ns<=1000
 nsp:∀g,g<s.ns->s.nsp g<=1000
theorem aBC(s:St)(hs:s.Small):Pure aA Γ 79 [.agg s.cfg,.agg s.cfg] true:=by
 have hng:=hs.ng;refine aZ Tryz.func79 rfl 24 rfl bB rfl λ k=>?_;have kp:=fI k [0,1,2,3,4];refine wl ?_;refine aU (zs ?_);refine cl [.ret true] ?_;refine dD (zs ?_) (zs ?_);.exact aBB s s.ng hng
 all_goals(exact aX rfl ⟨_,rfl,aK _⟩)
theorem GG(s:St)(hs:s.Small):Pure aA Γ 25 [.agg s.cells,.agg s.cells] true:=by
 obtain⟨hng,hnk,hnu,hnt,hns,hnsp⟩:=hs;refine aZ Tryz.func25 rfl 64 rfl bB rfl λ k=>?_;have kp:=fI k [0,1,2,3,4,5,44,49,63];refine wl ?_;refine aU (zs ?_);refine cl [.ret true,.ret true,.ret true,.ret true] ?_;refine zq5 (zs ?_) (zs ?_) (zs ?_) (zs ?_) (zs ?_);.exact aBC s ⟨hng,hnk,hnu,hnt,hns,hnsp⟩
 .exact aJB s s.nk hnk
 .exact aJA s s.nu hnu
 .exact aIV s s.nt hnt
 refine wl ?_;refine aU ⟨λ ht=>zN ?_⟩;refine bE (X:=Nat) rfl [0,1,2,3,4,5,44,49,63] (k+2) (λ i=>[(5,i)]) (λ i=>[(k+1,⟨7,true,[s.cells]⟩),(k,⟨7,true,[s.cells]⟩)]) (λ i=>i<=s.ns) (λ i=>s.ns-i) 0 ?_ (aJ _) ?_;.refine rR ?_;apply zN;exact fW
 intro i hi;refine rR ?_;apply zN;refine wl ?_;refine dD ⟨λ ht=>zN ?_⟩ ⟨λ ht=>zN ?_⟩
 .have hi2:s.nsp i<=1000:=hnsp i oO;refine dl [.ret true] ?_;refine dD (zs ?_) (zs ?_);all_goals(try omega)
  .exact aIW s i (s.nsp i) hi2
  refine wl ?_;refine aU ⟨λ ht=>zN ?_⟩;refine⟨i+1,oO,oO,?_⟩;refine rR ?_;apply zN;exact fW
 exact aX rfl ⟨_,rfl,aK _⟩
def VM(s:St):Prop:=s.cpus<=10/\s.ng<=10/\s.nk<=100/\s.nu<=100/\s.nt<=40/\s.ns<=12/\∀g,g<s.ns->s.nsp g<=12
instance (s:St):Decidable (VM s):=by unfold VM;infer_instance
def zE(par:Nat->Int):Nat->Nat->Nat->Nat
 |0,_,n=>n
 |f+1,g,n=>if g=0 then n else if par g<0\/(g:Int)<=par g then 5 else zE par f (par g).toNat (n+1)
theorem a1E(par:Nat->Int)(g n:Nat):zE par 0 g n=n:=rfl
theorem aLB(s:St)(n g:Nat)(hg:g<n)(hn:n<=1000):Pure aA Γ 240 [.rd 2 n (gf s),g] (zE s.par 5 g 0:Nat):=by
 refine aZ Tryz.func240 rfl 35 rfl bB rfl λ k=>?_;generalize hD:zE s.par 5 g 0=D;have kp:=fI k [0,1,4,5,11,26];refine wl ?_;refine aU (zs ?_);refine bE (X:=Nat×Nat) rfl [0,1,4,5,11,26] k (λ x=>[(1,x.1),(5,x.2)]) (λ x=>[]) (λ x=>x.1<n/\x.2<=5/\zE s.par (5-x.2) x.1 x.2=D) (λ x=>5-x.2) (g,0) ?_ ⟨hg,oO,hD⟩ ?_;.refine rR ?_;apply zN;exact fW
 rintro⟨h,m⟩ ⟨hh,hm,hr⟩;simp only at hh hm hr;refine rR ?_;apply zN;have hstep:∀(h0:0<h) (h5:m<5),zE s.par (5-m) h m=if s.par h<0\/(h:Int)<=s.par h then 5 else zE s.par (5-(m+1)) (s.par h).toNat (m+1):=λ h0 h5=>by have e:5-m=(5-(m+1))+1:=oO;rw[e,zE,if_neg oO]
 refine wl ?_;refine zq5 ⟨λ ht ht=>⟨λ hg hg=>⟨?_⟩⟩⟩ ⟨λ ht ht=>⟨λ hg hg=>⟨?_⟩⟩⟩ ⟨λ ht ht=>⟨λ hg hg=>⟨?_⟩⟩⟩ ⟨λ ht=>⟨λ hg=>⟨?_⟩⟩⟩ ⟨λ ht=>⟨λ hg=>⟨?_⟩⟩⟩;.refine aX rfl ⟨_,rfl,aI ?_⟩;rw[hstep oO oO,if_pos oO]at hr;rw[<-hr];rfl
 .refine⟨((s.par h).toNat,m+1),⟨by simp only;omega,by simp only;omega,?_⟩,by simp only;omega,?_⟩;.rw[hstep oO oO,if_neg oO]at hr;exact hr
  have hp:((s.par h).toNat:Int)=s.par h:=oO;simp only[hp];refine rR ?_;apply zN;exact fW
 .refine aX rfl ⟨_,rfl,aI ?_⟩;rw[hstep oO oO,if_pos oO]at hr;rw[<-hr];rfl
 .refine aX rfl ⟨_,rfl,aI ?_⟩;have e:m=5:=oO;subst e;rw[a1E]at hr;rw[<-hr]
 refine aX rfl ⟨_,rfl,aI ?_⟩;have e:h=0:=oO;subst e
 have hr':m=D:=by
  cases hm':5-m with
  |zero=>rw[hm',a1E]at hr;exact hr
  |succ q=>rw[hm',zE,if_pos rfl]at hr;exact hr
 rw[<-hr']
def okW(s:St)(g:Nat):Bool:=decide (1<=s.wt g/\s.wt g<=65536)
def okR(s:St)(g:Nat):Bool:=okW s g&&decide (zE s.par 5 g 0<=4)
def fb(ok:Nat->Bool):Nat->Option Nat
 |0=>none
 | n+1=>match fb ok n with
   |some g=>some g
   |none=>if n=0\/ok n=true then none else some n
theorem ES{ok:Nat->Bool}:∀ {n:Nat},(∀g,1<=g->g<n->ok g=true)->fb ok n=none
 |0,_=>rfl
 |n+1,h=>by
  rw[fb,ES (λ g h1 h2=>h g h1 oO)];by_cases hn:n=0;.simp[hn]
  simp[h n oO oO]
theorem fb_none_iff{ok:Nat->Bool}:∀ {n:Nat},fb ok n=none↔∀g,1<=g->g<n->ok g=true
 |0=>⟨λ _ g _ hg=>oO,λ _=>rfl⟩
 |n+1=>by
  refine⟨λ h g h1 h2=>?_,ES⟩;rw[fb]at h
  cases hf:fb ok n with
  |some x=>rw[hf]at h;cases h
  |none=>
   rw[hf]at h;by_cases he:g=n
   .subst he;simp only at h;split at h
    .rename_i hc;rcases hc with hc|hc
     .omega
     exact hc
    cases h
   exact fb_none_iff.1 hf g h1 oO
theorem JT{ok:Nat->Bool}{g:Nat}(h1:1<=g)(hall:∀j,1<=j->j<g->ok j=true)(hbad:ok g=false):∀ {n:Nat},g<n->fb ok n=some g
 |0,h=>oO
 |n+1,h=>by
  rw[fb];by_cases he:g=n;.subst he;rw[ES hall];simp[hbad];omega
  rw[JT h1 hall hbad oO]
def gE(s:St):Bool:=decide (1<=s.cpus/\s.cpus<=64/\s.credit<=1099511627776/\1<=s.ng/\s.ng<=256/\s.par 0=0/\s.wt 0=1)&&(fb (okR s) s.ng).isNone
theorem yX(s:St):Pure aA Γ 186 [.agg s.cfg] (gE s):=by
 refine aZ Tryz.func186 rfl 65 rfl bB rfl λ k=>?_;have kp:=fI k [0,1,2,3,28,42,47,64];refine wl ?_;refine zq8 ⟨λ ht=>⟨λ hg hg hg hg=>⟨?_⟩⟩⟩ ⟨λ ht ht=>⟨λ hg hg hg hg hg=>⟨?_⟩⟩⟩ ⟨λ ht ht=>⟨λ hg hg hg hg hg=>⟨?_⟩⟩⟩ ⟨λ ht ht=>⟨λ hg hg hg hg hg=>⟨?_⟩⟩⟩ ⟨λ ht=>⟨λ hg hg hg hg=>⟨?_⟩⟩⟩ ⟨λ ht=>⟨λ hg hg hg=>⟨?_⟩⟩⟩ ⟨λ ht=>⟨λ hg hg=>⟨?_⟩⟩⟩ ⟨λ ht=>⟨λ hg=>⟨?_⟩⟩⟩;any_goals (refine aX rfl ⟨_,rfl,aI ?_⟩;rw[gE,decide_eq_false oO,kD])
 refine bE (X:=Nat) rfl [0,1,2,3,28,42,47,64] (k+1) (λ i=>[(3,i)]) (λ i=>[(k,⟨3,true,[s.cfg]⟩)]) (λ i=>1<=i/\i<=s.ng/\∀g,1<=g->g<i->okR s g=true) (λ i=>s.ng-i) 1 ?_ ⟨oO,oO,λ g h1 h2=>oO⟩ ?_;.refine rR ?_;apply zN;exact fW
 rintro i ⟨hi1,hi,hall⟩;refine rR ?_;apply zN;have hok:okR s i=(okW s i&&decide (zE s.par 5 i 0<=4)):=rfl;refine wl ?_;refine dD ⟨λ ht=>zN ?_⟩ ⟨λ ht=>zN ?_⟩
 .refine cl [.ret (okW s i),.ret (zE s.par 5 i 0:Nat)] ?_;refine DT (zs ?_) ⟨⟨λ hg=>⟨?_⟩⟩⟩ ⟨⟨λ hg=>⟨?_⟩⟩⟩ ⟨⟨λ hg=>⟨?_⟩⟩⟩;all_goals(try omega)
  .exact KD (s.wt i)
  .exact aLB s s.ng i oO oO
  .refine wl ?_;refine dD ⟨λ ht=>zN ?_⟩ ⟨λ ht=>zN ?_⟩;.refine aX rfl ⟨_,rfl,aI ?_⟩;rw[gE,JT hi1 hall (by rw[hok,decide_eq_false oO,qP]) oO];simp
   refine⟨i+1,⟨oO,oO,λ g h1 h2=>?_⟩,oO,?_⟩
   .by_cases he:g=i;.subst he;rw[hok,hg,decide_eq_true oO];rfl
    exact hall g h1 oO
   refine rR ?_;apply zN;exact fW
  refine wl ?_;refine aU ⟨λ ht=>zN ?_⟩;refine aX rfl ⟨_,rfl,aI ?_⟩;rw[gE,JT hi1 hall (by rw[hok,hg,kD]) oO];simp
 refine aX rfl ⟨_,rfl,aI ?_⟩;rw[gE,ES (λ g h1 h2=>hall g h1 oO),decide_eq_true oO];rfl
theorem aVK(w:Int):Pure aA Γ 271 [w] (decide (1<=w/\w<=65536)):=by refine aZ Tryz.func271 rfl 9 rfl bB rfl λ k=>?_;have kp:=fI k [0,2];refine wl ?_;refine dD ⟨⟨λ hg=>⟨?_⟩⟩⟩ ⟨⟨λ hg=>⟨?_⟩⟩⟩;all_goals(refine aX rfl ⟨_,rfl,aI ?_⟩;(simp only[AVal.lit.injEq,mG.injEq];rw[aY];simp only[beq_iff_eq,bne_iff_ne,ne_eq,dTt,dFn,aC,bH,aT,beq_eq_false_iff_ne,aO,bM,true_iff,false_iff,iff_true,iff_false];omega))
def sG(par:Nat->Int):Nat->Nat->Nat
 |0,_=>0
 |f+1,g=>if g=0 then 0 else sG par f (par g).toNat+1
def FU(Γ:List (Nat×List AVal)):Prop:=∀(s:St) (n g:Nat),g<n->n<=1000->(∀j,1<=j->j<=g->0<=s.par j/\s.par j<j)→
 Pure aA Γ 272 [.rd 2 n (gf s),g] (sG s.par g g:Nat)
def okP(s:St)(g:Nat):Bool:=decide (0<=s.par g/\s.par g<g)
def okG(s:St)(g:Nat):Bool:=okP s g&&(okW s g&&decide (sG s.par g g<=4))
def UW(s:St)(g:Nat):Int:=if okP s g=false then 191 else if okW s g=false then 192 else 193
def VY(s:St):Int×Int:=
 if 256<s.ng then(-1,5)else if s.ng=0\/¬(s.par 0=0/\s.wt 0=1)then(0,190)else match fb (okG s) s.ng with
  |none=>(-1,0)
  |some g=>(g,UW s g)
theorem aCH(hD:FU Γ)(s:St):Pure aA Γ 226 [.rd 2 s.ng (gf s)] (.tup [.lit (.int .i64 (VY s).1),.lit (.int .i64 (VY s).2)]):=by
 refine aZ Tryz.func226 rfl 58 rfl bB rfl λ k=>?_;have kp:=fI k [0,2,3,4,5,9,23,26,43,52];refine wl ?_;refine DT ⟨λ ht=>zN ?_⟩ ⟨λ ht ht=>⟨λ hg=>⟨?_⟩⟩⟩ ⟨λ ht ht=>⟨λ hg=>⟨?_⟩⟩⟩ ⟨λ ht ht=>⟨λ hg=>⟨?_⟩⟩⟩;.refine aX rfl ⟨_,rfl,aI ?_⟩;rw[show VY s=(-1,5)from by rw[VY,if_pos oO]]
 .refine aX rfl ⟨_,rfl,aI ?_⟩;rw[show VY s=(0,190)from by rw[VY,if_neg oO,if_pos (.inr (by simpa using ht))]]
 .have hroot:s.par 0=0/\s.wt 0=1:=by simpa using ht
  have hchk:VY s=match fb (okG s) s.ng with|none=>(-1,0)|some g=>((g:Int),UW s g):=by
   rw[VY,if_neg oO,if_neg (by rintro(h|h);· omega
                              · exact h hroot)]
  refine bE (X:=Nat) rfl [0,2,3,4,5,9,23,26,43,52] k (λ i=>[(4,i)]) (λ i=>[]) (λ i=>1<=i/\i<=s.ng/\∀g,1<=g->g<i->okG s g=true) (λ i=>s.ng-i) 1 ?_ ⟨oO,oO,λ g h1 h2=>oO⟩ ?_;.refine rR ?_;apply zN;exact fW
  rintro i ⟨hi1,hi,hall⟩;refine rR ?_;apply zN;have hok:okG s i=(okP s i&&(okW s i&&decide (sG s.par i i<=4))):=rfl;have hbad:i<s.ng->okG s i=false->VY s=((i:Int),UW s i):=λ h1 h2=>by rw[hchk,JT hi1 hall h2 h1]
  refine wl ?_;refine DT ⟨λ ht ht=>⟨λ hg=>⟨?_⟩⟩⟩ ⟨λ ht ht=>⟨λ hg=>⟨?_⟩⟩⟩ ⟨λ ht ht=>⟨λ hg=>⟨?_⟩⟩⟩ ⟨λ ht=>zN ?_⟩;.refine aX rfl ⟨_,rfl,aI ?_⟩;have hp:okP s i=false:=decide_eq_false oO;rw[hbad oO (by rw[hok,hp];rfl),UW,if_pos hp]
  .have hp:okP s i=true:=decide_eq_true oO;refine cl [.ret (okW s i)] ?_;refine dD (zs ?_) (zs ?_);.exact aVK (s.wt i)
   refine wl ?_;refine dD ⟨λ ht=>zN ?_⟩ ⟨λ ht=>zN ?_⟩;.refine aX rfl ⟨_,rfl,aI ?_⟩;rw[hbad oO (by rw[hok,ht,hp];rfl),UW,if_neg (by rw[hp];simp),if_pos ht]
   refine cl [.ret (sG s.par i i:Nat)] ?_;refine dD (zs ?_) (zs ?_)
   .refine hD s s.ng i oO oO (λ j h1 h2=>?_);by_cases he:j=i;.subst he;omega
    have:=hall j h1 oO;simp only[okG,okP,aC,dTt]at this;exact this.1
   have hw:=ht;refine wl ?_;refine dD ⟨λ ht=>zN ?_⟩ ⟨λ ht=>zN ?_⟩;.refine aX rfl ⟨_,rfl,aI ?_⟩;rw[hbad oO (by rw[hok,hp,hw,decide_eq_false oO];rfl),UW,if_neg (by rw[hp];simp),if_neg (by rw[hw];simp)]
   refine⟨i+1,⟨oO,oO,λ g h1 h2=>?_⟩,oO,?_⟩
   .by_cases he:g=i;.subst he;rw[hok,hp,hw,decide_eq_true oO];rfl
    exact hall g h1 oO
   refine rR ?_;apply zN;exact fW
  .refine aX rfl ⟨_,rfl,aI ?_⟩;have hp:okP s i=false:=decide_eq_false oO;rw[hbad oO (by rw[hok,hp];rfl),UW,if_pos hp]
  refine aX rfl ⟨_,rfl,aI ?_⟩;rw[hchk,ES (λ g h1 h2=>hall g h1 oO)]
 refine aX rfl ⟨_,rfl,aI ?_⟩;rw[show VY s=(0,190)from by rw[VY,if_neg oO,if_pos (.inl oO)]]
theorem aCG(hD:FU Γ)(s:St):Pure aA Γ 156 [.rd 2 s.ng (gf s)] ((VY s).2==0):=by
 refine aZ Tryz.func156 rfl 12 rfl bB rfl λ k=>?_;have kp:=fI k [0,2,4];refine wl ?_;refine aU (zs ?_);refine cl [.ret (.tup [.lit (.int .i64 (VY s).1),.lit (.int .i64 (VY s).2)])] ?_;refine dD (zs ?_) (zs ?_);.exact aCH hD s
 refine wl ?_;refine aU (zs ?_);refine aX rfl ⟨_,rfl,aI ?_⟩;rfl
def oN(s:St):Bool:=decide (1<=s.cpus/\s.cpus<=64/\s.credit<=1099511627776)&&((VY s).2==0)
theorem zU(hD:FU Γ)(s:St):Pure aA Γ 86 [.agg s.cfg] (oN s):=by
 refine aZ Tryz.func86 rfl 21 rfl bB rfl λ k=>?_;have kp:=fI k [0,1,2];refine wl ?_;refine aU (zs ?_);refine cl [.ret ((VY s).2==0)] ?_;refine zq5 ⟨⟨λ hg hg hg=>⟨?_⟩⟩⟩ ⟨⟨λ hg hg hg=>⟨?_⟩⟩⟩ ⟨⟨λ hg hg hg=>⟨?_⟩⟩⟩ ⟨⟨λ hg hg=>⟨?_⟩⟩⟩ ⟨⟨λ hg=>⟨?_⟩⟩⟩;.exact aCG hD s
 all_goals(refine aX rfl ⟨_,rfl,aI ?_⟩)
 all_goals(first|(rw[oN,decide_eq_true oO,kQ];done)|(rw[oN,decide_eq_false oO,kD];done)|(rw[oN,decide_eq_false oO,decide_eq_false oO,kD];done)|trace_state)
theorem ND(s:St)(hs:s.Small):Pure aA Γ 98 [.agg s.cfg] (.agg s.cfg):=by
 have hng:=hs.ng;refine aZ Tryz.func98 rfl 10 rfl bB rfl λ k=>?_;rcases jJ s.ng with h0|hpos;.simp only[St.cfg,h0];have kp:=fI k [0,1,2,3];refine wl ?_;refine aU (zs ?_);refine cR (zN ?_);exact oA (.cons (aK _) (.cons (aK _) (.cons (VLe.nil _ _) .nil)))
 have hne:s.ng≠0:=oO;have kp:=fI k [0,1,2,3];have uU:=zA @hne @hpos;refine wl ?_;refine aU (zs ?_);refine dI (dJ (k+2) (by simp-dsimp-implicitDefEqProofs only[go_sem,hne,hpos,eq_self,↓reduceIte];rfl) rfl) ?_;simp-dsimp-implicitDefEqProofs only[kX,fE,go_sem,hne,hpos,eq_self,↓reduceIte];have uU:=zA @hne @hpos;refine cR (zN ?_);exact oA (.cons (aK _) (.cons (aK _) (.cons (nQ _ _ _) .nil)))
def spL(s:St)(i:Nat):List (List AVal):=(aM i).map (VU s)
theorem aNS(s:St):spL s 0=[]:=rfl
theorem KO(s:St)(i:Nat):spL s (i+1)=spL s i++[VU s i]:=CT
theorem aFF(s:St)(i:Nat):(spL s i).length=i:=by simp[spL]
theorem rB(s:St)(i:Nat):((spL s i).all λ row=>row.all clean)=true:=SA λ i=>rfl
def zst:List AVal:=[.lit (.int .i64 0),.lit (.int .u64 0),.lit (.slice none 0 0),.lit (.slice none 0 0),.lit (.slice none 0 0),.lit (.slice none 0 0),.lit (.slice none 0 0)]
attribute [go_sem] zst aFF
theorem aLH(s:St)(hs:s.Small):Pure aA Γ 35 [.agg s.cells] (.agg s.cells):=by
 obtain⟨hng,hnk,hnu,hnt,hns,hnsp⟩:=id hs;refine aZ Tryz.func35 rfl 44 rfl bB rfl λ k=>?_;have kp:=fI k [0,1,2,3,4,5,6,11];refine wl ?_;refine aU (zs ?_);refine bE (X:=Nat) rfl [0,1,2,3,4,5,6,11] (k+3) (λ i=>[(5,i),(4,bV (k+2) (spL s i))]) (λ i=>cA (k+2) 1 (spL s i) [(k+1,⟨7,true,[zst]⟩),(k,⟨7,true,[s.cells]⟩)]) (λ i=>i<=s.ns) (λ i=>s.ns-i) 0 ?_ (aJ _) ?_;.rw[aNS];refine rR ?_;apply zN;exact fW
 intro i hi;refine rR ?_;apply zN;have hcl:((spL s i++[VU s i]).all λ row=>row.all clean)=true:=by rw[<-KO];exact rB s (i+1)
 refine wl ?_;refine dD ⟨λ ht=>zN ?_⟩ ⟨λ ht=>zN ?_⟩
 .by_cases hz:s.nsp i=0;.have uU:= @hz;refine wl ?_;refine aU (zs ?_);refine⟨i+1,oO,oO,?_⟩;rw[KO];refine Mv.trans (Mv.row (k+4) (VU s i) (by simp-dsimp-implicitDefEqProofs only[go_sem,hz,aH,Flt.row,eq_self,↓reduceIte];rfl) (by rw[VU,hz];exact .cons (VLe.nil _ _) .nil) hcl) ?_;exact lM (k+4) (k+2) (wV @hz)
  have hpos:0<s.nsp i:=oO;have hle:s.nsp i<=1000:=hnsp i oO;have uU:=zA @hz @hpos;refine wl ?_;refine aU (zs ?_);refine⟨i+1,oO,oO,?_⟩;rw[KO];refine Mv.trans (dJ (k+3) (by simp-dsimp-implicitDefEqProofs only[go_sem,hz,hpos,eq_self,↓reduceIte];rfl) rfl) ?_;simp-dsimp-implicitDefEqProofs only[kX,fE,go_sem,hz,hpos,iJ (rB s i),eq_self,↓reduceIte];refine Mv.trans (Mv.row (k+5) (VU s i) (by simp-dsimp-implicitDefEqProofs only[go_sem,hz,hpos,iJ (rB s i),aH,Flt.row,eq_self,↓reduceIte];rfl) (.cons (nQ _ _ _) .nil) hcl) ?_;exact lM (k+5) (k+2) (vY oO (by simp-dsimp-implicitDefEqProofs only[go_sem,hz,hpos,iJ (rB s i),aH,Flt.row,eq_self,↓reduceIte]) (by simp-dsimp-implicitDefEqProofs only[go_sem,hz,hpos,iJ (rB s i),aH,Flt.row,eq_self,↓reduceIte]) (by simp-dsimp-implicitDefEqProofs only[go_sem,hz,hpos,iJ (rB s i),aH,Flt.row,eq_self,↓reduceIte]) (by simp-dsimp-implicitDefEqProofs only[go_sem,hz,hpos,iJ (rB s i),aH,Flt.row,eq_self,↓reduceIte]))
 have hi':i=s.ns:=oO;subst hi';have hv:VLe (rows 1 (spL s s.ns)) (.rd 1 s.ns (VU s)):=by rw[rows,aFF];exact nQ _ _ _
 refine dI (xX (id:=k+2) (s:=1) (l:=spL s s.ns) 4 (.rd 1 s.ns (VU s)) [(k+1,⟨7,true,[zst]⟩),(k,⟨7,true,[s.cells]⟩)] sL sL hv sL sL) ?_;refine rR ?_;apply zN;rcases jJ s.nt with hz|hpos
 .have uU:= @hz;refine dl [.ret (.agg s.cfg),.ret (.rd 1 s.nk (kf s)),.ret (.rd 1 s.nu (uf s))] ?_;refine DT (zs ?_) (zs ?_) (zs ?_) (zs ?_);.exact ND s hs
  .exact FA s.nk s.clk hnk
  .exact FA s.nu s.cur hnu
  refine wl ?_;refine aU (zs ?_);have uU:= @hz;refine cR (zN ?_);exact oA (.cons (aK _) (.cons (aK _) (.cons (aK _) (.cons (aK _) (.cons (aK _) (.cons (VLe.nil _ _) (.cons (aK _) .nil)))))))
 have hne:¬s.nt=0:=oO;have uU:=zA @hne @hpos;refine dl [.ret (.agg s.cfg),.ret (.rd 1 s.nk (kf s)),.ret (.rd 1 s.nu (uf s))] ?_;refine DT (zs ?_) (zs ?_) (zs ?_) (zs ?_);.exact ND s hs
 .exact FA s.nk s.clk hnk
 .exact FA s.nu s.cur hnu
 refine wl ?_;refine aU (zs ?_);refine dI (dJ (k+3) (by simp-dsimp-implicitDefEqProofs only[go_sem,hne,hpos,eq_self,↓reduceIte];rfl) rfl) ?_;simp-dsimp-implicitDefEqProofs only[kX,fE,go_sem,hne,hpos,eq_self,↓reduceIte];have uU:=zA @hne @hpos;refine cR (zN ?_);exact oA (.cons (aK _) (.cons (aK _) (.cons (aK _) (.cons (aK _) (.cons (aK _) (.cons (nQ _ _ _) (.cons (aK _) .nil)))))))
def mX(F:Nat)(s:St)(l:List Flt):List AVal:=[.lit (.int .i64 s.cpus),.lit (.int .u64 s.credit),.rd 2 s.ng (gf s),.rd 1 s.nk (kf s),.rd 1 s.nu (uf s),.rd 8 s.nt (tf s),.rd 1 s.ns (VU s),bV F (l.map Flt.row)]
def LK(L F:Nat)(s:St)(l:List Flt):aS:=(L,⟨8,false,[mX F s l]⟩)::cA F 3 (l.map Flt.row) []
attribute [go_sem] mX LK
def gJ(b:Bool)(f:Flt):List Flt:=if b=true then [f]else []
theorem a7L(k L F:Nat)(s:St)(l:List Flt)(is:Bool)(r a b:Int)(hL:L<k)(hF:F<k)(hne:L≠F)(hl:l.length<=100000):
 Tr aA Γ 116 k [.ptr L 0 0,is,.lit (.int .u8 r),a,b] (LK L F s l) (λ k1 r1 H1=>k1=k+1/\r1= .tup []/\H1=LK L k s (l++gJ is ⟨r,a,b⟩)):=by
 obtain⟨a1,a2,a3,a4,a5,a6⟩:=dW hL;obtain⟨b1,b2,b3,b4,b5,b6⟩:=dW hF;obtain⟨c1,c2⟩:=iE hne;refine iD Tryz.func116 rfl 24 rfl bB (pS ?_);have kp:=fI k [0,1,2,3,4,10];have uU:=eQ @a1 @a2 @a3 @a4 @a5 @a6 @b1 @b2 (qQ @b3 @b4 @b5 @b6 @c1 @c2);refine wl ?_;refine dD ⟨λ ht=>zN ?_⟩ ⟨λ ht=>zN ?_⟩;.subst ht;refine⟨k+1,[],LK L k s (l++[⟨r,a,b⟩]),?_,_,rfl,rfl,rfl,by simp[gJ,LK,mX]⟩;exact lM (k+1) k (wV (eQ (@a1) (@a2) (@a3) (@a4) (@a5) (@a6) (@b1) (@b2) (qQ (@b3) (@b4) (@b5) (@b6) (@c1) (@c2))))
 subst ht;refine⟨k+1,[],LK L k s (l++[]),?_,_,rfl,rfl,rfl,by simp[gJ,LK,mX]⟩;rw[aR];exact Mv.trans (BY (F) oO) (kU (wV (eQ (@a1) (@a2) (@a3) (@a4) (@a5) (@a6) (@b1) (@b2) (qQ (@b3) (@b4) (@b5) (@b6) (@c1) (@c2)))))
theorem mF(k L F:Nat)(s:St)(l l':List Flt)(is is':Bool)(r a b:Int)(hb:is=is')(hl':l'=l++gJ is' ⟨r,a,b⟩)(hL:L<k)(hF:F<k)(hne:L≠F)(hl:l.length<=100000):
 Tr aA Γ 116 k [.ptr L 0 0,is,.lit (.int .u8 r),a,b] (LK L F s l) (λ k1 r1 H1=>k1=k+1/\r1= .tup []/\H1=LK L k s l'):=by subst hb hl';exact a7L k L F s l is r a b hL hF hne hl
def aVD(Γ:List (Nat×List AVal))(f:Nat)(s:St)(G:List Flt):Prop:=
 ∀(k L F:Nat) (l:List Flt),L<k->F<k->L≠F->l.length<=10000->Tr aA Γ f k [.ptr L 0 0] (LK L F s l) (λ k1 r1 H1=>k1=k+1/\r1= .tup []/\H1=LK L k s (l++G))
theorem iQ(l:List Flt)(b:Bool)(f:Flt):(l++gJ b f).length<=l.length+1:=by unfold gJ;split<;>simp
def pW(s:St):List Flt:=gJ ((s.nk:Int)!=s.cpus) ⟨2,0,0⟩++(gJ ((s.nu:Int)!=s.cpus) ⟨2,1,0⟩++(gJ ((s.ns:Int)!=s.ng) ⟨2,2,0⟩++(if s.ns=s.ng then bF (gY s) s.ns else [])))
theorem shape(s:St)(hs:s.Small):aVD Γ 190 s (pW s):=by
 obtain⟨hng,hnk,hnu,hnt,hns,hnsp⟩:=id hs;intro k L F l hL hF hne hl;obtain⟨a1,a2,a3,a4,a5,a6⟩:=dW hL;obtain⟨b1,b2,b3,b4,b5,b6⟩:=dW hF;obtain⟨c1,c2⟩:=iE hne;refine iD Tryz.func190 rfl 64 rfl bB (pS ?_);have kp:Kp [0,2,3,4,5,47,49,50,51,52] (λ i=>if i=L then 0 else i-k+1):=vD;have uU:=eQ @a1 @a2 @a3 @a4 @a5 @a6 @b1 @b2 (qQ @b3 @b4 @b5 @b6 @c1 @c2);refine wl ?_;refine aU (zs ?_);obtain⟨l1,e_l1,h_l1⟩:∃x,x=l++gJ ((s.nk:Int)!=s.cpus) ⟨2,0,0⟩/\x.length<=(l).length+1:=⟨_,rfl,iQ _ _ _⟩;refine cl [.gen (.tup []) (k+2) (LK (L) (F) s (l)) (LK (L) (k+1) s (l1))] ?_;refine dD (zs ?_) (zs ?_);.exact mF (k+1) (L) (F) s (l) (l1) _ ((s.nk:Int)!=s.cpus) _ _ _ (by first|rfl|(rw[aY];simp only[beq_iff_eq,bne_iff_ne,ne_eq,dTt,dFn,aC,bH,aT,beq_eq_false_iff_ne,aO,bM,true_iff,false_iff,iff_true,iff_false];omega)|(simp[hg];done)|(simp[hg,hq];done)|(simp_all;done)|(simp_all;omega)) e_l1 oO oO oO oO
 refine wl ?_;refine aU (zs ?_);obtain⟨l2,e_l2,h_l2⟩:∃x,x=l1++gJ ((s.nu:Int)!=s.cpus) ⟨2,1,0⟩/\x.length<=(l1).length+1:=⟨_,rfl,iQ _ _ _⟩;refine cl [.gen (.tup []) (k+3) (LK (L) (k+1) s (l1)) (LK (L) (k+2) s (l2))] ?_;refine dD (zs ?_) (zs ?_);.exact mF (k+2) (L) (k+1) s (l1) (l2) _ ((s.nu:Int)!=s.cpus) _ _ _ (by first|rfl|(rw[aY];simp only[beq_iff_eq,bne_iff_ne,ne_eq,dTt,dFn,aC,bH,aT,beq_eq_false_iff_ne,aO,bM,true_iff,false_iff,iff_true,iff_false];omega)|(simp[hg];done)|(simp[hg,hq];done)|(simp_all;done)|(simp_all;omega)) e_l2 oO oO oO oO
 refine wl ?_;refine aU (zs ?_);obtain⟨l3,e_l3,h_l3⟩:∃x,x=l2++gJ ((s.ns:Int)!=s.ng) ⟨2,2,0⟩/\x.length<=(l2).length+1:=⟨_,rfl,iQ _ _ _⟩;refine cl [.gen (.tup []) (k+4) (LK (L) (k+2) s (l2)) (LK (L) (k+3) s (l3))] ?_;refine dD (zs ?_) (zs ?_);.exact mF (k+3) (L) (k+2) s (l2) (l3) _ ((s.ns:Int)!=s.ng) _ _ _ (by first|rfl|(rw[aY];simp only[beq_iff_eq,bne_iff_ne,ne_eq,dTt,dFn,aC,bH,aT,beq_eq_false_iff_ne,aO,bM,true_iff,false_iff,iff_true,iff_false];omega)|(simp[hg];done)|(simp[hg,hq];done)|(simp_all;done)|(simp_all;omega)) e_l3 oO oO oO oO
 have e3:l3=l++(gJ ((s.nk:Int)!=s.cpus) ⟨2,0,0⟩++(gJ ((s.nu:Int)!=s.cpus) ⟨2,1,0⟩++gJ ((s.ns:Int)!=s.ng) ⟨2,2,0⟩)):=by rw[e_l3,e_l2,e_l1];simp
 clear e_l3 e_l2 e_l1;refine wl ?_;refine dD ⟨λ ht=>zN ?_⟩ ⟨λ ht=>zN ?_⟩
 .refine bE (X:=Nat) rfl [0,2,3,4,5,47,49,50,51,52] (k+4) (λ i=>[(51,i)]) (λ i=>(L,⟨8,false,[mX (k+3) s (l3++bF (gY s) i)]⟩)::cA (k+3) 3 ((l3++bF (gY s) i).map Flt.row) [(k,⟨7,true,[s.cells]⟩)]) (λ i=>i<=s.ns) (λ i=>s.ns-i) 0 ?_ (aJ _) ?_;.rw[dY,aR];refine rR ?_;apply zN;(have uU:=eQ @a1 @a2 @a3 @a4 @a5 @a6 @b1 @b2 (qQ @b3 @b4 @b5 @b6 @c1 @c2);exact oZ)
  intro i hi;have hfl:=cJ (zP s) i;obtain⟨l4,e4,h4⟩:∃x,x=l3++bF (gY s) i/\x.length<=l3.length+i:=⟨_,rfl,by simp;omega⟩;rw[<-e4];refine rR ?_;apply zN;refine wl ?_;refine dD ⟨λ ht=>zN ?_⟩ ⟨λ ht=>zN ?_⟩
  .obtain⟨l5,e_l5,h_l5⟩:∃x,x=l4++gJ (((s.nsp i:Nat):Int)!=s.cpus) ⟨2,3,(i:Int)⟩/\x.length<=(l4).length+1:=⟨_,rfl,iQ _ _ _⟩;refine cl [.gen (.tup []) (k+5) (LK (L) (k+3) s (l4)) (LK (L) (k+4) s (l5))] ?_;refine dD (zs ?_) (zs ?_);.exact mF (k+4) (L) (k+3) s (l4) (l5) _ (((s.nsp i:Nat):Int)!=s.cpus) _ _ _ (by first|rfl|(rw[aY];simp only[beq_iff_eq,bne_iff_ne,ne_eq,dTt,dFn,aC,bH,aT,beq_eq_false_iff_ne,aO,bM,true_iff,false_iff,iff_true,iff_false];omega)|(simp[hg];done)|(simp[hg,hq];done)|(simp_all;done)|(simp_all;omega)) e_l5 oO oO oO oO
   refine wl ?_;refine aU (zs ?_);refine⟨i+1,oO,oO,?_⟩;rw[show l3++bF (gY s) (i+1)=l5 by rw[cY,<-bL,<-e4,e_l5,gY,gJ];congr 1;by_cases hc:((s.nsp i:Nat):Int)=s.cpus<;>simp[hc]]
   refine rR ?_;apply zN;exact lM (k+4) (k+3) (wV (eQ (@a1) (@a2) (@a3) (@a4) (@a5) (@a6) (@b1) (@b2) (qQ (@b3) (@b4) (@b5) (@b6) (@c1) (@c2))))
  have hi':i=s.ns:=oO;have he:l4=l++pW s:=by rw[e4,e3,pW,if_pos oO,hi'];simp
  refine⟨k+1,[],LK L k s l4,?_,_,rfl,rfl,rfl,by rw[he];rfl⟩;exact lM (k+3) k (wV (eQ (@a1) (@a2) (@a3) (@a4) (@a5) (@a6) (@b1) (@b2) (qQ (@b3) (@b4) (@b5) (@b6) (@c1) (@c2))))
 have he:l3=l++pW s:=by rw[e3,pW,if_neg oO];simp
 refine⟨k+1,[],LK L k s l3,?_,_,rfl,rfl,rfl,by rw[he];rfl⟩;exact lM (k+3) k (wV (eQ (@a1) (@a2) (@a3) (@a4) (@a5) (@a6) (@b1) (@b2) (qQ (@b3) (@b4) (@b5) (@b6) (@c1) (@c2))))
theorem bEL(s:St)(i:Nat)(now c:Int):Pure aA Γ 244 [.agg (tf s i),.rp [now],.rp [c]] (fO s now c i):=by
 refine aZ Tryz.func244 rfl 19 rfl bB rfl λ k=>?_;have kp:=fI k [0,1,2,3,4];refine wl ?_;refine wM ⟨⟨λ hg hg=>⟨?_⟩⟩⟩ ⟨⟨λ hg hg=>⟨?_⟩⟩⟩ ⟨⟨λ hg=>⟨?_⟩⟩⟩;all_goals(refine aX rfl ⟨_,rfl,aI ?_⟩)
 all_goals(congr 2;rw[aY];simp_all [fO])
def f0(f:Nat->Bool):Nat->Option Nat
 |0=>none
 | n+1=>match f0 f n with
   |some i=>some i
   |none=>if f n=true then some n else none
theorem sU{f:Nat->Bool}:∀ {n:Nat},(∀i,i<n->f i=false)->f0 f n=none
 |0,_=>rfl
 |n+1,h=>by rw[f0,sU (λ i hi=>h i oO)];simp[h n oO]
theorem vU{f:Nat->Bool}{i:Nat}(hall:∀j,j<i->f j=false)(hi:f i=true):∀ {n:Nat},i<n->f0 f n=some i
 |0,h=>oO
 |n+1,h=>by
  rw[f0];by_cases he:i=n;.subst he;rw[sU hall];simp[hi]
  rw[vU hall hi oO]
def xF(f:Nat->Bool)(n:Nat):Int:=match f0 f n with|some i=>(i:Int)|none=> -1
theorem JQ(f:Nat->Bool)(n:Nat):decide (0<=xF f n)=jI f n:=by
 have key:∀n,(f0 f n).isSome=jI f n:=by
  intro n
  induction n with
  |zero=>rfl
  |succ n ih=>
   rw[jI,<-ih,f0]
   cases f0 f n with
   |some i=>rfl
   |none=>cases f n<;>rfl
 rw[<-key,xF];cases f0 f n<;>simp
theorem aKK(s:St)(n:Nat)(now c:Int)(hn:n<=1000):Pure aA Γ 125 [.rd 8 n (tf s),.fn 244 [.rp [now],.rp [c]]] (xF (fO s now c) n):=by
 refine aZ Tryz.func125 rfl 19 rfl bB rfl λ k=>?_;have kp:=fI k [0,1,4,5,7,8,9,16];refine wl ?_;refine aU (zs ?_);refine bE (X:=Nat) rfl [0,1,4,5,7,8,9,16] k (λ i=>[(8,i)]) (λ i=>[]) (λ i=>i<=n/\∀j,j<i->fO s now c j=false) (λ i=>n-i) 0 ?_ ⟨aJ _,λ j hj=>absurd hj (bJ _)⟩ ?_;.refine rR ?_;apply zN;exact fW
 rintro i ⟨hi,hall⟩;refine rR ?_;apply zN;refine wl ?_;refine dD ⟨λ ht=>zN ?_⟩ ⟨λ ht=>zN ?_⟩
 .refine cl [.ret (fO s now c i)] ?_;refine dD (zs ?_) (zs ?_);.exact bEL s i now c
  refine wl ?_;refine dD ⟨λ ht=>zN ?_⟩ ⟨λ ht=>zN ?_⟩;.refine aX rfl ⟨_,rfl,aI ?_⟩;rw[xF,vU hall ht oO]
  refine⟨i+1,⟨oO,λ j hj=>?_⟩,oO,?_⟩
  .by_cases he:j=i;.subst he;exact ht
   exact hall j oO
  refine rR ?_;apply zN;exact fW
 refine aX rfl ⟨_,rfl,aI ?_⟩;rw[xF,sU (λ j hj=>hall j oO)]
theorem UT(s:St)(n:Nat)(now c:Int)(hn:n<=1000):Pure aA Γ 66 [.rd 8 n (tf s),.fn 244 [.rp [now],.rp [c]]] (jI (fO s now c) n):=by
 refine aZ Tryz.func66 rfl 9 rfl bB rfl λ k=>?_;have kp:=fI k [0,1,4];refine wl ?_;refine aU (zs ?_);refine cl [.ret (xF (fO s now c) n)] ?_;refine dD (zs ?_) (zs ?_);.exact aKK s n now c hn
 refine aX rfl ⟨_,rfl,aI ?_⟩;rw[JQ]
def gO(s:St)(c:Nat):List Flt:=gJ (decide (s.clk c<0\/281474976710656<s.clk c)) ⟨3,(c:Int),0⟩
theorem dM(b:Bool)(f:Flt):(gJ b f).length<=1:=by unfold gJ;split<;>simp
def lO(s:St)(c:Nat):List Flt:=gJ (decide (s.cur c≠0)&& !(jI (fO s (s.cur c) c) s.nt)) ⟨13,(c:Int),0⟩
def sZ(s:St):List Flt:=bF (gO s) s.nk++bF (lO s) s.nu
theorem a5C(s:St)(hs:s.Small):aVD Γ 191 s (sZ s):=by
 obtain⟨hng,hnk,hnu,hnt,hns,hnsp⟩:=id hs;intro k L F l hL hF hne hl;obtain⟨a1,a2,a3,a4,a5,a6⟩:=dW hL;obtain⟨b1,b2,b3,b4,b5,b6⟩:=dW hF;obtain⟨c1,c2⟩:=iE hne;refine iD Tryz.func191 rfl 56 rfl bB (pS ?_);refine dI (BY F oO) ?_;have uU:=eQ @a1 @a2 @a3 @a4 @a5 @a6 @b1 @b2 (qQ @b3 @b4 @b5 @b6 @c1 @c2);refine rR ?_;apply zN;refine bY rfl ?_;refine bY rfl ?_;have kp:Kp [0,2,3,4,5,6,11,12,13,14,32,33,34,35] (λ i=>if i=L then 0 else i-k+1):=vD;refine wl ?_;refine aU (zs ?_);refine bE (X:=Nat) rfl [0,2,3,4,5,6,11,12,13,14,32,33,34,35] (k+1) (λ i=>[(13,i)]) (λ i=>LK L k s (l++bF (gO s) i)) (λ i=>i<=s.nk) (λ i=>s.nk-i) 0 ?_ (aJ _) ?_;.rw[dY,aR];refine rR ?_;apply zN;(have uU:=eQ @a1 @a2 @a3 @a4 @a5 @a6 @b1 @b2 (qQ @b3 @b4 @b5 @b6 @c1 @c2);exact oZ)
 intro i hi;have hfl:=cJ (λ c=>dM _ _) (f:=gO s) i;obtain⟨l4,e4,h4⟩:∃x,x=l++bF (gO s) i/\x.length<=l.length+i:=⟨_,rfl,by simp;omega⟩;rw[<-e4];refine rR ?_;apply zN;refine wl ?_;refine dD ⟨λ ht=>zN ?_⟩ ⟨λ ht=>zN ?_⟩
 .obtain⟨l5,e_l5,h_l5⟩:∃x,x=l4++gJ (decide (s.clk i<0\/281474976710656<s.clk i)) ⟨3,(i:Int),0⟩/\x.length<=(l4).length+1:=⟨_,rfl,iQ _ _ _⟩;refine lY [0,2,3,4,5,6,11,12,13,14,32,33,34,35] (k+2) [] ((L,⟨8,false,[mX (k+1) s (l5)]⟩)::cA (k+1) 3 ((l5).map Flt.row) []) ?_ ?_;.refine cl [.gen (.tup []) (k+2) (LK (L) (k) s (l4)) (LK (L) (k+1) s (l5))] ?_;refine DT ⟨⟨λ hg=>⟨?_⟩⟩⟩ ⟨⟨λ hg=>⟨?_⟩⟩⟩ ⟨⟨λ hg=>⟨?_⟩⟩⟩ ⟨⟨λ hg=>⟨?_⟩⟩⟩;all_goals(first|(exact mF (k+1) (L) (k) s (l4) (l5) _ (decide (s.clk i<0\/281474976710656<s.clk i)) _ _ _ (by first|rfl|(rw[aY];simp only[beq_iff_eq,bne_iff_ne,ne_eq,dTt,dFn,aC,bH,aT,beq_eq_false_iff_ne,aO,bM,true_iff,false_iff,iff_true,iff_false];omega)|(simp[hg];done)|(simp[hg,hq];done)|(simp_all;done)|(simp_all;omega)) e_l5 oO oO oO oO)|((have uU:=eQ @a1 @a2 @a3 @a4 @a5 @a6 @b1 @b2 (qQ @b3 @b4 @b5 @b6 @c1 @c2);exact oZ)))
  refine rR ?_;apply zN;refine wl ?_;refine aU (zs ?_);refine⟨i+1,oO,oO,?_⟩;rw[show l++bF (gO s) (i+1)=l5 by rw[cY,<-bL,<-e4,e_l5];rfl];refine rR ?_;apply zN;exact lM (k+1) k (wV (eQ (@a1) (@a2) (@a3) (@a4) (@a5) (@a6) (@b1) (@b2) (qQ (@b3) (@b4) (@b5) (@b6) (@c1) (@c2))))
 have hi':i=s.nk:=oO;subst hi';have h4':l4.length<=11000:=oO;refine bE (X:=Nat) rfl [0,2,3,4,5,6,11,12,13,14,32,33,34,35] (k+1) (λ i=>[(34,i)]) (λ i=>LK L k s (l4++bF (lO s) i)) (λ i=>i<=s.nu) (λ i=>s.nu-i) 0 ?_ (aJ _) ?_;.rw[dY,aR];refine rR ?_;apply zN;(have uU:=eQ @a1 @a2 @a3 @a4 @a5 @a6 @b1 @b2 (qQ @b3 @b4 @b5 @b6 @c1 @c2);exact oZ)
 intro i hi;have hfl:=cJ (λ c=>dM _ _) (f:=lO s) i;obtain⟨l6,e6,h6⟩:∃x,x=l4++bF (lO s) i/\x.length<=l4.length+i:=⟨_,rfl,by simp;omega⟩;rw[<-e6];refine rR ?_;apply zN;refine wl ?_;refine dD ⟨λ ht=>zN ?_⟩ ⟨λ ht=>zN ?_⟩
 .refine dI (dJ (k+1) (by simp-dsimp-implicitDefEqProofs only[go_sem,a1,a2,a3,a4,a5,a6,b1,b2,b3,b4,b5,b6,c1,c2,eq_self,↓reduceIte];rfl) rfl) ?_;simp-dsimp-implicitDefEqProofs only[kX,fE,go_sem,a1,a2,a3,a4,a5,a6,b1,b2,b3,b4,b5,b6,c1,c2,eq_self,↓reduceIte];refine dI (dJ (k+2) (by simp-dsimp-implicitDefEqProofs only[go_sem,a1,a2,a3,a4,a5,a6,b1,b2,b3,b4,b5,b6,c1,c2,eq_self,↓reduceIte];rfl) rfl) ?_;simp-dsimp-implicitDefEqProofs only[kX,fE,go_sem,a1,a2,a3,a4,a5,a6,b1,b2,b3,b4,b5,b6,c1,c2,eq_self,↓reduceIte];obtain⟨l7,e_l7,h_l7⟩:∃x,x=l6++gJ (decide (s.cur i≠0)&& !(jI (fO s (s.cur i) i) s.nt)) ⟨13,(i:Int),0⟩/\x.length<=(l6).length+1:=⟨_,rfl,iQ _ _ _⟩;refine lY [0,2,3,4,5,6,11,12,13,14,32,33,34,35] (k+4) [] ((L,⟨8,false,[mX (k+3) s (l7)]⟩)::cA (k+3) 3 ((l7).map Flt.row) []) ?_ ?_;.refine dl [.ret (jI (fO s (s.cur i) i) s.nt),.gen (.tup []) (k+4) (LK (L) (k) s (l6)) (LK (L) (k+3) s (l7))] ?_;refine zq5 ⟨⟨λ hg=>⟨?_⟩⟩⟩ ⟨⟨λ hg=>⟨?_⟩⟩⟩ ⟨⟨λ hg=>⟨?_⟩⟩⟩ ⟨⟨λ hg=>⟨?_⟩⟩⟩ ⟨⟨λ hg=>⟨?_⟩⟩⟩;all_goals(first|(exact mF (k+3) (L) (k) s (l6) (l7) _ (decide (s.cur i≠0)&& !(jI (fO s (s.cur i) i) s.nt)) _ _ _ (by first|rfl|(rw[aY];simp only[beq_iff_eq,bne_iff_ne,ne_eq,dTt,dFn,aC,bH,aT,beq_eq_false_iff_ne,aO,bM,true_iff,false_iff,iff_true,iff_false];omega)|(simp[hg];done)|(simp[hg,hq];done)|(simp_all;done)|(simp_all;omega)) e_l7 oO oO oO oO)|(exact UT s s.nt (s.cur i) i hnt)|((have uU:=eQ @a1 @a2 @a3 @a4 @a5 @a6 @b1 @b2 (qQ @b3 @b4 @b5 @b6 @c1 @c2);exact oZ)))
  refine rR ?_;apply zN;refine wl ?_;refine aU (zs ?_);refine⟨i+1,oO,oO,?_⟩;rw[show l4++bF (lO s) (i+1)=l7 by rw[cY,<-bL,<-e6,e_l7];rfl];refine rR ?_;apply zN;exact lM (k+3) k (wV (eQ (@a1) (@a2) (@a3) (@a4) (@a5) (@a6) (@b1) (@b2) (qQ (@b3) (@b4) (@b5) (@b6) (@c1) (@c2))))
 have hi':i=s.nu:=oO;subst hi';have he:l6=l++sZ s:=by rw[e6,e4,sZ];simp
 refine⟨k+1,[],LK L k s l6,?_,_,rfl,rfl,rfl,by rw[he];rfl⟩;(have uU:=eQ @a1 @a2 @a3 @a4 @a5 @a6 @b1 @b2 (qQ @b3 @b4 @b5 @b6 @c1 @c2);exact oZ)
def onB(s:St)(i:Nat):Bool:=decide (0<=(s.tsk i).cpu/\(s.tsk i).cpu<s.cpus)
def XM(x:Int):Int:=if 0>x then 0 else x
def shr(m c:Int):Int:=m.fdiv (2^min c.toNat 64)
def a5K(m:Int):Int:=bN.wrap (BitVec.ofInt bN.bits m&&&BitVec.ofInt bN.bits 1).toNat
def t4(s:St)(i:Nat):Bool:=decide (0<(i:Int))&&decide ((s.tsk i).id<=(s.tsk (i-1)).id)
def t5(s:St)(i:Nat):Bool:=decide ((s.tsk i).id<1\/65535<(s.tsk i).id)
def t6(s:St)(i:Nat):Bool:=decide ((s.tsk i).group<0\/(s.ng:Int)<=(s.tsk i).group)
def t7(s:St)(i:Nat):Bool:= !(onB s i)
def t8(s:St)(i:Nat):Bool:=decide (s.cpus<64)&&decide (0<shr (s.tsk i).mask s.cpus)
def t9(s:St)(i:Nat):Bool:=onB s i&&(a5K (shr (s.tsk i).mask (XM (s.tsk i).cpu))==0)
def t10(s:St)(i:Nat):Bool:= !(yP (s.tsk i).v (s.tsk i).r (s.tsk i).weight)
def tQ(s:St)(i:Nat):List Flt:=gJ (t4 s i) ⟨4,(i:Int),0⟩++(gJ (t5 s i) ⟨5,(i:Int),0⟩++(gJ (t6 s i) ⟨6,(i:Int),0⟩++(gJ (t7 s i) ⟨7,(i:Int),0⟩++(gJ (t8 s i) ⟨8,(i:Int),0⟩++(gJ (t9 s i) ⟨9,(i:Int),0⟩++gJ (t10 s i) ⟨10,(i:Int),0⟩)))))
theorem KJ(s:St)(i:Nat):(tQ s i).length<=7:=by have h:=λ b f=>dM b f;simp only[tQ,bQ];have:=h (t4 s i) ⟨4,(i:Int),0⟩;have:=h (t5 s i) ⟨5,(i:Int),0⟩;have:=h (t6 s i) ⟨6,(i:Int),0⟩;have:=h (t7 s i) ⟨7,(i:Int),0⟩;have:=h (t8 s i) ⟨8,(i:Int),0⟩;have:=h (t9 s i) ⟨9,(i:Int),0⟩;have:=h (t10 s i) ⟨10,(i:Int),0⟩;omega
def yB(s:St):List Flt:=bF (tQ s) s.nt
theorem a6O(s:St)(hs:s.Small)(hc:0<=s.cpus):aVD Γ 192 s (yB s):=by
 obtain⟨hng,hnk,hnu,hnt,hns,hnsp⟩:=id hs;intro k L F l hL hF hne hl;obtain⟨a1,a2,a3,a4,a5,a6⟩:=dW hL;obtain⟨b1,b2,b3,b4,b5,b6⟩:=dW hF;obtain⟨c1,c2⟩:=iE hne;refine iD Tryz.func192 rfl 125 rfl bB (pS ?_);refine dI (BY F oO) ?_;have uU:=eQ @a1 @a2 @a3 @a4 @a5 @a6 @b1 @b2 (qQ @b3 @b4 @b5 @b6 @c1 @c2);refine rR ?_;apply zN;have kp:Kp [0,2,3,4,5,16,17,18,19] (λ i=>if i=L then 0 else i-k+1):=vD;refine wl ?_;refine aU (zs ?_);refine bE (X:=Nat) rfl [0,2,3,4,5,16,17,18,19] (k+1) (λ i=>[(18,i)]) (λ i=>LK L k s (l++bF (tQ s) i)) (λ i=>i<=s.nt) (λ i=>s.nt-i) 0 ?_ (aJ _) ?_;.rw[dY,aR];refine rR ?_;apply zN;(have uU:=eQ @a1 @a2 @a3 @a4 @a5 @a6 @b1 @b2 (qQ @b3 @b4 @b5 @b6 @c1 @c2);exact oZ)
 intro i hi;have hfl:=cJ (KJ s) i;obtain⟨l0,e0,h0⟩:∃x,x=l++bF (tQ s) i/\x.length<=l.length+i*7:=⟨_,rfl,by simp;omega⟩;rw[<-e0];refine rR ?_;apply zN;refine wl ?_;refine wM ⟨λ ht=>⟨λ hg=>⟨?_⟩⟩⟩ ⟨λ ht=>⟨λ hg=>⟨?_⟩⟩⟩ ⟨λ ht=>zN ?_⟩;rotate_right
 .have hi':i=s.nt:=oO;subst hi';refine⟨k+1,[],LK L k s l0,?_,_,rfl,rfl,rfl,by rw[e0];rfl⟩;(have uU:=eQ @a1 @a2 @a3 @a4 @a5 @a6 @b1 @b2 (qQ @b3 @b4 @b5 @b6 @c1 @c2);exact oZ)
 all_goals
  have hq:=hg
  have hw1:aN.wrap ((i:Int)-1)=(i:Int)-1:=wrap_i64 oO oO
  have hmx:(if(0:Int)>(i:Int)-1 then(0:Int)else(i:Int)-1)=((i-1:Nat):Int):=by split<;>omega
  obtain⟨l1,e_l1,h_l1⟩:∃x,x=l0++gJ (decide (0<(i:Int))&&decide ((s.tsk i).id<=(s.tsk (i-1)).id)) ⟨4,(i:Int),0⟩/\x.length<=(l0).length+1:=⟨_,rfl,iQ _ _ _⟩
  refine lY [0,2,3,4,5,16,17,18,19] (k+3) [] ((L,⟨8,false,[mX (k+2) s (l1)]⟩)::cA (k+2) 3 ((l1).map Flt.row) [(k+1,⟨8,true,[tf s i]⟩)]) ?_ ?_
  · have uU:=eQ @a1 @a2 @a3 @a4 @a5 @a6 @b1 @b2 (qW @b3 @b4 @b5 @b6 @c1 @c2 @hw1 @hmx)
    refine dl [.gen (.tup []) (k+3) (LK (L) (k) s (l0)) (LK (L) (k+2) s (l1))] ?_;refine DT ⟨⟨λ hg=>⟨?_⟩⟩⟩ ⟨⟨λ hg=>⟨?_⟩⟩⟩ ⟨⟨λ hg=>⟨?_⟩⟩⟩ ⟨⟨λ hg=>⟨?_⟩⟩⟩
    all_goals(first|(exact mF (k+2) (L) (k) s (l0) (l1) _ (decide (0<(i:Int))&&decide ((s.tsk i).id<=(s.tsk (i-1)).id)) _ _ _ (by first|rfl|(rw[aY];simp only[beq_iff_eq,bne_iff_ne,ne_eq,dTt,dFn,aC,bH,aT,beq_eq_false_iff_ne,aO,bM,true_iff,false_iff,iff_true,iff_false];omega)|(simp[hg];done)|(simp[hg,hq];done)|(simp_all;done)|(simp_all;omega)) e_l1 oO oO oO oO)|((have uU:=eQ @a1 @a2 @a3 @a4 @a5 @a6 @b1 @b2 (qW @b3 @b4 @b5 @b6 @c1 @c2 @hw1 @hmx);exact oZ)))
  have uU:=eQ @a1 @a2 @a3 @a4 @a5 @a6 @b1 @b2 (qW @b3 @b4 @b5 @b6 @c1 @c2 @hw1 @hmx)
  refine rR ?_;apply zN
  have hcn:(s.cpus<0)=False:=by simp;omega
  have hm0:(if(0:Int)>(s.tsk i).cpu then(0:Int)else(s.tsk i).cpu)=XM (s.tsk i).cpu:=rfl
  have hm1:(XM (s.tsk i).cpu<0)=False:=by simp[XM];split<;>omega
  refine bY rfl ?_
  obtain⟨l2,e_l2,h_l2⟩:∃x,x=l1++gJ (decide ((s.tsk i).id<1\/65535<(s.tsk i).id)) ⟨5,(i:Int),0⟩/\x.length<=(l1).length+1:=⟨_,rfl,iQ _ _ _⟩
  refine lY [0,2,3,4,5,16,17,18,19] (k+4) [] ((L,⟨8,false,[mX (k+3) s (l2)]⟩)::cA (k+3) 3 ((l2).map Flt.row) [(k+1,⟨8,true,[tf s i]⟩)]) ?_ ?_
  · have uU:=eQ @a1 @a2 @a3 @a4 @a5 @a6 @b1 @b2 (eQ @b3 @b4 @b5 @b6 @c1 @c2 @hcn @hm0 @hm1)
    refine cl [.gen (.tup []) (k+4) (LK (L) (k+2) s (l1)) (LK (L) (k+3) s (l2))] ?_;refine DT ⟨⟨λ hg=>⟨?_⟩⟩⟩ ⟨⟨λ hg=>⟨?_⟩⟩⟩ ⟨⟨λ hg=>⟨?_⟩⟩⟩ ⟨⟨λ hg=>⟨?_⟩⟩⟩
    all_goals(first|(exact mF (k+3) (L) (k+2) s (l1) (l2) _ (decide ((s.tsk i).id<1\/65535<(s.tsk i).id)) _ _ _ (by first|rfl|(rw[aY];simp only[beq_iff_eq,bne_iff_ne,ne_eq,dTt,dFn,aC,bH,aT,beq_eq_false_iff_ne,aO,bM,true_iff,false_iff,iff_true,iff_false];omega)|(simp[hg];done)|(simp[hg,hq];done)|(simp_all;done)|(simp_all;omega)) e_l2 oO oO oO oO)|((have uU:=eQ @a1 @a2 @a3 @a4 @a5 @a6 @b1 @b2 (eQ @b3 @b4 @b5 @b6 @c1 @c2 @hcn @hm0 @hm1);exact oZ)))
  have uU:=eQ @a1 @a2 @a3 @a4 @a5 @a6 @b1 @b2 (eQ @b3 @b4 @b5 @b6 @c1 @c2 @hcn @hm0 @hm1)
  refine rR ?_;apply zN
  refine bY rfl ?_
  obtain⟨l3,e_l3,h_l3⟩:∃x,x=l2++gJ (decide ((s.tsk i).group<0\/(s.ng:Int)<=(s.tsk i).group)) ⟨6,(i:Int),0⟩/\x.length<=(l2).length+1:=⟨_,rfl,iQ _ _ _⟩
  refine lY [0,2,3,4,5,16,17,18,19] (k+5) [] ((L,⟨8,false,[mX (k+4) s (l3)]⟩)::cA (k+4) 3 ((l3).map Flt.row) [(k+1,⟨8,true,[tf s i]⟩)]) ?_ ?_
  · refine dl [.gen (.tup []) (k+5) (LK (L) (k+3) s (l2)) (LK (L) (k+4) s (l3))] ?_;refine DT ⟨⟨λ hg=>⟨?_⟩⟩⟩ ⟨⟨λ hg=>⟨?_⟩⟩⟩ ⟨⟨λ hg=>⟨?_⟩⟩⟩ ⟨⟨λ hg=>⟨?_⟩⟩⟩
    all_goals(first|(exact mF (k+4) (L) (k+3) s (l2) (l3) _ (decide ((s.tsk i).group<0\/(s.ng:Int)<=(s.tsk i).group)) _ _ _ (by first|rfl|(rw[aY];simp only[beq_iff_eq,bne_iff_ne,ne_eq,dTt,dFn,aC,bH,aT,beq_eq_false_iff_ne,aO,bM,true_iff,false_iff,iff_true,iff_false];omega)|(simp[hg];done)|(simp[hg,hq];done)|(simp_all;done)|(simp_all;omega)) e_l3 oO oO oO oO)|((have uU:=eQ @a1 @a2 @a3 @a4 @a5 @a6 @b1 @b2 (eQ @b3 @b4 @b5 @b6 @c1 @c2 @hcn @hm0 @hm1);exact oZ)))
  refine rR ?_;apply zN
  refine bY rfl ?_
  obtain⟨l4,e_l4,h_l4⟩:∃x,x=l3++gJ (!(decide (0<=(s.tsk i).cpu/\(s.tsk i).cpu<s.cpus))) ⟨7,(i:Int),0⟩/\x.length<=(l3).length+1:=⟨_,rfl,iQ _ _ _⟩
  refine lY [0,2,3,4,5,16,17,18,19] (k+6) [] ((L,⟨8,false,[mX (k+5) s (l4)]⟩)::cA (k+5) 3 ((l4).map Flt.row) [(k+1,⟨8,true,[tf s i]⟩)]) ?_ ?_
  · refine cl [.gen (.tup []) (k+6) (LK (L) (k+4) s (l3)) (LK (L) (k+5) s (l4))] ?_;refine dD (zs ?_) (zs ?_)
    all_goals(first|(exact mF (k+5) (L) (k+4) s (l3) (l4) _ (!(decide (0<=(s.tsk i).cpu/\(s.tsk i).cpu<s.cpus))) _ _ _ (by first|rfl|(rw[aY];simp only[beq_iff_eq,bne_iff_ne,ne_eq,dTt,dFn,aC,bH,aT,beq_eq_false_iff_ne,aO,bM,true_iff,false_iff,iff_true,iff_false];omega)|(simp[hg];done)|(simp[hg,hq];done)|(simp_all;done)|(simp_all;omega)) e_l4 oO oO oO oO)|((have uU:=eQ @a1 @a2 @a3 @a4 @a5 @a6 @b1 @b2 (eQ @b3 @b4 @b5 @b6 @c1 @c2 @hcn @hm0 @hm1);exact oZ)))
  refine rR ?_;apply zN
  refine bY rfl ?_
  obtain⟨l5,e_l5,h_l5⟩:∃x,x=l4++gJ (decide (s.cpus<64)&&decide (0<(s.tsk i).mask.fdiv (2^min s.cpus.toNat 64))) ⟨8,(i:Int),0⟩/\x.length<=(l4).length+1:=⟨_,rfl,iQ _ _ _⟩
  refine lY [0,2,3,4,5,16,17,18,19] (k+7) [] ((L,⟨8,false,[mX (k+6) s (l5)]⟩)::cA (k+6) 3 ((l5).map Flt.row) [(k+1,⟨8,true,[tf s i]⟩)]) ?_ ?_
  · refine cl [.gen (.tup []) (k+7) (LK (L) (k+5) s (l4)) (LK (L) (k+6) s (l5))] ?_;refine DT ⟨⟨λ hg=>⟨?_⟩⟩⟩ ⟨⟨λ hg=>⟨?_⟩⟩⟩ ⟨⟨λ hg=>⟨?_⟩⟩⟩ ⟨⟨λ hg=>⟨?_⟩⟩⟩
    all_goals(first|(exact mF (k+6) (L) (k+5) s (l4) (l5) _ (decide (s.cpus<64)&&decide (0<(s.tsk i).mask.fdiv (2^min s.cpus.toNat 64))) _ _ _ (by first|rfl|(rw[aY];simp only[beq_iff_eq,bne_iff_ne,ne_eq,dTt,dFn,aC,bH,aT,beq_eq_false_iff_ne,aO,bM,true_iff,false_iff,iff_true,iff_false];omega)|(simp[hg];done)|(simp[hg,hq];done)|(simp_all;done)|(simp_all;omega)) e_l5 oO oO oO oO)|((have uU:=eQ @a1 @a2 @a3 @a4 @a5 @a6 @b1 @b2 (eQ @b3 @b4 @b5 @b6 @c1 @c2 @hcn @hm0 @hm1);exact oZ)))
  refine rR ?_;apply zN
  refine bY rfl ?_
  obtain⟨l6,e_l6,h_l6⟩:∃x,x=l5++gJ (decide (0<=(s.tsk i).cpu/\(s.tsk i).cpu<s.cpus)&&(bN.wrap (BitVec.ofInt bN.bits ((s.tsk i).mask.fdiv (2^min (XM (s.tsk i).cpu).toNat 64))&&&BitVec.ofInt bN.bits 1).toNat==0)) ⟨9,(i:Int),0⟩/\x.length<=(l5).length+1:=⟨_,rfl,iQ _ _ _⟩
  refine lY [0,2,3,4,16,17,18,19] (k+8) [] ((L,⟨8,false,[mX (k+7) s (l6)]⟩)::cA (k+7) 3 ((l6).map Flt.row) [(k+1,⟨8,true,[tf s i]⟩)]) ?_ ?_
  · refine cl [.gen (.tup []) (k+8) (LK (L) (k+6) s (l5)) (LK (L) (k+7) s (l6))] ?_<;>and_intros<;>first|exact iH|(apply zM;(repeat intro ht);apply zM;(repeat intro hg);apply zM)
    all_goals(first|(exact mF (k+7) (L) (k+6) s (l5) (l6) _ (decide (0<=(s.tsk i).cpu/\(s.tsk i).cpu<s.cpus)&&(bN.wrap (BitVec.ofInt bN.bits ((s.tsk i).mask.fdiv (2^min (XM (s.tsk i).cpu).toNat 64))&&&BitVec.ofInt bN.bits 1).toNat==0)) _ _ _ (by first|rfl|(rw[aY];simp only[beq_iff_eq,bne_iff_ne,ne_eq,dTt,dFn,aC,bH,aT,beq_eq_false_iff_ne,aO,bM,true_iff,false_iff,iff_true,iff_false];omega)|(simp[hg];done)|(simp[hg,hq];done)|(simp_all;done)|(simp_all;omega)) e_l6 oO oO oO oO)|((have uU:=eQ @a1 @a2 @a3 @a4 @a5 @a6 @b1 @b2 (eQ @b3 @b4 @b5 @b6 @c1 @c2 @hcn @hm0 @hm1);exact oZ)))
  refine rR ?_;apply zN
  obtain⟨l7,e_l7,h_l7⟩:∃x,x=l6++gJ (!(yP (s.tsk i).v (s.tsk i).r (s.tsk i).weight)) ⟨10,(i:Int),0⟩/\x.length<=(l6).length+1:=⟨_,rfl,iQ _ _ _⟩
  refine lY [0,2,3,4,5,16,17,18,19] (k+9) [] ((L,⟨8,false,[mX (k+8) s (l7)]⟩)::cA (k+8) 3 ((l7).map Flt.row) [(k+1,⟨8,true,[tf s i]⟩)]) ?_ ?_
  · refine cl [.ret (yP (s.tsk i).v (s.tsk i).r (s.tsk i).weight),.gen (.tup []) (k+9) (LK (L) (k+7) s (l6)) (LK (L) (k+8) s (l7))] ?_;refine wM (zs ?_) (zs ?_) (zs ?_)
    all_goals(first|(exact mF (k+8) (L) (k+7) s (l6) (l7) _ (!(yP (s.tsk i).v (s.tsk i).r (s.tsk i).weight)) _ _ _ (by first|rfl|(rw[aY];simp only[beq_iff_eq,bne_iff_ne,ne_eq,dTt,dFn,aC,bH,aT,beq_eq_false_iff_ne,aO,bM,true_iff,false_iff,iff_true,iff_false];omega)|(simp[hg];done)|(simp[hg,hq];done)|(simp_all;done)|(simp_all;omega)) e_l7 oO oO oO oO)|(exact aSD (s.tsk i).v (s.tsk i).r (s.tsk i).weight)|((have uU:=eQ @a1 @a2 @a3 @a4 @a5 @a6 @b1 @b2 (eQ @b3 @b4 @b5 @b6 @c1 @c2 @hcn @hm0 @hm1);exact oZ)))
  refine rR ?_;apply zN
  refine wl ?_;refine aU (zs ?_)
  refine⟨i+1,oO,oO,?_⟩
  rw[show l++bF (tQ s) (i+1)=l7 by rw[cY,<-bL,<-e0,e_l7,e_l6,e_l5,e_l4,e_l3,e_l2,e_l1];simp only[bL];rfl]
  refine rR ?_;apply zN
  exact lM (k+8) k (wV (eQ (@a1) (@a2) (@a3) (@a4) (@a5) (@a6) (@b1) (@b2) (eQ (@b3) (@b4) (@b5) (@b6) (@c1) (@c2) (@hcn) (@hm0) (@hm1))))
def tS(s:St)(g c:Nat):List Flt:=if g=0 then gJ (decide ((s.sp g c).v≠0\/(s.sp g c).r≠0)) ⟨12,(c:Int),0⟩else gJ (!(yP (s.sp g c).v (s.sp g c).r (s.wt g))) ⟨11,(g:Int),(c:Int)⟩
theorem CP(s:St)(g c:Nat):(tS s g c).length<=1:=by unfold tS;split<;>exact dM _ _
def sQ(s:St)(g:Nat):List Flt:=bF (tS s g) (s.nsp g)
def zO(s:St):List Flt:=bF (sQ s) s.ns
theorem mZ{f:Nat->List Flt}{m:Nat}:∀n,(∀i,i<n->(f i).length<=m)->(bF f n).length<=n*m
 |0,_=>by simp[bF]
 |n+1,h=>by have:=mZ n (λ i hi=>h i oO);have:=h n oO;simp only[bF,bQ,cX,aMJ];omega
theorem a6Q(s:St)(hs:s.Small)(hg:s.ns<=s.ng)(h12:s.ns<=12)(hp12:∀g,g<s.ns->s.nsp g<=12):aVD Γ 193 s (zO s):=by
 obtain⟨hng,hnk,hnu,hnt,hns,hnsp⟩:=id hs;intro k L F l hL hF hne hl;obtain⟨a1,a2,a3,a4,a5,a6⟩:=dW hL;obtain⟨b1,b2,b3,b4,b5,b6⟩:=dW hF;obtain⟨c1,c2⟩:=iE hne;refine iD Tryz.func193 rfl 59 rfl bB (pS ?_);refine dI (BY F oO) ?_;have uU:=eQ @a1 @a2 @a3 @a4 @a5 @a6 @b1 @b2 (qQ @b3 @b4 @b5 @b6 @c1 @c2);refine rR ?_;apply zN;have kp:Kp [0,2,3,4,5,10,11,12,13,17,18,19,20,25] (λ i=>if i=L then 0 else i-k+1):=vD;refine wl ?_;refine aU (zs ?_);refine bE (X:=Nat) rfl [0,2,3,4,5,10,11,12,13,17,18,19,20,25] (k+1) (λ i=>[(12,i)]) (λ i=>LK L k s (l++bF (sQ s) i)) (λ i=>i<=s.ns) (λ i=>s.ns-i) 0 ?_ (aJ _) ?_;.rw[dY,aR];refine rR ?_;apply zN;(have uU:=eQ @a1 @a2 @a3 @a4 @a5 @a6 @b1 @b2 (qQ @b3 @b4 @b5 @b6 @c1 @c2);exact oZ)
 intro g hg2;have hfl:=mZ (f:=sQ s) (m:=12) g (λ i hi=>by have:=cJ (CP s i) (s.nsp i);have:=hp12 i oO;unfold sQ;omega);obtain⟨l0,e0,h0⟩:∃x,x=l++bF (sQ s) g/\x.length<=l.length+g*12:=⟨_,rfl,by simp;omega⟩;rw[<-e0];refine rR ?_;apply zN;refine wl ?_;refine dD ⟨λ ht=>zN ?_⟩ ⟨λ ht=>zN ?_⟩
 .have hpg:s.nsp g<=12:=hp12 g oO;refine bE (X:=Nat) rfl [0,2,3,4,5,10,11,12,13,17,18,19,20,25] (k+1) (λ c=>[(19,c)]) (λ c=>LK L k s (l0++bF (tS s g) c)) (λ c=>c<=s.nsp g) (λ c=>s.nsp g-c) 0 ?_ (aJ _) ?_;.rw[dY,aR];refine rR ?_;apply zN;(have uU:=eQ @a1 @a2 @a3 @a4 @a5 @a6 @b1 @b2 (qQ @b3 @b4 @b5 @b6 @c1 @c2);exact oZ)
  intro c hc;have hfc:=cJ (CP s g) c;obtain⟨l1,e1,h1⟩:∃x,x=l0++bF (tS s g) c/\x.length<=l0.length+c:=⟨_,rfl,by simp;omega⟩;rw[<-e1];refine rR ?_;apply zN;refine wl ?_;refine wM ⟨λ ht ht=>zN ?_⟩ ⟨λ ht ht=>zN ?_⟩ ⟨λ ht=>zN ?_⟩
  .have hg0:g=0:=oO;obtain⟨l2,e_l2,h_l2⟩:∃x,x=l1++gJ (decide ((s.sp g c).v≠0\/(s.sp g c).r≠0)) ⟨12,(c:Int),0⟩/\x.length<=(l1).length+1:=⟨_,rfl,iQ _ _ _⟩;refine lY [0,2,3,4,5,10,11,12,13,17,18,19,20,25] (k+3) [] ((L,⟨8,false,[mX (k+2) s (l2)]⟩)::cA (k+2) 3 ((l2).map Flt.row) [(k+1,⟨3,true,[sf s g c]⟩)]) ?_ ?_;.refine cl [.gen (.tup []) (k+3) (LK (L) (k) s (l1)) (LK (L) (k+2) s (l2))] ?_;refine DT ⟨⟨λ hg=>⟨?_⟩⟩⟩ ⟨⟨λ hg=>⟨?_⟩⟩⟩ ⟨⟨λ hg=>⟨?_⟩⟩⟩ ⟨⟨λ hg=>⟨?_⟩⟩⟩;all_goals(first|(exact mF (k+2) (L) (k) s (l1) (l2) _ (decide ((s.sp g c).v≠0\/(s.sp g c).r≠0)) _ _ _ (by first|rfl|(rw[aY];simp only[beq_iff_eq,bne_iff_ne,ne_eq,dTt,dFn,aC,bH,aT,beq_eq_false_iff_ne,aO,bM,true_iff,false_iff,iff_true,iff_false];omega)|(simp[hg];done)|(simp[hg,hq];done)|(simp_all;done)|(simp_all;omega)) e_l2 oO oO oO oO)|((have uU:=eQ @a1 @a2 @a3 @a4 @a5 @a6 @b1 @b2 (qQ @b3 @b4 @b5 @b6 @c1 @c2);exact oZ)))
   refine rR ?_;apply zN;refine wl ?_;refine aU (zs ?_);refine⟨c+1,oO,oO,?_⟩;rw[show l0++bF (tS s g) (c+1)=l2 by rw[cY,<-bL,<-e1,e_l2,tS,if_pos hg0]]
   refine rR ?_;apply zN;exact lM (k+2) k (wV (eQ (@a1) (@a2) (@a3) (@a4) (@a5) (@a6) (@b1) (@b2) (qQ (@b3) (@b4) (@b5) (@b6) (@c1) (@c2))))
  .have hg0:¬g=0:=oO;obtain⟨l2,e_l2,h_l2⟩:∃x,x=l1++gJ (!(yP (s.sp g c).v (s.sp g c).r (s.wt g))) ⟨11,(g:Int),(c:Int)⟩/\x.length<=(l1).length+1:=⟨_,rfl,iQ _ _ _⟩;refine lY [0,2,3,4,5,10,11,12,13,17,18,19,20,25] (k+3) [] ((L,⟨8,false,[mX (k+2) s (l2)]⟩)::cA (k+2) 3 ((l2).map Flt.row) [(k+1,⟨3,true,[sf s g c]⟩)]) ?_ ?_;.refine dl [.ret (yP (s.sp g c).v (s.sp g c).r (s.wt g)),.gen (.tup []) (k+3) (LK (L) (k) s (l1)) (LK (L) (k+2) s (l2))] ?_;refine wM (zs ?_) (zs ?_) (zs ?_);all_goals(first|(exact mF (k+2) (L) (k) s (l1) (l2) _ (!(yP (s.sp g c).v (s.sp g c).r (s.wt g))) _ _ _ (by first|rfl|(rw[aY];simp only[beq_iff_eq,bne_iff_ne,ne_eq,dTt,dFn,aC,bH,aT,beq_eq_false_iff_ne,aO,bM,true_iff,false_iff,iff_true,iff_false];omega)|(simp[hg];done)|(simp[hg,hq];done)|(simp_all;done)|(simp_all;omega)) e_l2 oO oO oO oO)|(exact aSD (s.sp g c).v (s.sp g c).r (s.wt g))|((have uU:=eQ @a1 @a2 @a3 @a4 @a5 @a6 @b1 @b2 (qQ @b3 @b4 @b5 @b6 @c1 @c2);exact oZ)))
   refine rR ?_;apply zN;refine wl ?_;refine aU (zs ?_);refine⟨c+1,oO,oO,?_⟩;rw[show l0++bF (tS s g) (c+1)=l2 by rw[cY,<-bL,<-e1,e_l2,tS,if_neg hg0]]
   refine rR ?_;apply zN;exact lM (k+2) k (wV (eQ (@a1) (@a2) (@a3) (@a4) (@a5) (@a6) (@b1) (@b2) (qQ (@b3) (@b4) (@b5) (@b6) (@c1) (@c2))))
  have hc':c=s.nsp g:=oO;refine⟨g+1,oO,oO,?_⟩;rw[show l++bF (sQ s) (g+1)=l1 by rw[cY,<-bL,<-e0,e1,hc'];rfl]
  refine rR ?_;apply zN;(have uU:=eQ @a1 @a2 @a3 @a4 @a5 @a6 @b1 @b2 (qQ @b3 @b4 @b5 @b6 @c1 @c2);exact oZ)
 have hi':g=s.ns:=oO;subst hi';refine⟨k+1,[],LK L k s l0,?_,_,rfl,rfl,rfl,by rw[e0];rfl⟩;(have uU:=eQ @a1 @a2 @a3 @a4 @a5 @a6 @b1 @b2 (qQ @b3 @b4 @b5 @b6 @c1 @c2);exact oZ)
end Go.Proofs.T
end
