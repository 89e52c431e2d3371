import Derived.Test.YteimiejbhhgljaaGreatDoorZAG
set_option linter.unusedVariables false
set_option linter.unusedSimpArgs false
set_option maxHeartbeats 0
set_option maxRecDepth 100000
open Bool renaming and_eq_true->aC,and_true->qO,eq_iff_iff->aY,false_eq_true->aO,not_eq_true'->aT,or_eq_true->bH,true_and->kQ,true_eq_false->bM,true_or->yV
open List renaming all_cons->hY,append_assoc->bL,getD_eq_getElem?_getD->bD,getElem_mem->bKH,map->jL,map_append->aH,map_cons->bG,map_map->jD,map_nil->aV,range->aM,range_succ->CI
open Nat renaming add_assoc->fS,add_sub_cancel->rN,add_sub_cancel_left->iW,le_refl->aF,mul_one->bAM,not_lt_zero->bJ,sub_self->PG
open Go.Proofs.Tryz renaming prog->aA
open Go.Value renaming bool->mG
section
namespace Go.Proofs.T
open Go Go.AM Go.Proofs
variable{Γ:List (Nat×List AVal)}
def ztk:List AVal:=[.lit (.int .i64 0),.lit (.int .i64 0),.lit (.int .i64 0),.lit (.int .i64 0),.lit (.int .u64 0),.lit (.bool false),.lit (.int .u64 0),.lit (.int .u32 0)]
theorem ST{rows new:List (List AVal)}{r:Nat}(h:r<=rows.length):(pX rows new r).take r=rows.take r:=by unfold pX;rw[bL,List.take_append_of_le_length (by simp;omega),List.take_take,Nat.min_self]
theorem a2U(t:Nat){id r n c:Nat}{fr:Fr}{kb k:Nat}{H:aS}(hf:AM.look fr t=some (.slc id r n c)):Mv kb k fr H k ((t,.sl id r n)::del fr t) H:=a2A λ t' v hv=>by
 simp only[AM.look]at hv;split at hv;.rename_i e;subst e;cases hv;exact⟨_,hf,VLe.slc _ _ _ _⟩
 rw[gI]at hv;split at hv;.cases hv
 exact⟨v,hv,aK _⟩
abbrev qS(v r w:Int):AVal:= .agg [.lit (.int .u64 v),.lit (.int .u32 r),.lit (.int .u32 w)]
theorem aFU(w:Int):Pure aA Γ 159 [w] (decide (1<=w/\w<=65536)):=by
 refine aZ Tryz.func159 rfl 9 rfl bB rfl λ k=>?_;have kp:=fI k [0,2];refine wl ?_;refine dD ⟨⟨λ hg=>⟨?_⟩⟩⟩ ⟨⟨λ hg=>⟨?_⟩⟩⟩;all_goals(refine aX rfl ⟨_,rfl,aI ?_⟩)
 all_goals((simp only[AVal.lit.injEq,mG.injEq];rw[aY];simp only[beq_iff_eq,bne_iff_ne,ne_eq,dTt,dFn,aC,bH,aT,beq_eq_false_iff_ne,aO,bM,true_iff,false_iff,iff_true,iff_false];omega))
theorem TG(v r w:Int)(hw:0<=w)(hw2:w<4294967296):Pure aA Γ 134 [.lit (.int .u64 v),.lit (.int .u32 r),w] (qS v r w):=by refine aZ Tryz.func134 rfl 12 rfl bB rfl λ k=>?_;have kp:=fI k [0,1,2,6];refine wl ?_;refine aU (zs ?_);refine cR (zN ?_);exact aK _
def sK(a b:Int):Int:=if a<b then-1 else if b<a then 1 else 0
theorem a1J(a:Int):Pure aA Γ 212 [a] false:=by refine aZ Tryz.func212 rfl 6 rfl bB rfl λ k=>?_;have kp:=fI k [0,2];refine wl ?_;refine aU (zs ?_);refine aX rfl ⟨_,rfl,aI ?_⟩;simp
theorem a1I(a:Int):Pure aA Γ 254 [.lit (.int .u64 a)] false:=by refine aZ Tryz.func254 rfl 6 rfl bB rfl λ k=>?_;have kp:=fI k [0,2];refine wl ?_;refine aU (zs ?_);refine aX rfl ⟨_,rfl,aI ?_⟩;simp
theorem a9U(a b:Int):Pure aA Γ 138 [a,b] (sK a b):=by
 refine aZ Tryz.func138 rfl 20 rfl bB rfl λ k=>?_;have kp:=fI k [0,1,4,5,6,11,12,13,16,19];refine wl ?_;refine aU (zs ?_);refine cl [.ret false] ?_;refine dD (zs ?_) (zs ?_);.exact a1J a
 refine wl ?_;refine aU (zs ?_);refine cl [.ret false] ?_;refine dD (zs ?_) (zs ?_);.exact a1J b
 refine wl ?_;refine wM ⟨λ ht ht ht=>zN ?_⟩ ⟨λ ht ht ht ht=>zN ?_⟩ ⟨λ ht ht ht ht=>zN ?_⟩;all_goals(refine aX rfl ⟨_,rfl,aI ?_⟩)
 all_goals(unfold sK)
 .rw[if_pos oO]
 .rw[if_neg oO,if_pos oO]
 rw[if_neg oO,if_neg oO]
theorem aTC(a b:Int):Pure aA Γ 213 [.lit (.int .u64 a),.lit (.int .u64 b)] (sK a b):=by
 refine aZ Tryz.func213 rfl 20 rfl bB rfl λ k=>?_;have kp:=fI k [0,1,4,5,6,11,12,13,16,19];refine wl ?_;refine aU (zs ?_);refine cl [.ret false] ?_;refine dD (zs ?_) (zs ?_);.exact a1I a
 refine wl ?_;refine aU (zs ?_);refine cl [.ret false] ?_;refine dD (zs ?_) (zs ?_);.exact a1I b
 refine wl ?_;refine wM ⟨λ ht ht ht=>zN ?_⟩ ⟨λ ht ht ht ht=>zN ?_⟩ ⟨λ ht ht ht ht=>zN ?_⟩;all_goals(refine aX rfl ⟨_,rfl,aI ?_⟩)
 all_goals(unfold sK)
 .rw[if_pos oO]
 .rw[if_neg oO,if_pos oO]
 rw[if_neg oO,if_neg oO]
theorem a1O(x:Tk)(b:Int):Pure aA Γ 137 [.agg (tkc x),b] (sK x.id b):=by
 refine aZ Tryz.func137 rfl 9 rfl bB rfl λ k=>?_;have kp:=fI k [0,1,2,4];refine wl ?_;refine aU (zs ?_);refine cl [.ret (sK x.id b)] ?_;refine dD (zs ?_) (zs ?_);.exact a9U _ _
 refine wl ?_;refine aU (zs ?_);refine aX rfl ⟨_,rfl,aI ?_⟩;rfl
def OT(a0 a1 a2 b0 b1 b2:Int):Int:=if sK a0 b0≠0 then sK a0 b0 else if sK a1 b1≠0 then sK a1 b1 else sK a2 b2
def ON(a b c:Int):Blk:=⟨1,true,[[.lit (.int .u64 a)],[.lit (.int .u64 b)],[.lit (.int .u64 c)]]⟩
attribute [go_sem] ON
theorem aOH(k x y:Nat)(a0 a1 a2 b0 b1 b2:Int)(hx:x<k)(hy:y<k)(hne:x≠y):
 Tr aA Γ 140 k [.sl x 0 3,.sl y 0 3] [(x,ON a0 a1 a2),(y,ON b0 b1 b2)] (λ k1 r1 H1=>k1=k/\r1= .lit (.int .i64 (OT a0 a1 a2 b0 b1 b2))/\H1=[(x,ON a0 a1 a2),(y,ON b0 b1 b2)]):=by
 have key:∀i,i<3->(i=0\/i=1\/i=2):=λ i h=>oO;refine iD Tryz.func140 rfl 36 rfl bB ?_;have kp:=fI k [0,1,4,5,6,7,8,9,10,11,12,19,28,35];refine bS ?_;refine aU (zs ?_);refine bE (X:=Nat) rfl [0,1,4,5,6,7,8,9,10,11,12,19,28,35] k (λ i=>[(11,i)]) (λ i=>[(x,ON a0 a1 a2),(y,ON b0 b1 b2)]) (λ i=>i<=3/\(0<i->sK a0 b0=0)/\(1<i->sK a1 b1=0)/\(2<i->sK a2 b2=0)) (λ i=>3-i) 0 ?_ ⟨oO,oO,oO,oO⟩ ?_;.refine cQ ?_;apply zN;exact fH
 rintro i ⟨hi,h0,h1,h2⟩;have hc:i=0\/i=1\/i=2\/i=3:=oO;rcases hc with rfl|rfl|rfl|rfl
 .refine cQ ?_;apply zN;refine bS ?_;refine aU ⟨λ ht ht=>zN ?_⟩;refine lU [.ret (sK a0 b0)] ?_;refine dD (zs ?_) (zs ?_);.exact aTC _ _
  refine bS ?_;refine dD ⟨λ ht=>zN ?_⟩ ⟨λ ht=>zN ?_⟩;.refine IZ (zN ?_);unfold OT;rw[if_pos (by assumption)]
  refine⟨1,⟨oO,λ _=>oO,oO,oO⟩,oO,?_⟩;refine cQ ?_;apply zN;exact fH
 .refine cQ ?_;apply zN;refine bS ?_;refine aU ⟨λ ht ht=>zN ?_⟩;refine lU [.ret (sK a1 b1)] ?_;refine dD (zs ?_) (zs ?_);.exact aTC _ _
  refine bS ?_;refine dD ⟨λ ht=>zN ?_⟩ ⟨λ ht=>zN ?_⟩;.refine IZ (zN ?_);unfold OT;rw[if_neg (by have:=h0 oO;omega),if_pos (by assumption)]
  refine⟨2,⟨oO,λ _=>h0 oO,λ _=>oO,oO⟩,oO,?_⟩;refine cQ ?_;apply zN;exact fH
 .refine cQ ?_;apply zN;refine bS ?_;refine aU ⟨λ ht ht=>zN ?_⟩;refine lU [.ret (sK a2 b2)] ?_;refine dD (zs ?_) (zs ?_);.exact aTC _ _
  refine bS ?_;refine dD ⟨λ ht=>zN ?_⟩ ⟨λ ht=>zN ?_⟩;.refine IZ (zN ?_);unfold OT;rw[if_neg (by have:=h0 oO;omega),if_neg (by have:=h1 oO;omega)]
  refine⟨3,⟨oO,λ _=>h0 oO,λ _=>h1 oO,λ _=>oO⟩,oO,?_⟩;refine cQ ?_;apply zN;exact fH
 refine cQ ?_;apply zN;refine bS ?_;refine aU ⟨λ ht ht=>zN ?_⟩;refine IZ (zN ?_);unfold OT;rw[if_neg (by have:=h0 oO;omega),if_neg (by have:=h1 oO;omega),h2 oO]
structure Mb where
 v:Int
 b:Int
 x:Int
def aKA(a b:Mb):Bool:=decide (a.v<b.v\/(a.v=b.v/\(a.b<b.b\/(a.b=b.b/\a.x<b.x))))
def NR(o:Option Mb)(x:Mb):Option Mb:=
 match o with
 |none=>some x
 |some b=>if aKA x b=true then some x else some b
def bst(o:Option Mb):Blk:=
 match o with
 |none=>ON 18446744073709551615 18446744073709551615 18446744073709551615
 |some x=>ON x.v x.b x.x
def smb(o:Option Mb):Blk:=⟨1,true,[[.lit (.bool o.isSome)]]⟩
theorem aTN(o:Option Mb):(bst o).pure=true:=by cases o<;>rfl
theorem aNV(o:Option Mb):(smb o).pure=true:=rfl
attribute [go_sem] aTN aNV
theorem cmp3_lt{a0 a1 a2 b0 b1 b2:Int}:OT a0 a1 a2 b0 b1 b2<0↔(a0<b0\/(a0=b0/\(a1<b1\/(a1=b1/\a2<b2)))):=by
 unfold OT sK;repeat' split
 all_goals omega
theorem aQK(k p q:Nat)(o:Option Mb)(x:Mb)(hp:p<k)(hq:q<k)(hne:p≠q)(hv:x.v<=18446744073709551615)(hb:x.b<=1):
 Tr aA Γ 139 k [.agg [.lit (.int .u64 x.v),.lit (.int .u64 x.b),.lit (.int .u64 x.x)],.ptr q 0 0,.ptr p 0 0] [(p,bst o),(q,smb o)] (λ k1 r1 H1=>k1=k+1/\r1= .tup []/\H1=[(p,bst (NR o x)),(q,smb (NR o x))]):=by
 have hm:x.v<18446744073709551615\/(x.v=18446744073709551615/\(x.b<18446744073709551615\/(x.b=18446744073709551615/\x.x<18446744073709551615))):=oO
 obtain⟨b0,b1,b2,hbo,hlt⟩:∃b0 b1 b2,bst o=ON b0 b1 b2/\(OT x.v x.b x.x b0 b1 b2<0->NR o x=some x)/\(¬OT x.v x.b x.x b0 b1 b2<0->bst (NR o x)=ON b0 b1 b2):=by
  cases o with
  |none=>exact⟨18446744073709551615,18446744073709551615,18446744073709551615,rfl,λ _=>rfl,λ h=>absurd (cmp3_lt.2 hm) h⟩
  |some b=>
   refine⟨_,_,_,rfl,?_,λ h=>?_⟩;.intro h;rw[cmp3_lt]at h;simp only[NR];rw[if_pos (by simp only[aKA,dTt];exact h)]
   rw[cmp3_lt]at h;simp only[NR];rw[if_neg (by simp only[aKA,dTt];exact h)];rfl
 obtain⟨hlt1,hlt2⟩:=hlt
 have hsome:(NR o x).isSome=true:=by
  cases o with
  |none=>rfl
  |some b=>simp only[NR];split<;>rfl
 have hsm:smb o=⟨1,true,[[o.isSome]]⟩:=rfl;have hsm':smb (NR o x)=⟨1,true,[[true]]⟩:=by unfold smb;rw[hsome]
 rw[hbo,hsm,hsm'];refine iD Tryz.func139 rfl 9 rfl bB (pS ?_);have kp:=fI k [0,1,2,3,7];refine bS ?_;refine aU (zs ?_);refine mN [.gen (.lit (.int .i64 (OT x.v x.b x.x b0 b1 b2))) (k+1) [(k,ON x.v x.b x.x),(p,ON b0 b1 b2)] [(k,ON x.v x.b x.x),(p,ON b0 b1 b2)]] ?_;refine dD (zs ?_) (zs ?_);.exact aOH (k+1) k p x.v x.b x.x b0 b1 b2 oO oO oO
 refine bS ?_;refine dD ⟨λ ht=>zN ?_⟩ ⟨λ ht=>zN ?_⟩
 .have e:bst (NR o x)=ON x.v x.b x.x:=by rw[hlt1 oO];rfl
  refine⟨k+1,[],[(p,bst (NR o x)),(q,⟨1,true,[[true]]⟩)],?_,_,rfl,rfl,rfl,rfl⟩;rw[e];exact fH
 have e:bst (NR o x)=ON b0 b1 b2:=hlt2 oO;refine⟨k+1,[],[(p,bst (NR o x)),(q,⟨1,true,[[true]]⟩)],?_,_,rfl,rfl,rfl,rfl⟩;rw[e];exact fH
def tmb(t:Tk):Mb:=⟨t.v,0,t.id⟩
def GB(L:LSt)(g c:Int)(i:Nat):Bool:=(L.tsk i).ready&&(decide ((L.tsk i).group=g)&&decide ((L.tsk i).cpu=c))
def lT(L:LSt)(g c:Int):Nat->Option Mb
 |0=>none
 |i+1=>if GB L g c i=true then NR (lT L g c i) (tmb (L.tsk i))else lT L g c i
def lS(L:LSt)(F:Nat->Option Mb)(g c:Nat):Nat->Option Mb
 |0=>lT L g c L.tl.length
 |j+1=>if L.par (g+1+j)=g/\(F (g+1+j)).isSome=true then NR (lS L F g c j) ⟨(L.sp (g+1+j) c).v,1,((g+1+j:Nat):Int)⟩else lS L F g c j
def pZ(L:LSt):Nat->Nat->Nat->Option Mb
 |0,_,_=>none
 |f+1,g,c=>lS L (λ h=>pZ L f h c) g c (L.sl.length-(g+1))
def mbc:Option Mb->List AVal
 |none=>[.lit (.int .u64 18446744073709551615),.lit (.int .u64 18446744073709551615),.lit (.int .u64 18446744073709551615)]
 |some x=>[.lit (.int .u64 x.v),.lit (.int .u64 x.b),.lit (.int .u64 x.x)]
def resL(o:Option Mb):AVal:= .tup [.agg (mbc o),.lit (.bool o.isSome)]
structure Shp (L:LSt) (n:Nat):Prop where
 ng:L.gl.length=L.sl.length
 rows:∀g,g<L.sl.length->(L.sl.getD g []).length=n
 nt:L.tl.length<=100000
 ns:L.sl.length<=1000
 tid:∀i,i<L.tl.length->0<=(L.tsk i).id/\(L.tsk i).id<=65535/\(L.tsk i).v<=18446744073709551615
 spv:∀g c,g<L.sl.length->c<n->(L.sp g c).v<=18446744073709551615
theorem aZR(o:Option Mb):bst o=ON (o.elim 18446744073709551615 (·.v)) (o.elim 18446744073709551615 (·.b)) (o.elim 18446744073709551615 (·.x)):=by cases o<;>rfl
theorem aFZ(o:Option Mb):mbc o=[.lit (.int .u64 (o.elim 18446744073709551615 (·.v))),.lit (.int .u64 (o.elim 18446744073709551615 (·.b))),.lit (.int .u64 (o.elim 18446744073709551615 (·.x)))]:=by cases o<;>rfl
theorem aXP{L:LSt}{F:Nat->Option Mb}{g c h:Nat}(hh:g+1<=h)(h1:L.par h=g)(h2:(F h).isSome=true):lS L F g c (h+1-(g+1))=NR (lS L F g c (h-(g+1))) ⟨(L.sp h c).v,1,(h:Int)⟩:=by have e:h+1-(g+1)=(h-(g+1))+1:=oO;have e2:g+1+(h-(g+1))=h:=oO;rw[e,lS,e2,if_pos ⟨h1,h2⟩]
theorem aGJ{L:LSt}{F:Nat->Option Mb}{g c h:Nat}(hh:g+1<=h)(h1:¬(L.par h=g/\(F h).isSome=true)):lS L F g c (h+1-(g+1))=lS L F g c (h-(g+1)):=by have e:h+1-(g+1)=(h-(g+1))+1:=oO;have e2:g+1+(h-(g+1))=h:=oO;rw[e,lS,e2,if_neg h1]
theorem aXN{L:LSt}{g c:Int}{i:Nat}(h:GB L g c i=true):lT L g c (i+1)=NR (lT L g c i) (tmb (L.tsk i)):=by rw[lT,if_pos h]
theorem aXO{L:LSt}{g c:Int}{i:Nat}(h:¬GB L g c i=true):lT L g c (i+1)=lT L g c i:=by rw[lT,if_neg h]
theorem takes_iff{L:LSt}{g c:Int}{i:Nat}:GB L g c i=true↔(L.tsk i).ready=true/\(L.tsk i).group=g/\(L.tsk i).cpu=c:=by simp[GB]
theorem aWN{p:Nat->Bool}(o:Option Mb):bd p (resL o)=true:=by cases o<;>rfl
def HQ(L:LSt):Prop:=∀i j,i<j->j<L.tl.length->(L.tsk i).id<(L.tsk j).id
def aVA(L:LSt)(id r:Int):Prop:=(r= -1/\∀i,i<L.tl.length->(L.tsk i).id≠id)\/∃i:Nat,i<L.tl.length/\r=(i:Int)/\(L.tsk i).id=id
theorem aYI(L:LSt)(id:Int):∃r,aVA L id r:=by
 by_cases h:∃i,i<L.tl.length/\(L.tsk i).id=id;.obtain⟨i,h1,h2⟩:=h;exact⟨i,.inr ⟨i,h1,rfl,h2⟩⟩
 exact⟨-1,.inl ⟨rfl,λ i h1 h2=>h ⟨i,h1,h2⟩⟩⟩
def a1Z(L:LSt)(id:Int)(p:Nat):Prop:=p<=L.tl.length/\(∀q,q<p->(L.tsk q).id<id)/\∀q,p<=q->q<L.tl.length->id<=(L.tsk q).id
theorem cmpZ_neg{a b:Int}:sK a b<0↔a<b:=by unfold sK;split<;>(try split)<;>omega
theorem aLI{a b:Int}:sK a b=0↔a=b:=by unfold sK;split<;>(try split)<;>omega
theorem a3F(L:LSt)(hso:HQ L)(id:Int):∃p,a1Z L id p:=by
 suffices h:∀n,n<=L.tl.length->∃p,p<=n/\(∀q,q<p->(L.tsk q).id<id)/\∀q,p<=q->q<n->id<=(L.tsk q).id by obtain⟨p,h1,h2,h3⟩:=h L.tl.length (aF _);exact⟨p,h1,h2,h3⟩
 intro n
 induction n with
 |zero=>intro _;exact⟨0,aF _,λ q hq=>absurd hq (bJ _),λ q _ hq=>absurd hq (bJ _)⟩
 |succ n ih=>
  intro hn;obtain⟨p,h1,h2,h3⟩:=ih oO;by_cases hc:(L.tsk n).id<id
  .refine⟨n+1,aF _,λ q hq=>?_,λ q h4 h5=>oO⟩;by_cases he:q=n;.rw[he];exact hc
   have:=hso q n oO oO;omega
  refine⟨p,oO,h2,λ q h4 h5=>?_⟩;by_cases he:q=n;.rw[he];omega
  exact h3 q h4 oO
def lst(L:LSt)(g c:Nat):Option Mb:=pZ L L.sl.length g c
def bFV(s:Sp)(w:Int):Prop:=yP s.v s.r w=true/\0<=s.v/\s.v<=18446744073709551615/\0<=s.r/\0<=s.floor/\s.floor<=18446744073709551615
structure TkOk (L:LSt) (n:Nat) (t:Tk):Prop where
 id1:1<=t.id
 id2:t.id<=65535
 g0:0<=t.group
 g1:t.group<L.sl.length
 c0:0<=t.cpu
 c1:t.cpu<n
 e:yP t.v t.r t.weight=true
 v0:0<=t.v
 v1:t.v<=18446744073709551615
 r0:0<=t.r
 m0:0<=t.mask
 m1:t.mask<18446744073709551616
 m2:t.mask/2^n=0
 m3:t.mask/2^t.cpu.toNat%2=1
structure Rt0 (L:LSt) (n:Nat):Prop where
 n1:1<=n
 n64:n<=64
 cpus:L.cpus=n
 cr0:0<=L.credit
 cr:L.credit<=1099511627776
 ng:L.gl.length=L.sl.length
 ns1:1<=L.sl.length
 ns:L.sl.length<=256
 nk:L.kl.length=n
 nu:L.ul.length=n
 rows:∀g,g<L.sl.length->(L.sl.getD g []).length=n
 nt:L.tl.length<=1000
 par:∀g,0<g->g<L.sl.length->0<=L.par g/\L.par g<g
 par0:L.par 0=0
 wt:∀g,g<L.sl.length->1<=L.wt g/\L.wt g<=65536
 clk:∀c,c<n->0<=L.clk c/\L.clk c<=281474976710656
 sp:∀g c,g<L.sl.length->c<n->bFV (L.sp g c) (L.wt g)
 root:∀c,c<n->(L.sp 0 c).v=0/\(L.sp 0 c).r=0
 tk:∀i,i<L.tl.length->TkOk L n (L.tsk i)
 sorted:HQ L
 cur:∀c,c<n->L.cur c=0\/∃j,j<L.tl.length/\(L.tsk j).ready=true/\(L.tsk j).cpu=c/\(L.tsk j).id=L.cur c
theorem tK{p:Nat->Bool}{e s:Nat}{R:List (List AVal)}{H:aS}(h:p e=true)(h2:rG p H=true):rG p ((e,⟨s,true,R⟩)::H)=true:=by
 simp only[rG,hY,h,yV,qO,kQ]at h2⊢
 exact h2
end Go.Proofs.T
end
section
namespace Go.AM
open Go
section
variable{P:Program}{Γ:List (Nat×List AVal)}{o:Oper}{ev:Operand->Option AVal}{get:Nat->Option Blk}{k:Nat}
theorem WO{t ty e id r n c:Nat}{x y:Operand}{B:Blk}(ho:o.op= .binOp .eql t x y ty)(he:P.underlying t=some (.slice e))(hx:ev x=some (.slc id r n c))(hB:get id=some B)(hy:ev y=some (.lit (.slice none 0 0))):
 Good P Γ o ev get k ⟨.lit (.bool false),k,[],[id]⟩:=by refine⟨cE λ w G ρ H A a hr hrd hop=>⟨.bool false,?_,.lit⟩,λ id' hid=>by simp at hid;rw[hid,hB];rfl,aF _⟩;obtain⟨B',A',h3,hH,_⟩:=hrd id sS;rw[hB]at h3;cases h3;have hvx:=hop x (by simp[ho,Op.operands]) _ hx;have hvy:=gV (hop y (by simp[ho,Op.operands]) _ hy);obtain⟨b,off,C,ty',hev,_⟩:=KP hr hH hvx;obtain⟨h1,_,h2,_⟩:=EE (P:=P) he ⟨b,off,none⟩ n c 0 0 w;simp[execOp,ho,hev,hvy,h1,h2]
end
end Go.AM
end
