import Derived.Test.YteimiejbhhgljaaGreatDoorZAA
import Derived.Laws.StructEq
import Derived.KernelRfl
set_option linter.unusedVariables false
set_option linter.defProp false
set_option linter.unusedSimpArgs false
set_option maxHeartbeats 0
set_option maxRecDepth 100000
open Array renaming eq_empty_of_size_eq_zero->kH,getD_eq_getD_getElem?->aM,getElem?_eq_some_iff->dK,getElem?_toList->bH,toArray_toList->bWH
open Bool renaming and_eq_true->aO,and_false->MN,and_true->iE,eq_false_iff->dY,false->aF,false_and->MM,false_eq_true->bP,false_or->BP,not_eq_true->bVK,not_eq_true'->dV,or_eq_false_iff->gA,or_eq_true->gQ,true->aB,true_and->lZ,true_eq_false->a7W,true_or->BO
open Int renaming toNat_natCast->bW
open Go.IntKind renaming i64->aH,u32->aT,u64->aI,u8->bM
open List renaming all_cons->gI,all_eq_true->aY,all_nil->BK,any_eq_true->aOB,append_nil->cX,cons_append->bA,contains_iff_mem->bQS,drop_zero->bKB,getD->oZ,getD_eq_getElem?_getD->aU,getElem?_append->dQ,getElem?_append_left->gN,getElem?_append_right->iY,getElem?_cons_succ->fY,getElem?_cons_zero->lY,getElem?_drop->fJ,getElem?_eq_getElem->aN,getElem?_eq_some_iff->aL,getElem?_map->aV,getElem?_take->fA,getElem?_toArray->cH,getElem_mem->zY,isEmpty_cons->aAE,isEmpty_nil->bVI,length_append->bT,length_cons->iI,length_map->dG,length_nil->FM,map->tB,map_append->aQ,map_cons->bN,map_map->kT,map_nil->bV,map_toArray->uA,mem_cons->fO,mem_cons_of_mem->dZ,mem_map->dM,mem_of_getElem?->gL,nil_append->aZ,range->aR,replicate->bI
open Nat renaming add_assoc->gM,add_comm->bQQ,add_mul->cW,add_sub_cancel->a7O,add_sub_cancel_left->kJ,add_zero->kG,beq->tY,eq_of_beq_eq_true->cN,le_of_ble_eq_true->rU,le_refl->aJ,le_succ->mG,lt_irrefl->oX,mul_one->JK,pos_of_ne_zero->OP,reduceAdd->aAC,sub_self->TT,zero_add->eQ,zero_le->bF
open Option renaming bind_eq_some_iff->cJ,bind_some->bVF,isSome_iff_exists->fU,isSome_none->sZ,map_eq_none_iff->dL,map_eq_some_iff->aK,map_none->lJ,map_some->bO,none->aC,some->aA
open Go.Result renaming andThen_ok->bJ
open Go.Sem renaming run_bind->bS,run_pure->dO
section
namespace Go.AM
variable{α:Type}{Q:AQ}{v z:AVal}{a:Act}{parts:Array (Nat×Operand)}{all ops:Array Oper}{caps:Array Operand}{ps rs ty tys:Array TypeId}{C:Array Value}{op:BinOp}{ag b neg p vr want:Bool}{fr fr1:Fr}{fn:Func}{g:FuncId}{h l:Int}{k2 kk:IntKind}{offs:List (Nat×Nat)}{u:List (Nat×Option Blk)}{args cs us vs zrow:List AVal}{tr:List Foot}{keep:List Nat}{by' c d dst e i j k k' k1 kb kd n nt off s' sz t:Nat}{G G':Nat->Prop}{o:Oper}{cc x y:Operand}{hi lo:Option Operand}{P:Program}{T X Y:Prop}{cv:Value}{w:World}{H H' H0 H1 Hc Hout loc:aS}{A A':cF}{ρ:dH}{Γ:dW}
section
variable{P:Program}{Γ:dW}{o:Oper}{ev:Operand->Option AVal}{get:Nat->Option Blk}{k:Nat}
def bound(ev:Operand->Option AVal)(x:Option Operand)(d:Int):Option Int:=
 match x with
 |none=>aA d
 | some y=>match ev y with
   |some (.lit (.int _ i))=>aA i
   |_=>aC
def qW{s:Nat}(ht:DQ P t=aA s)(lo hi:Option Value)(base:Option Addr)(len cap:Nat)(l h:Int)(hl:lo=aC/\l=0\/∃kk,lo=aA (.int kk l))(hh:hi=aC/\h=len\/∃kk,hi=aA (.int kk h))
 (h0:0<=l) (h1:l<=h) (h2:h<=len) (h3:len<=cap) (w:World):
 (Instr.sliceAt t (.slice base len cap) lo hi aC).run P w= .ok (.slice (if cap=l.toNat then base else base.map (·.add (l.toNat*s))) (h.toNat-l.toNat) (cap-l.toNat)) w:=by
 obtain⟨e,i,hu,hi',rfl⟩:=IN ht
 have hb:(Instr.sliceBounds aB len cap lo hi aC).run P w= .ok (l.toNat,h.toNat,cap) w:=by
  have q1:(0:Int)<=h/\h<=(cap:Int):=⟨oO,oO⟩;have q3:(0:Int)<=l/\l<=(h.toNat:Int):=⟨h0,oO⟩;rcases hl with⟨rfl,rfl⟩|⟨kl,rfl⟩<;>rcases hh with⟨rfl,rfl⟩|⟨kh,rfl⟩;.simp[Instr.sliceBounds]
  .simp[Instr.sliceBounds,Instr.sliceBound,asIntOf,q1]
  .have q2:(0:Int)<=l/\l<=(len:Int):=⟨h0,h1⟩;simp[Instr.sliceBounds,Instr.sliceBound,asIntOf,q2]
  simp only[Instr.sliceBounds,Instr.sliceBound,asIntOf,bS,dO,bJ,q1,and_self,if_true,q3]
 simp only[Instr.sliceAt,underlying,bS,run_program,bJ,hu,dO,Instr.slice,hb,sizeOf,typeInfo,hi']
def oC{x:Option Operand}{d i:Int}(h:bound ev x d=aA i)(hv:∀y,x=aA y->∀v,ev y=aA v->V w G ρ A v (a.eval y)):
 x.map a.eval=aC/\i=d\/∃kk,x.map a.eval=aA (.int kk i):=by
 cases x with
 |none=>cases h;exact .inl ⟨rfl,rfl⟩
 |some y=>
  simp only[bound]at h;split at h;.rename_i kk j hy;cases h;have:=iB (hv y rfl _ hy);exact .inr ⟨kk,by simp[this]⟩
  cases h
def aBD{s:Nat}{f:Nat->List AVal}(ho:o.op= .slice t x lo hi aC)(ht:DQ P t=aA s)(hx:ev x=aA (.rd s n f))(hl:bound ev lo 0=aA l)(hh:bound ev hi n=aA h)
 (h0:0<=l) (h1:l<=h) (h2:h<=n):OpOk P Γ o ev get k ⟨.rd s (h.toNat-l.toNat) (λ i=>f (l.toNat+i)),k,[],[]⟩:=by
 refine cL λ w G ρ H A a hr _ hop=>?_;have hvx:=hop x pS _ hx;have el:=oC (w:=w) (G:=G) (ρ:=ρ) (A:=A) (a:=a) hl (λ y hy v hv=>hop y (by simp[ho,Op.operands,hy]) v hv);have eh:=oC (w:=w) (G:=G) (ρ:=ρ) (A:=A) (a:=a) hh (λ y hy v hv=>hop y (by simp[ho,Op.operands,hy]) v hv);generalize hev:a.eval x=cv at hvx
 cases hvx with
 |rd0=>rename_i base cap;have hrun:=qW ht (lo.map a.eval) (hi.map a.eval) base 0 cap l h el eh h0 h1 oO oO w;have e0:h.toNat-l.toNat=0:=oO;refine⟨_,by simp only[execOp,ho,hev,lJ,bS,hrun,bJ,dO];rfl,?_⟩;rw[e0];exact .rd0
 |rd g hb hcap hn hlen hc hv=>
  rename_i b off cap;have hrun:=qW ht (lo.map a.eval) (hi.map a.eval) (aA ⟨b,off,aC⟩) n cap l h el eh h0 h1 h2 hcap w;refine⟨_,by simp only[execOp,ho,hev,lJ,bS,hrun,bJ,dO];rfl,?_⟩;by_cases hcl:cap=l.toNat;.have e0:h.toNat-l.toNat=0:=oO;rw[e0];exact .rd0
  rw[iN hcl,bO,Addr.add_mid];refine .rd (λ i j=>g (l.toNat+i) j) hb oO oO (λ i hi'=>hlen _ oO) (λ i j v hi' hj=>?_) (λ i j v hi' hj=>hv _ j v oO hj);have:=hc (l.toNat+i) j v oO hj;rw[<-this];congr 2;rw[cW];omega
def aBC{s id r:Nat}{B:Blk}(ho:o.op= .slice t x lo hi aC)(ht:DQ P t=aA s)(hx:ev x=aA (.sl id r n))(hB:get id=aA B)(hs:B.sz=s)
 (hl:bound ev lo 0=aA l) (hh:bound ev hi n=aA h) (h0:0<=l) (h1:l<=h) (h2:h<=n):OpOk P Γ o ev get k ⟨.sl id (r+l.toNat) (h.toNat-l.toNat),k,[],[id]⟩:=by
 refine cL λ w G ρ H A a hr hrd hop=>?_;have hvx:=hop x pS _ hx;have el:=oC (w:=w) (G:=G) (ρ:=ρ) (A:=A) (a:=a) hl (λ y hy v hv=>hop y (by simp[ho,Op.operands,hy]) v hv);have eh:=oC (w:=w) (G:=G) (ρ:=ρ) (A:=A) (a:=a) hh (λ y hy v hv=>hop y (by simp[ho,Op.operands,hy]) v hv);obtain⟨B',A',h3,hH,_⟩:=hrd id (by simp);rw[hB]at h3;cases h3;obtain⟨_,b,hb,_⟩:=hr.blk id B A' hH;generalize hev:a.eval x=cv at hvx
 cases hvx with
 |dangs _ hn=>rw[hb]at hn;cases hn
 |sl0 ha hρ=>have hrun:=qW ht (lo.map a.eval) (hi.map a.eval) aC 0 0 l h el eh h0 h1 h2 (aJ _) w;have e1:l.toNat=0:=oO;have e2:h.toNat=0:=oO;refine⟨_,by simp only[execOp,ho,hev,lJ,bS,hrun,bJ,dO];rfl,?_⟩;rw[e1,e2];exact .sl0 ha hρ
 |sl ha hρ hsh hm hn hc hoff=>
  rw[hb]at hρ;cases hρ;rename_i ty m cap off;have hrun:=qW ht (lo.map a.eval) (hi.map a.eval) (aA ⟨b,off,aC⟩) n cap l h el eh h0 h1 h2 hn w;refine⟨_,by simp only[execOp,ho,hev,lJ,bS,hrun,bJ,dO];rfl,?_⟩;have hm':(r+l.toNat+(cap-l.toNat))*B.sz<=m:=by have:r+l.toNat+(cap-l.toNat)=r+cap:=oO;rw[this];exact hm
  by_cases hcl:cap=l.toNat;.rw[iP hcl];exact .sl ha hb hsh hm' oO oO (.inl oO)
  rw[iN hcl,bO,Addr.add_mid];refine .sl ha hb hsh hm' oO oO (.inr ?_);rcases hoff with h4|h4;.omega
  rw[h4,<-hs,cW]
def fL(get:Nat->Option Blk):AVal->Bool
 | .ptr id _ _=>(get id).isSome
 | .rp _=>aB
 | .sl id _ n=>(get id).isSome&&decide (0<n)
 | .rd _ n _=>decide (0<n)
 | .fn _ _=>aB
 | .nn=>aB
 |_=>aF
def qA:AVal->Bool
 | .lit (.pointer aC)=>aB
 | .lit (.slice aC _ _)=>aB
 | .lit .nilFunc=>aB
 | .lit .nilIface=>aB
 |_=>aF
def yQ(P:Program)(t:TypeId):Option Nat:=
 match P.underlying t with
 |some (.pointer _)=>aA 0
 |some (.slice _)=>aA 1
 |some (.func ..)=>aA 2
 |some (.interface _)=>aA 4
 |_=>aC
def fP:AVal->Nat
 | .ptr .. =>0
 | .rp _=>0
 | .lit (.pointer _)=>0
 | .sl .. =>1
 | .rd .. =>1
 | .lit (.slice ..)=>1
 | .fn .. =>2
 | .lit .nilFunc=>2
 | .nn=>4
 | .lit .nilIface=>4
 |_=>3
def FQ:AVal->List Nat
 | .ptr id _ _=>[id]
 | .sl id _ _=>[id]
 |_=>[]
def aDM(he:P.underlying t=aA (.pointer e))(d:Nat)(p:Addr)(w:World):(Op.equalIn (d+1) t (.pointer (aA p)) (.pointer aC)).run P w= .ok aF w/\(Op.equalIn (d+1) t (.pointer aC) (.pointer (aA p))).run P w= .ok aF w:=by constructor<;>simp[Op.equalIn,run_underlying he]
def YX(he:P.underlying t=aA (.pointer e))(d:Nat)(w:World):(Op.equalIn (d+1) t (.pointer aC) (.pointer aC)).run P w= .ok aB w:=by simp[Op.equalIn,run_underlying he]
def aDL(he:P.underlying t=aA (.slice e))(d:Nat)(m c m' c':Nat)(w:World):(Op.equalIn (d+1) t (.slice aC m c) (.slice aC m' c')).run P w= .ok aB w:=by simp[Op.equalIn,run_underlying he]
def aIB(he:P.underlying t=aA (.slice e))(d:Nat)(p:Addr)(m c m' c':Nat)(w:World):(Op.equalIn (d+1) t (.slice (aA p) m c) (.slice aC m' c')).run P w= .ok aF w/\(Op.equalIn (d+1) t (.slice aC m' c') (.slice (aA p) m c)).run P w= .ok aF w:=by constructor<;>simp[Op.equalIn,run_underlying he]
def aID(he:P.underlying t=aA (.func ps rs vr))(d:Nat)(fn:Fn)(fi cc:Array Value)(w:World):(Op.equalIn (d+1) t (.func fn fi cc) .nilFunc).run P w= .ok aF w/\(Op.equalIn (d+1) t .nilFunc (.func fn fi cc)).run P w= .ok aF w:=by constructor<;>simp[Op.equalIn,run_underlying he]
def aIC{ms:Array (String×TypeId)}(he:P.underlying t=aA (.interface ms))(d:Nat)(tt:TypeId)(v:Value)(w:World):(Op.equalIn (d+1) t (.iface tt v) .nilIface).run P w= .ok aF w/\(Op.equalIn (d+1) t .nilIface (.iface tt v)).run P w= .ok aF w:=by constructor<;>simp[Op.equalIn,run_underlying he]
def iQ{x y:Value}(h1:¬(x= .nilIface/\y= .nilIface))(h2:∀a b,¬(x= .agg a/\y= .agg b))(op:BinOp)(p q:Operand)(w:World):(eqGuard op t p q x y).run P w= .ok () w:=by unfold eqGuard;cases op<;>first|rfl|(cases x<;>cases y<;>first|rfl|exact absurd ⟨rfl,rfl⟩ h1|exact absurd ⟨rfl,rfl⟩ (h2 _ _))
def aEY(P:Program)(w:World)(t:TypeId)(cv cz:Value):Prop:=
 (∀op x y,(eqGuard op t x y cv cz).run P w= .ok () w)/\(∀op x y,(eqGuard op t x y cz cv).run P w= .ok () w)∧
   (binOp .eql t cv cz).run P w= .ok (.bool aF) w/\(binOp .neq t cv cz).run P w= .ok (.bool aB) w/\(binOp .eql t cz cv).run P w= .ok (.bool aF) w/\(binOp .neq t cz cv).run P w= .ok (.bool aB) w
def AV{x y:Value}(hp:(∀k n,x≠ .int k n)/\(∀k n,y≠ .int k n)/\(∀s,x≠ .string s)/\(∀k n,x≠ .float k n)/\(∀k n m,x≠ .complex k n m))(h:(Op.equal t x y).run P w= .ok b w):
 (binOp .eql t x y).run P w= .ok (.bool b) w/\(binOp .neq t x y).run P w= .ok (.bool (!b)) w:=by
 obtain⟨h1,h2,h3,h4,h5⟩:=hp;constructor;.cases x<;>first|exact absurd rfl (h1 _ _)|exact absurd rfl (h3 _)|exact absurd rfl (h4 _ _)|exact absurd rfl (h5 _ _ _)|simp[binOp,h]
 cases x<;>first|exact absurd rfl (h1 _ _)|exact absurd rfl (h3 _)|exact absurd rfl (h4 _ _)|exact absurd rfl (h5 _ _ _)|simp[binOp,h]
def UP(he:P.underlying t=aA (.pointer e))(p:Addr)(w:World):aEY P w t (.pointer (aA p)) (.pointer aC):=by have h:=aDM he 9999 p w;have e1:=AV (P:=P) (x:= .pointer (aA p)) (y:= .pointer aC) (w:=w) (t:=t) (by simp) h.1;have e2:=AV (P:=P) (x:= .pointer aC) (y:= .pointer (aA p)) (w:=w) (t:=t) (by simp) h.2;exact⟨λ op x y=>iQ (by simp) (by simp) op x y w,λ op x y=>iQ (by simp) (by simp) op x y w,e1.1,e1.2,e2.1,e2.2⟩
def HU(he:P.underlying t=aA (.slice e))(p:Addr)(m c m' c':Nat)(w:World):aEY P w t (.slice (aA p) m c) (.slice aC m' c'):=by have h:=aIB he 9999 p m c m' c' w;have e1:=AV (P:=P) (x:= .slice (aA p) m c) (y:= .slice aC m' c') (w:=w) (t:=t) (by simp) h.1;have e2:=AV (P:=P) (x:= .slice aC m' c') (y:= .slice (aA p) m c) (w:=w) (t:=t) (by simp) h.2;exact⟨λ op x y=>iQ (by simp) (by simp) op x y w,λ op x y=>iQ (by simp) (by simp) op x y w,e1.1,e1.2,e2.1,e2.2⟩
def aVE(he:P.underlying t=aA (.func ps rs vr))(fn:Fn)(fi cc:Array Value)(w:World):aEY P w t (.func fn fi cc) .nilFunc:=by have h:=aID he 9999 fn fi cc w;have e1:=AV (P:=P) (x:= .func fn fi cc) (y:= .nilFunc) (w:=w) (t:=t) (by simp) h.1;have e2:=AV (P:=P) (x:= .nilFunc) (y:= .func fn fi cc) (w:=w) (t:=t) (by simp) h.2;exact⟨λ op x y=>iQ (by simp) (by simp) op x y w,λ op x y=>iQ (by simp) (by simp) op x y w,e1.1,e1.2,e2.1,e2.2⟩
def aVD{ms:Array (String×TypeId)}(he:P.underlying t=aA (.interface ms))(tt:TypeId)(v:Value)(w:World):aEY P w t (.iface tt v) .nilIface:=by have h:=aIC he 9999 tt v w;have e1:=AV (P:=P) (x:= .iface tt v) (y:= .nilIface) (w:=w) (t:=t) (by simp) h.1;have e2:=AV (P:=P) (x:= .nilIface) (y:= .iface tt v) (w:=w) (t:=t) (by simp) h.2;exact⟨λ op x y=>iQ (by simp) (by simp) op x y w,λ op x y=>iQ (by simp) (by simp) op x y w,e1.1,e1.2,e2.1,e2.2⟩
def VW(ht:yQ P t=aA kd){H:mP}(hr:HRel Γ w G ρ H)(hrd:∀id,id∈FQ v->∃B A',get id=aA B/\H id=aA (B,A')/\∀i,A' i->A i)
 {cz:Value} (hv:V w G ρ A v cv) (hz:V w G ρ A z cz) (hn:fL get v=aB) (hzz:qA z=aB) (hk1:fP v=kd) (hk2:fP z=kd):aEY P w t cv cz:=by
 have hlit:z= .lit cz:=by
  cases z with
  |lit u=>cases hz;rfl
  |_=>simp[qA]at hzz
 subst hlit;clear hz;have hown:∀id,id∈FQ v->ρ id≠aC:=λ id hid hn'=>by obtain⟨B,A',_,hH,_⟩:=hrd id hid;obtain⟨_,b,hb,_⟩:=hr.blk _ B A' hH;rw[hb]at hn';cases hn'
 unfold yQ at ht;split at ht
 .rename_i e he;cases ht
  have hcz:cz= .pointer aC:=by
   cases cz with
   |pointer a=>cases a with
    |none=>rfl
    |some=>simp[qA]at hzz
   |slice a m c=>simp[fP]at hk2
   |nilFunc=>simp[fP]at hk2
   |nilIface=>simp[fP]at hk2
   |_=>simp[qA]at hzz
  subst hcz
  cases hv with
  |dang _ hn'=>exact absurd hn' (hown _ (by simp[FQ]))
  |ptr=>exact UP he _ w
  |rp=>exact UP he _ w
  |junk=>simp[fL]at hn
  |lit=>simp[fL]at hn
  |agg=>simp[fL]at hn
  |tup=>simp[fL]at hn
  |dangs=>simp[fP]at hk1
  |sl=>simp[fP]at hk1
  |sl0=>simp[fP]at hk1
  |rd0=>simp[fP]at hk1
  |rd=>simp[fP]at hk1
  |fn=>simp[fP]at hk1
  |nn=>simp[fP]at hk1
  |dangc=>simp[fL]at hn
  |slc=>simp[fL]at hn
  |bfn=>simp[fL]at hn
  |dangm=>simp[fL]at hn
  |mp=>simp[fL]at hn
  |dangi=>simp[fL]at hn
  |it=>simp[fL]at hn
 .rename_i e he;cases ht
  obtain⟨m,c,hcz⟩:∃m c,cz= .slice aC m c:=by
   cases cz with
   |slice a m c=>cases a with
    |none=>exact⟨m,c,rfl⟩
    |some=>simp[qA]at hzz
   |pointer a=>simp[fP]at hk2
   |nilFunc=>simp[fP]at hk2
   |nilIface=>simp[fP]at hk2
   |_=>simp[qA]at hzz
  subst hcz
  cases hv with
  |dangs _ hn'=>exact absurd hn' (hown _ (by simp[FQ]))
  |sl=>exact HU he _ _ _ _ _ w
  |sl0=>simp[fL]at hn
  |rd=>exact HU he _ _ _ _ _ w
  |rd0=>simp[fL]at hn
  |junk=>simp[fL]at hn
  |lit=>simp[fL]at hn
  |agg=>simp[fL]at hn
  |tup=>simp[fL]at hn
  |dang=>simp[fP]at hk1
  |ptr=>simp[fP]at hk1
  |rp=>simp[fP]at hk1
  |fn=>simp[fP]at hk1
  |nn=>simp[fP]at hk1
  |dangc=>simp[fL]at hn
  |slc=>simp[fL]at hn
  |bfn=>simp[fL]at hn
  |dangm=>simp[fL]at hn
  |mp=>simp[fL]at hn
  |dangi=>simp[fL]at hn
  |it=>simp[fL]at hn
 .rename_i ps rs vr he;cases ht
  have hcz:cz= .nilFunc:=by
   cases cz with
   |nilFunc=>rfl
   |pointer a=>simp[fP]at hk2
   |slice a m c=>simp[fP]at hk2
   |nilIface=>simp[fP]at hk2
   |_=>simp[qA]at hzz
  subst hcz
  cases hv with
  |fn=>exact aVE he _ _ _ w
  |nn=>simp[fP]at hk1
  |dangc=>simp[fL]at hn
  |slc=>simp[fL]at hn
  |bfn=>simp[fL]at hn
  |dangm=>simp[fL]at hn
  |mp=>simp[fL]at hn
  |dangi=>simp[fL]at hn
  |it=>simp[fL]at hn
  |junk=>simp[fL]at hn
  |lit=>simp[fL]at hn
  |agg=>simp[fL]at hn
  |tup=>simp[fL]at hn
  |dang=>simp[fP]at hk1
  |dangs=>simp[fP]at hk1
  |ptr=>simp[fP]at hk1
  |sl=>simp[fP]at hk1
  |sl0=>simp[fP]at hk1
  |rp=>simp[fP]at hk1
  |rd0=>simp[fP]at hk1
  |rd=>simp[fP]at hk1
 .rename_i ms he;cases ht
  have hcz:cz= .nilIface:=by
   cases cz with
   |nilIface=>rfl
   |nilFunc=>simp[fP]at hk2
   |pointer a=>simp[fP]at hk2
   |slice a m c=>simp[fP]at hk2
   |_=>simp[qA]at hzz
  subst hcz
  cases hv with
  |nn=>exact aVD he _ _ w
  |dangc=>simp[fL]at hn
  |slc=>simp[fL]at hn
  |bfn=>simp[fL]at hn
  |dangm=>simp[fL]at hn
  |mp=>simp[fL]at hn
  |dangi=>simp[fL]at hn
  |it=>simp[fL]at hn
  |fn=>simp[fP]at hk1
  |junk=>simp[fL]at hn
  |lit=>simp[fL]at hn
  |agg=>simp[fL]at hn
  |tup=>simp[fL]at hn
  |dang=>simp[fP]at hk1
  |dangs=>simp[fP]at hk1
  |ptr=>simp[fP]at hk1
  |sl=>simp[fP]at hk1
  |sl0=>simp[fP]at hk1
  |rp=>simp[fP]at hk1
  |rd0=>simp[fP]at hk1
  |rd=>simp[fP]at hk1
 cases ht
def aDN{ty:Nat}(ho:o.op= .binOp (if neg then .neq else .eql) t x y ty)(ht:yQ P t=aA kd)(hxy:(ev x=aA v/\ev y=aA z)\/(ev x=aA z/\ev y=aA v))
 (hn:fL get v=aB) (hzz:qA z=aB) (hk1:fP v=kd) (hk2:fP z=kd):OpOk P Γ o ev get k ⟨.lit (.bool neg),k,[],FQ v⟩:=by
 refine cL λ w G ρ H A a hr hrd hop=>⟨.bool neg,?_,.lit⟩;have hmx:x∈o.op.operands:=by cases neg<;>simp[ho,Op.operands]
 have hmy:y∈o.op.operands:=by cases neg<;>simp[ho,Op.operands]
 rcases hxy with⟨hx,hy⟩|⟨hx,hy⟩;.obtain⟨h3,_,h5,h6,_,_⟩:=VW (P:=P) ht hr hrd (hop x hmx v hx) (hop y hmy z hy) hn hzz hk1 hk2;cases neg<;>simp[execOp,ho,h3,h5,h6]
 obtain⟨_,h4,_,_,h7,h8⟩:=VW (P:=P) ht hr hrd (hop y hmy v hy) (hop x hmx z hx) hn hzz hk1 hk2;cases neg<;>simp[execOp,ho,h4,h7,h8]
def FO(P:Program)(t:TypeId):Option Nat:=
 match P.underlying t with
 |some (.int _)=>aA 0
 |some .bool=>aA 1
 |some .string=>aA 2
 |_=>aC
def uL(P:Program)(t:TypeId):Option (List (Nat×Nat)):=
 match P.underlying t with
 |some (.struct fs)=>if P.stoodInHeld t||P.eqGuardType P.depth t||fs.any (·.name== "_")then aC else fs.toList.mapM λ f=>(FO P f.type).map λ g=>(f.offset,g)
 |_=>aC
def MA:Nat->Value->Value->Option Bool
 |0,.int k a,.int k' b=>if k=k' then aA (a==b)else aC
 |1,.bool a,.bool b=>aA (a==b)
 |2,.string a,.string b=>aA (a==b)
 |_,_,_=>aC
def vC(xs ys:List Value):List (Nat×Nat)->Option Bool
 |[]=>aA aB
 | (off,g)::r=>match xs[off]?,ys[off]? with
   | some a,aA b=>match MA g a b,vC xs ys r with
     |some p,aA q=>aA (p&&q)
     |_,_=>aC
   |_,_=>aC
def KU{g:Nat}(ht:FO P t=aA g){a b:Value}(h:MA g a b=aA p)(w:World):(Op.equalIn (d+1) t a b).run P w= .ok p w:=by
 unfold FO at ht;split at ht;.rename_i kk hu;cases ht;cases a<;>cases b<;>simp[MA]at h;obtain⟨rfl,rfl⟩:=h;simp[Op.equalIn,run_underlying hu]
 .rename_i hu;cases ht;cases a<;>cases b<;>simp[MA]at h;subst h;simp[Op.equalIn,run_underlying hu]
 .rename_i hu;cases ht;cases a<;>cases b<;>simp[MA]at h;subst h;simp[Op.equalIn,run_underlying hu]
 cases ht
def HC{g:Nat}(ht:FO P t=aA g){cs:Array Value}{u:Value}(h:cs[off]? =aA u)(w:World):(part t cs off).run P w= .ok u w:=by
 have:∃d,P.underlying t=aA d/\d.isRow=aF:=by
  unfold FO at ht;split at ht;.exact⟨_,‹_›,rfl⟩
  .exact⟨_,‹_›,rfl⟩
  .exact⟨_,‹_›,rfl⟩
  cases ht
 obtain⟨d,hd,hdr⟩:=this;have hagg:(isAgg t).run P w= .ok aF w:=by unfold isAgg;rw[bS,run_underlying hd w];cases d<;>simp_all
 simp[part,hagg,h]
def IOq(xs ys:List Value):∀(fs:List Field) (offs:List (Nat×Nat)) (p:Bool),(∀f∈fs,f.name≠ "_")->(fs.mapM λ f=>(FO P f.type).map λ g=>(f.offset,g))=aA offs->vC xs ys offs=aA p→
 ∀w,(Op.eqFields (d+1) xs.toArray ys.toArray fs).run P w= .ok p w:=by
 intro fs
 induction fs with
 |nil=>intro offs p _ hm he w;simp at hm;subst hm;simp[vC]at he;subst he;simp[Op.eqFields]
 |cons f fs ih=>
  intro offs p hn hm he w;rw[List.mapM_cons]at hm;simp only[Option.bind_eq_bind,cJ,aK]at hm;obtain⟨x,⟨g,hg,rfl⟩,offs',hm',hp⟩:=hm;cases hp;simp only[vC]at he;split at he
  .rename_i a b ha hb;split at he;.rename_i p1 q1 h1 h2;cases he;have r1:=HC hg (cs:=xs.toArray) (by rw[cH];exact ha) w;have r2:=HC hg (cs:=ys.toArray) (by rw[cH];exact hb) w;have r3:=KU (d:=d) hg h1 w;have r4:=ih offs' q1 (λ f hf=>hn f (dZ _ hf)) hm' h2 w;simp only[Op.eqFields,iP (hn f (by simp)),bS,r1,r2,r3,bJ];cases p1<;>simp[r4]
   cases he
  cases he
def aXU{ty:Nat}{xc yc:List AVal}{xs ys:List Value}(ho:o.op= .binOp (if neg then .neq else .eql) t x y ty)(ht:uL P t=aA offs)
 (hx:ev x=aA (.agg xc)) (hy:ev y=aA (.agg yc)) (hxs:nY xc=aA xs) (hys:nY yc=aA ys) (he:vC xs ys offs=aA p):OpOk P Γ o ev get k ⟨.lit (.bool (if neg then !p else p)),k,[],[]⟩:=by
 refine cL λ w G ρ H A a hr hrd hop=>⟨.bool (if neg then !p else p),?_,.lit⟩;have hmx:x∈o.op.operands:=by cases neg<;>simp[ho,Op.operands]
 have hmy:y∈o.op.operands:=by cases neg<;>simp[ho,Op.operands]
 have ex:a.eval x= .agg xs.toArray:=ND (hop x hmx _ hx) (by simp[TZ,hxs]);have ey:a.eval y= .agg ys.toArray:=ND (hop y hmy _ hy) (by simp[TZ,hys]);unfold uL at ht;split at ht
 .rename_i fs hu;split at ht;.cases ht
  rename_i hc;simp only[gQ,not_or,bVK]at hc;obtain⟨⟨h1,h2⟩,h3⟩:=hc;have hfs:P.fieldsOf t=fs:=by simp[Program.fieldsOf,hu]
  have hnm:∀f∈fs.toList,f.name≠ "_":=λ f hf he=>by have:=Array.any_eq_false'.1 h3 f (by simpa using hf);simp[he]at this
  have hrun:=IOq (P:=P) (d:=9998) xs ys fs.toList offs p hnm ht he w;have hstr:=run_equalIn_struct (P:=P) w 9999 t xs.toArray ys.toArray (by rw[hfs];exact hu) h1;rw[hfs,hrun]at hstr;have hg:=λ op=>run_eqGuard_agg (P:=P) w op t x y xs.toArray ys.toArray h2;cases neg;.simp only[execOp,ho,ex,ey,bP,if_false,bS,hg,bJ,run_eql_struct,hstr,dO]
  simp only[execOp,ho,ex,ey,if_true,bS,hg,bJ,run_neq_struct,hstr,dO]
 cases ht
def tJ{rows:List (List AVal)}(h:(rows.all λ row=>row.all one)=aB):NH rows:=λ _ _ _ _ h1 h2=>iR (iR h h1) h2
inductive SrcA (get:Nat->Option Blk):AVal->Nat->Nat->List (List AVal)->Bool->List Nat->Prop
 |rd {s m f}:SrcA get (.rd s m f) s m ((aR m).map f) aB []
 |sl {id r m B}:get id=aA B->r+m<=B.rows.length->SrcA get (.sl id r m) B.sz m ((B.rows.drop r).take m) B.pure [id]
 |nil:SrcA get (.lit (.slice aC 0 0)) 0 0 [] aB []
def SrcA.src{s m:Nat}{rows:List (List AVal)}{ids:List Nat}(h:SrcA get v s m rows p ids){H:mP}(hr:HRel Γ w G ρ H)
 (hrd:∀id,id∈ids->∃B A',get id=aA B/\H id=aA (B,A')/\∀i,A' i->A i) (hv:V w G ρ A v cv):Src w G ρ A s m rows p cv:=by
 cases h with
 |nil=>exact⟨rfl,λ r row h=>by simp at h,λ h=>oO⟩
 |rd=>
  rename_i f
  cases hv with
  |rd0=>exact⟨by simp,λ r row h=>by simp at h,λ h=>oO⟩
  |rd g hb hcap hn hl hc hvv=>
   have hget:∀(r:Nat) row,((aR m).map f)[r]? =aA row->r<m/\row=f r:=λ r row h=>by rw[aV]at h;simp only[aK]at h;obtain⟨i,hi,rfl⟩:=h;obtain⟨hlt,he⟩:=aL.1 hi;simp at he hlt;subst he;exact⟨hlt,rfl⟩
   refine⟨by simp,λ r row h=>?_,λ _=>⟨_,_,_,rfl,g,λ r row c v h1 h2=>?_⟩⟩;.obtain⟨h1,rfl⟩:=hget r row h;exact hl r h1
   obtain⟨h3,rfl⟩:=hget r row h1;exact⟨hc r c v h3 h2,by simp only[if_true];exact hvv r c v h3 h2⟩
 |sl hB hle=>
  rename_i id r B;obtain⟨B',A',h1,hH,hAA⟩:=hrd id (by simp);rw[hB]at h1;cases h1;obtain⟨_,b,hb,_,hBR⟩:=hr.blk id B A' hH;have hlen:=hBR.len
  have hget:∀(q:Nat) row,((B.rows.drop r).take m)[q]? =aA row->B.rows[r+q]? =aA row:=λ q row h=>by
   rw[fA]at h;split at h;.rw[fJ]at h;exact h
   cases h
  cases hv with
  |dangs _ hn=>rw[hb]at hn;cases hn
  |sl0=>exact⟨by simp,λ q row h=>hlen _ row (hget q row h),λ hm0=>absurd hm0 (oX _)⟩
  |sl ha hρ hsh hm hn hc hoff=>
   rw[hb]at hρ;cases hρ;obtain⟨⟨C,ty,hC,hrows⟩,_⟩:=hBR.old hsh;refine⟨by simp;omega,λ q row h=>hlen _ row (hget q row h),λ hm0=>⟨_,_,_,rfl,λ q c=>C.getD ((r+q)*B.sz+c) undef,λ q row c v h1 h2=>?_⟩⟩;have hoff':=hoff.resolve_left oO;subst hoff';obtain⟨cu,h3,h4⟩:=hrows _ row c v (hget q row h1) h2;have e:C.getD ((r+q)*B.sz+c) undef=cu:=by rw[aM,h3];rfl
   show w.cell? ⟨b,r*B.sz+q*B.sz+c,aC⟩=aA (C.getD ((r+q)*B.sz+c) undef)/\V w G (if B.pure then bX else ρ) (if B.pure then cQ else A) v (C.getD ((r+q)*B.sz+c) undef);rw[e];refine⟨?_,?_⟩;.rw[cell_of_row w b _ C ty (0,0) hC,<-h3];congr 1;rw[cW]
   by_cases hp:B.pure=aB;.simp only[hp,if_true]at h4⊢;exact h4
   simp only[hp]at h4⊢;exact h4.mono (λ _ h=>h) (λ _ _=>rfl) (λ _ _=>rfl) hAA (λ _ _=> .inr rfl)
def LN(w:World)(t ty e:TypeId)(i:TypeInfo)(ht:P.underlying t=aA (.slice e))(hi:P.info? e=aA i)(base q:Option Addr)(n cap c:Nat)(h:n<=cap):
 (Builtin.append_ #[t,t] ty #[.slice base n cap,.slice q 0 c]).run P w= .ok (.slice base n cap) w:=by cases base<;>cases q<;>simp[Builtin.append_,run_underlying ht,sizeOf,typeInfo,hi,Builtin.lenOf,h,Builtin.firstCells,loadCells,loadCellsFrom,storeCells]
def GQ{s:Nat}{u:AVal}{rows:List (List AVal)}{ids idx:List Nat}(ho:o.op= .call {callee:= .builtin .append,args:= #[x,y],argTypes:= #[t,t]})(hz:iD P t=aA (s,by',zrow))
 (hx:ev x=aA u) (hy:ev y=aA v) (hu:(u= .lit (.slice aC 0 0)/\idx=[])\/(∃s1 n f,u= .rd s1 n f/\idx=[])\/(∃id r n,u= .sl id r n/\idx=[id]/\(get id).isSome=aB)) (hs:SrcA get v s' 0 rows p ids):
 OpOk P Γ o ev get k ⟨u,k,[],idx++ids⟩:=by
 refine cL λ w G ρ H A a hr hrd hop=>?_;have hvx:=hop x pC _ hx;have hvy:=hop y pC _ hy
 have hxs:∃base n cap,a.eval x= .slice base n cap/\n<=cap:=by
  generalize a.eval x=cv at hvx;rcases hu with⟨rfl,_⟩|⟨s1,n,f,rfl,_⟩|⟨id,r,n,rfl,he,hg⟩;.cases hvx;exact⟨_,_,_,rfl,aJ _⟩
  .cases hvx with
   |rd0=>exact⟨_,_,_,rfl,bF _⟩
   |rd _ _ hcap=>exact⟨_,_,_,rfl,hcap⟩
  obtain⟨B',A',h2,hH,_⟩:=hrd id (by simp[he]);obtain⟨_,b,hb,_⟩:=hr.blk id B' A' hH
  cases hvx with
  |dangs _ hn=>rw[hb]at hn;cases hn
  |sl _ _ _ _ h5=>exact⟨_,_,_,rfl,h5⟩
  |sl0=>exact⟨_,_,_,rfl,aJ _⟩
 have hys:∃q c,a.eval y= .slice q 0 c:=by
  generalize a.eval y=cv at hvy
  cases hs with
  |nil=>cases hvy;exact⟨_,_,rfl⟩
  |rd=>cases hvy with
   |rd0=>exact⟨_,_,rfl⟩
   |rd=>exact⟨_,_,rfl⟩
  |sl hB hle=>
   rename_i id r B;obtain⟨B',A',h2,hH,_⟩:=hrd id (by simp);obtain⟨_,b,hb,_⟩:=hr.blk id B' A' hH
   cases hvy with
   |dangs _ hn=>rw[hb]at hn;cases hn
   |sl=>exact⟨_,_,rfl⟩
   |sl0=>exact⟨_,_,rfl⟩
 obtain⟨base,n,cap,ex,hcap⟩:=hxs;obtain⟨q,c,ey⟩:=hys;unfold iD at hz;split at hz
 .rename_i e he;split at hz;.rename_i i hi;rw[ex]at hvx;refine⟨.slice base n cap,?_,hvx⟩;have:=LN (P:=P) w t o.type e i he hi base q n cap c hcap;simp only[execOp,ho,resolve,invoke,builtin,uA,bN,bV,ex,ey,bS,dO,bJ,this]
  cases hz
 cases hz
def TP{s m:Nat}{rows:List (List AVal)}{ids:List Nat}(ho:o.op= .call {callee:= .builtin .append,args:= #[x,y],argTypes:= #[t,t]})(hz:iD P t=aA (s,by',zrow))
 (hx:ev x=aA (.lit (.slice aC 0 0))) (hy:ev y=aA v) (hs:SrcA get v s m rows p ids) (hm:0<m) (hlen:m<=9223372036854775807) (hby:m*by'<=140737488355328) (hone:(rows.all λ row=>row.all one)=aB):
 OpOk P Γ o ev get k ⟨.sl k 0 m,k+1,[(k,aA ⟨s,p,rows⟩)],ids⟩:=by
 have:=MI (P:=P) (Γ:=Γ) (o:=o) (ev:=ev) (get:=get) (k:=k) (n:=0) (olds:=[]) (pd:=aB) (idd:=aC) (rds:=ids) ho hz hm oO (by rw[eQ];exact hby) (tJ hone) (λ id h=>by cases h)
  (λ w G ρ H A a hr hrd hop=> .inl ⟨rfl,rfl,rfl,iB (hop x pC _ hx)⟩) (λ w G ρ H A a hr hrd hop=>hs.src hr hrd (hop y pC _ hy))
 simpa using this
def ZT{s m id:Nat}{B:Blk}{rows:List (List AVal)}{ids:List Nat}(ho:o.op= .call {callee:= .builtin .append,args:= #[x,y],argTypes:= #[t,t]})(hz:iD P t=aA (s,by',zrow))
 (hx:ev x=aA (.sl id 0 n)) (hB:get id=aA B) (hBs:B.sz=s) (hBn:B.rows.length=n) (hk:id<k) (hy:ev y=aA v) (hs:SrcA get v s m rows p ids) (hm:0<m) (hlen:n+m<=9223372036854775807) (hby:(n+m)*by'<=140737488355328) (hone:(rows.all λ row=>row.all one)=aB):
 OpOk P Γ o ev get k ⟨.sl k 0 (n+m),k+1,[(k,aA ⟨s,B.pure&&p,B.rows++rows⟩),(id,aC)],id::ids⟩:=by
 have:=MI (P:=P) (Γ:=Γ) (o:=o) (ev:=ev) (get:=get) (k:=k) (n:=n) (olds:=B.rows) (pd:=B.pure) (idd:=aA id) (rds:=id::ids) ho hz hm hlen hby (tJ hone) (λ id' h=>by cases h;exact hk)
  (λ w G ρ H A a hr hrd hop=>by obtain⟨B',A',h1,h2,h3⟩:=hrd id (by simp);rw[hB]at h1;cases h1;exact .inr ⟨id,B,A',rfl,h2,h3,hBs,rfl,rfl,hBn,hop x pC _ hx⟩)
  (λ w G ρ H A a hr hrd hop=>hs.src hr (λ i hi=>hrd i (dZ _ hi)) (hop y pC _ hy))
 simpa using this
end
variable{B:Blk}{r:List AVal}{m s:Nat}
def VLe(v v':AVal):Prop:=∀w G ρ A cv,V w G ρ A v cv->V w G ρ A v' cv
def bL (v:AVal):VLe v v:=λ _ _ _ _ _ h=>h
def VLe.rd{f g:Nat->List AVal}(h:∀i,i<n->f i=g i):VLe (.rd sz n f) (.rd sz n g):=λ w G ρ A cv hv=>by
 cases hv with
 |rd0=>exact .rd0
 |rd gg hb hcap hn hl hc hvv=>exact .rd gg hb hcap hn (λ i hi=>by rw[<-h i hi];exact hl i hi) (λ i j v hi hj=>hc i j v hi (by rw[h i hi];exact hj)) (λ i j v hi hj=>hvv i j v hi (by rw[h i hi];exact hj))
def VLe.agg {cs ds:List AVal}(hl:cs.length=ds.length)(h:∀(j:Nat) u v,cs[j]? =aA u->ds[j]? =aA v->VLe u v):VLe (.agg cs) (.agg ds):=λ w G ρ A cv hv=>by
 cases hv with
 |agg h1 h2=>refine .agg oO λ j v hj=>?_;have hlt:=(aL.1 hj).1;have hu:cs[j]? =aA cs[j]:=aN oO;exact h j _ v hu hj _ _ _ _ _ (h2 j _ hu)
structure BLe (B B':Blk):Prop where
 sz:B'.sz=B.sz
 rows:∀(r:Nat) row',B'.rows[r]? =aA row'->∃row,B.rows[r]? =aA row/\row.length=row'.length/\∀(c:Nat) u v,row[c]? =aA u->row'[c]? =aA v->VLe u v
 pure:B'.pure=aB->B.pure=aB\/(B'.rows.all λ row=>row.all clean)=aB
def nN (B:Blk):BLe B B:=⟨rfl,λ r row h=>⟨row,h,rfl,λ c u v h1 h2=>by rw[h1]at h2;cases h2;exact bL _⟩,λ h=> .inl h⟩
section
variable{P:Program}{Γ:dW}{nt kb:Nat}{Q Q':AQ}{k:Nat}{fr:Fr}{H:aS}
structure WkG (kb k:Nat) (fr:Fr) (H:aS) (k1:Nat) (fr1:Fr) (H1:aS):Prop where
 base:kb<=k1
 frm:∀t v,look fr1 t=aA v->∃u,look fr t=aA u/\VLe u v
 heap:∀id B,look H1 id=aA B->∃C,look H id=aA C/\BLe C B
 bound:k1=k\/(bdF (kC k1) fr1=aB/\oU (kC k1) H1=aB)
def BRel.le{B':Blk}{b:Nat}(h:BRel w G ρ A B b)(hl:BLe B B'):BRel w G ρ A B' b:=by
 obtain⟨⟨C,ty,hC,hrows⟩,hlen⟩:=h;refine⟨⟨C,ty,hC,λ r row' c v h1 h2=>?_⟩,λ r row' h1=>?_⟩
 .obtain⟨row,h3,h4,h5⟩:=hl.rows r row' h1;have hlt:=(aL.1 h2).1;have hu:row[c]? =aA row[c]:=aN oO;obtain⟨cv,h6,h7⟩:=hrows r row c _ h3 hu;refine⟨cv,by rw[hl.sz];exact h6,?_⟩;have h8:=h5 c _ v hu h2 _ _ _ _ _ h7;by_cases hp':B'.pure=aB
  .simp only[hp',if_true];rcases hl.pure hp' with hp|hp;.simp only[hp,if_true]at h8;exact h8
   exact IY h8 (iR (iR hp h1) h2)
  simp only[hp'];by_cases hp:B.pure=aB;.simp only[hp,if_true]at h8;exact h8.weaken
  simp only[hp]at h8;exact h8
 obtain⟨row,h3,h4,_⟩:=hl.rows r row' h1;rw[hl.sz,<-h4];exact hlen r row h3
def WkG.inv{A0:cF}(hw:WkG kb k fr H k1 fr1 H1)(hi:Inv Γ nt w G ρ (kI A0 kb k) a fr H):
 ∃ρ',Inv Γ nt w G ρ' (kI A0 kb k1) a fr1 H1/\∀A,Step A w G ρ w G ρ':=by
 let ρ':dH:=λ id=>match look H1 id with|some _=>ρ id|none=>aC
 have hρ:∀id,ρ' id=aC\/ρ' id=ρ id:=λ id=>by
  simp only[ρ'];split;.exact .inr rfl
  exact .inl rfl
 have hsome:∀id x,ρ' id=aA x->ρ id=aA x/\∃B,look H1 id=aA B:=λ id x h=>by
  simp only[ρ']at h;split at h;.rename_i B hB;exact⟨h,B,hB⟩
  cases h
 have hV:∀v cv,V w G ρ (kI A0 kb k) v cv->V w G ρ' (kI A0 kb k) v cv:=λ v cv h=>
  h.mono (λ _ h=>h) (λ _ _=>rfl) (λ _ _=>rfl) (λ _ h=>h) (λ id _=>hρ id)
 have hlow:∀i,kI A0 kb k i->i<k1->kI A0 kb k1 i:=λ i h1 h2=>by
  rcases h1 with h1|h1;.exact .inl h1
  exact .inr ⟨h1.1,h2⟩
 have hVl:∀v cv,V w G ρ' (λ i=>kI A0 kb k i/\kC k1 i=aB) v cv->V w G ρ' (kI A0 kb k1) v cv:=λ v cv h=>
  h.mono (λ _ h=>h) (λ _ _=>rfl) (λ _ _=>rfl) (λ i h=>hlow i h.1 (of_decide_eq_true h.2)) (λ _ _=> .inr rfl)
 refine⟨ρ',⟨⟨?_,?_,?_,hi.rel.ro,hi.rel.glob⟩,hi.size,hi.defers,?_⟩,λ A=>⟨aJ _,λ _ _ _=>rfl,λ _ _=>rfl,λ _ h=>h,λ _ h=> .inl h,?_,λ id _=>hρ id,rfl,rfl,rfl⟩⟩;.intro id h;simp only[bK,dL]at h;simp only[ρ',h]
 .intro id B A h;simp only[bK,aK]at h;obtain⟨B',hB,he⟩:=h;cases he;obtain⟨C0,hl,hle⟩:=hw.heap id B hB;obtain⟨hlt,b,hb,hg,hBR0⟩:=hi.rel.blk id C0 (kI A0 kb k) (by simp[bK,hl]);have hBR:=hBR0.le hle;refine⟨?_,b,by simp only[ρ',hB,hb,hle.sz],hg,?_⟩
  .rcases hw.bound with rfl|⟨_,hh⟩;.exact hlt
   have:=DH hh hB;simp only[aO]at this;exact hlow _ hlt (of_decide_eq_true this.1)
  obtain⟨⟨C,ty,hC,hrows⟩,hlen⟩:=hBR;refine⟨⟨C,ty,hC,λ r row c v hr hc=>?_⟩,hlen⟩;obtain⟨cv,h1,h2⟩:=hrows r row c v hr hc;refine⟨cv,h1,?_⟩;by_cases hp:B.pure=aB;.simp only[hp,if_true]at h2⊢;exact h2
  simp only[hp]at h2⊢
  have h3:=hV v cv h2;rcases hw.bound with rfl|⟨_,hh⟩;.exact h3
  have:=DH hh hB;simp only[aO,gQ]at this;have h5:=this.2.resolve_left hp;have h4:=iR (iR h5 hr) hc;exact hVl _ _ (WP h3 h4)
 .intro i j b s t h1 h2;exact hi.rel.inj i j b s t (hsome _ _ h1).1 (hsome _ _ h2).1
 .intro t v h;obtain⟨u,hu,hle⟩:=hw.frm t v h;have h1:=hV _ _ (hle _ _ _ _ _ (hi.frm t u hu));rcases hw.bound with rfl|⟨hf,_⟩;.exact h1
  exact hVl _ _ (aEX h1 (DH hf h))
 rintro b ⟨id,s,hb⟩;exact .inl ⟨id,s,(hsome _ _ hb).1⟩
def upG(kb:Nat)(Q:AQ):AQ:=λ e k fr H=>∃k1 fr1 H1,WkG kb k fr H k1 fr1 H1/\Q e k1 fr1 H1
def a9C{c:Code}(h:W P Γ nt kb c (upG kb Q) k fr H):W P Γ nt kb c Q k fr H:=λ A0 hA0 hk w G ρ a hi=>
 wp_mono (h A0 hA0 hk w G ρ a hi) λ e a' w' hp=>by obtain⟨G',ρ',k',fr',H',⟨k1,fr1,H1,hw,hQ⟩,hk',hi',hst⟩:=hp;obtain⟨ρ1,hi1,hs1⟩:=hw.inv hi';exact⟨G',ρ1,k1,fr1,H1,hQ,hw.base,hi1,hst.trans (hs1 (lX kb)) (λ _ h=>h)⟩
def kY(id:Nat)(B:Blk):AVal->AVal
 | .sl i r n=>if i=id/\r+n<=B.rows.length then .rd B.sz n (λ j=>B.rows.getD (r+j) [])else .sl i r n
 | .ptr i r c=>if i=id/\r<B.rows.length then .rp ((B.rows.getD r []).drop c)else .ptr i r c
 |v=>v
def frz(id:Nat)(B:Blk):AVal->AVal
 | .agg cs=> .agg (cs.map (kY id B))
 | .fn f cs=> .fn f (cs.map (kY id B))
 |v=>kY id B v
def qO(id:Nat)(B:Blk)(fr:Fr):Fr:=fr.map λ x=>(x.1,frz id B x.2)
def MW(id:Nat)(B:Blk)(C:Blk):Blk:=if C.pure then C else⟨C.sz,aF,C.rows.map λ row=>row.map (kY id B)⟩
def AR(id:Nat)(B:Blk)(H:aS):aS:=(del H id).map λ x=>(x.1,MW id B x.2)
def mL{α β:Type}(f:α->β):∀(l:List (Nat×α)) (i:Nat),look (l.map λ x=>(x.1,f x.2)) i=(look l i).map f
 |[],i=>rfl
 |(a,x)::r,i=>by
  simp only[bN,look];by_cases h:a=i;.rw[iP h,iP h];rfl
  rw[iN h,iN h];exact mL f r i
def YQ{id b:Nat}(hG:∀x,G x->G' x)(hGb:G' b)(hρ:ρ id=aA (b,B.sz))(hB:BRel w G ρ A B b)(hp:B.pure=aB)(hv:V w G ρ A' v cv):
 V w G' (fQ ρ id aC) A' (kY id B v) cv:=by
 have base:∀u cu,V w G ρ A' u cu->V w G' (fQ ρ id aC) A' u cu:=λ u cu h=>
  h.mono hG (λ _ _=>rfl) (λ _ _=>rfl) (λ _ h=>h) (λ i _=>by
   simp only[fQ];split;.exact .inl rfl
   exact .inr rfl)
 cases hv with
 |nn=>simp only[kY];exact .nn
 |dangc ha hr=>exact base _ _ (.dangc ha hr)
 |slc h1 h2 h3 h4 h5 h6 h7=>exact base _ _ (.slc h1 h2 h3 h4 h5 h6 h7)
 |bfn h=>exact base _ _ (.bfn h)
 |sl ha hr hsh hm hn hc hoff=>
  rename_i i r n b' s ty m cap off;simp only[kY];split
  .rename_i hcond;obtain⟨rfl,hle⟩:=hcond;rw[hρ]at hr;cases hr;by_cases hn0:n=0;.subst hn0;exact .rd0
   have hoff':=hoff.resolve_left oO;subst hoff';obtain⟨⟨C,ty',hC,hrows⟩,hlen⟩:=hB.old hsh;have hrow:∀j,j<n->B.rows[r+j]? =aA (B.rows.getD (r+j) []):=λ j hj=>by rw[aU,aN oO];rfl
   refine .rd (λ j c=>C.getD ((r+j)*B.sz+c) undef) hGb hn oO (λ j hj=>hlen _ _ (hrow j hj)) (λ j c v hj hc'=>?_) (λ j c v hj hc'=>?_)
   .obtain⟨cu,h1,_⟩:=hrows _ _ c v (hrow j hj) hc';rw[cell_of_row w b _ C ty' (0,0) hC];have e:r*B.sz+j*B.sz+c=(r+j)*B.sz+c:=by rw[cW]
    rw[e,h1,aM,h1];rfl
   obtain⟨cu,h1,h2⟩:=hrows _ _ c v (hrow j hj) hc';simp only[hp,if_true]at h2;have e:C.getD ((r+j)*B.sz+c) undef=cu:=by rw[aM,h1];rfl
   rw[e];exact h2.mono hG (λ _ _=>rfl) (λ _ _=>rfl) (λ _ h=>h) (λ _ h=>h.elim)
  exact base _ _ (.sl ha hr hsh hm hn hc hoff)
 |sl0 ha hr=>
  simp only[kY];split;.exact .rd0
  exact base _ _ (.sl0 ha hr)
 |dangs ha hr=>
  rename_i i r n x m c;simp only[kY];split;.rename_i hcond;obtain⟨rfl,_⟩:=hcond;rw[hρ]at hr;cases hr
  exact base _ _ (.dangs ha hr)
 |junk=>exact base _ _ .junk
 |lit=>exact base _ _ .lit
 |dang ha hr=>
  rename_i i r c x;simp only[kY];split;.rename_i hcond;obtain⟨rfl,_⟩:=hcond;rw[hρ]at hr;cases hr
  exact base _ _ (.dang ha hr)
 |dangm ha hr=>exact base _ _ (.dangm ha hr)
 |mp ha hr hs=>exact base _ _ (.mp ha hr hs)
 |dangi ha hr=>exact base _ _ (.dangi ha hr)
 |it ha hr hs=>exact base _ _ (.it ha hr hs)
 |ptr ha hr hsh=>
  rename_i i r c b' s _ _;simp only[kY];split
  .rename_i hcond;obtain⟨rfl,hlt⟩:=hcond;rw[hρ]at hr;cases hr;obtain⟨⟨C,ty',hC,hrows⟩,hlen⟩:=hB.old hsh;have hrow:B.rows[r]? =aA (B.rows.getD r []):=by rw[aU,aN hlt];rfl
   refine .rp (λ j=>C.getD (r*B.sz+(c+j)) undef) hGb (λ j v hj=>?_) (λ j v hj=>?_);.rw[fJ]at hj;obtain⟨cu,h1,_⟩:=hrows _ _ _ v hrow hj;rw[cell_of_row w b _ C ty' (0,0) hC,gM,h1,aM,h1];rfl
   rw[fJ]at hj;obtain⟨cu,h1,h2⟩:=hrows _ _ _ v hrow hj;simp only[hp,if_true]at h2;have e:C.getD (r*B.sz+(c+j)) undef=cu:=by rw[aM,h1];rfl
   rw[e];exact h2.mono hG (λ _ _=>rfl) (λ _ _=>rfl) (λ _ h=>h) (λ _ h=>h.elim)
  exact base _ _ (.ptr ha hr hsh)
 |rp g h1 h2 h3=>exact base _ _ (.rp g h1 h2 h3)
 |rd0=>exact base _ _ .rd0
 |rd g h1 h2 h3 h4 h5 h6=>exact base _ _ (.rd g h1 h2 h3 h4 h5 h6)
 |agg h1 h2=>exact base _ _ (.agg h1 h2)
 |tup h1 h2=>exact base _ _ (.tup h1 h2)
 |fn h1 h2=>exact base _ _ (.fn h1 h2)
def bGB{id b:Nat}(hG:∀x,G x->G' x)(hGb:G' b)(hρ:ρ id=aA (b,B.sz))(hB:BRel w G ρ A B b)(hp:B.pure=aB)(hv:V w G ρ A' v cv):
 V w G' (fQ ρ id aC) A' (frz id B v) cv:=by
 cases v with
 |agg cells=>
  cases hv with
  |agg h1 h2=>refine .agg (by simpa using h1) λ j u hj=>?_;rw[aV]at hj;simp only[aK]at hj;obtain⟨u',hu',rfl⟩:=hj;exact YQ hG hGb hρ hB hp (h2 j u' hu')
 |fn f cells=>
  cases hv with
  |fn h1 h2=>refine .fn (by simpa using h1) λ j u hj=>?_;rw[aV]at hj;simp only[aK]at hj;obtain⟨u',hu',rfl⟩:=hj;exact YQ hG hGb hρ hB hp (h2 j u' hu')
 |_=>exact YQ hG hGb hρ hB hp hv
def aHK{id:Nat}(hB:look H id=aA B)(hp:B.pure=aB)(hi:Inv Γ nt w G ρ A a fr H):
 ∃G' ρ',Inv Γ nt w G' ρ' A a (qO id B fr) (AR id B H)/\∀S,Step S w G ρ w G' ρ':=by
 obtain⟨hA,b,hb,hg,hBR⟩:=hi.rel.blk id B A (by simp[bK,hB]);let G':Nat->Prop:=λ x=>G x\/x=b
 have hst:∀S:cF,Step S w G ρ w G' (fQ ρ id aC):=λ S=>by
  refine⟨aJ _,λ _ _ _=>rfl,λ _ _=>rfl,λ _ h=> .inl h,λ x h=>?_,?_,λ i _=>?_,rfl,rfl,rfl⟩
  .rcases h with h|h;.exact .inl h
   exact .inr (.inl (h▸⟨id,_,hb⟩))
  .rintro x ⟨i,s,hx⟩;simp only[fQ]at hx;split at hx;.cases hx
   exact .inl ⟨i,s,hx⟩
  simp only[fQ];split;.exact .inl rfl
  exact .inr rfl
 have hV:∀A' v cv,V w G ρ A' v cv->V w G' (fQ ρ id aC) A' (frz id B v) cv:=λ A' v cv h=>bGB (λ _ h=> .inl h) (.inr rfl) hb hBR hp h;have hV0:∀A' v cv,V w G ρ A' v cv->V w G' (fQ ρ id aC) A' (kY id B v) cv:=λ A' v cv h=>YQ (λ _ h=> .inl h) (.inr rfl) hb hBR hp h;refine⟨G',fQ ρ id aC,⟨?_,hi.size,hi.defers,λ t v hv=>?_⟩,hst⟩
 .refine hi.rel.after (hst (λ _=>True)) _ (λ i hi'=>?_) (λ i C A1 hi'=>?_) (λ i j c s t h1 h2=>?_) (λ x hx=>?_)
  .simp only[bK,dL,AR]at hi';rw[mL,dL,iK]at hi';simp only[fQ];split at hi';.rename_i he;rw[iP he]
   rename_i he;rw[iN he];exact hi.rel.dom i (by simp[bK,hi'])
  .simp only[bK,aK,AR]at hi';obtain⟨C',hC',he⟩:=hi';cases he;rw[mL,aK]at hC';obtain⟨D,hD,rfl⟩:=hC';rw[iK]at hD;split at hD;.cases hD
   rename_i hne;obtain⟨h1,b',h2,h3,h4⟩:=hi.rel.blk i D A (by simp[bK,hD]);have hbne:b'≠b:=λ he=>hne (hi.rel.inj i id _ _ _ h2 (he▸hb));have hg':¬G' b':=λ h=>h.elim h3 hbne;have hsz:(MW id B D).sz=D.sz:=by unfold MW;split<;>rfl
   refine⟨h1,.inr ⟨b',by simp only[fQ,hne,if_false,h2,hsz],hg',?_⟩⟩;unfold MW;split;.rename_i hpd;exact h4.step hi.rel (hst (λ _=>True)) (λ _ _=>trivial) (λ _ h=>h) rfl
   rename_i hpd;obtain⟨⟨C,ty,hC,hrows⟩,hlen⟩:=h4;have hgr:∀(r:Nat) row,(D.rows.map λ row=>row.map (kY id B))[r]? =aA row->∃row0,D.rows[r]? =aA row0/\row=row0.map (kY id B):=λ r row h=>by rw[aV]at h;simp only[aK]at h;obtain⟨row0,h5,rfl⟩:=h;exact⟨row0,h5,rfl⟩
   refine⟨⟨C,ty,hC,λ r row c v h5 h6=>?_⟩,λ r row h5=>?_⟩;.obtain⟨row0,h7,rfl⟩:=hgr r row h5;rw[aV]at h6;simp only[aK]at h6;obtain⟨v0,h8,rfl⟩:=h6;obtain⟨cv,h9,h10⟩:=hrows r row0 c v0 h7 h8;simp only[hpd]at h10;exact⟨cv,h9,by simp only[bP,if_false];exact hV0 _ _ _ h10⟩
   obtain⟨row0,h7,rfl⟩:=hgr r row h5;simpa using hlen r row0 h7
  .simp only[fQ]at h1 h2;split at h1;.cases h1
   split at h2;.cases h2
   exact hi.rel.inj i j c s t h1 h2
  rcases hx with hx|rfl;.exact hi.rel.ro x hx
  exact hi.rel.owned_lt ⟨id,_,hb⟩
 unfold qO at hv;rw[mL,aK]at hv;obtain⟨u,hu,rfl⟩:=hv;exact hV _ _ _ (hi.frm t u hu)
def Tr.weaken{f:FuncId}{H:aS}{Q Q':Nat->AVal->aS->Prop}(h:Tr P Γ f k args H Q')
 (hq:∀k' r H',k<=k'->Q' k' r H'->∃k1 r1 H1,k<=k1/\VLe r r1/\(∀id B,look H1 id=aA B->∃C,look H' id=aA C/\BLe C B)/\(k1=k'\/(bd (kC k1) r1=aB/\oU (kC k1) H1=aB))/\Q k1 r1 H1):Tr P Γ f k args H Q:=by
 intro A hA w G ρ cargs h1 h2;refine(h A hA w G ρ cargs h1 h2).mono ?_;rintro e w' ⟨cv,G',ρ',k',r,H',rfl,hQ,hk,hrel,hv,hst⟩;obtain⟨k1,r1,H1,hk1,hle,hH,hb,hQ1⟩:=hq k' r H' hk hQ
 have hi:Inv Γ 1 w' G' ρ' (kI A k k') {tmps:= #[cv],defers:=[]} [(0,r)] H':=⟨hrel,rfl,rfl,λ t v hv'=>by
  simp only[look]at hv';split at hv';.rename_i he;subst he;cases hv';exact hv
  cases hv'⟩
 have hw:WkG k k' [(0,r)] H' k1 [(0,r1)] H1:=⟨hk1,λ t v hv'=>by
  simp only[look]at hv'⊢
  split at hv';.rename_i he;cases hv';exact⟨r,by rw[iP he],hle⟩
  exact absurd hv' (by simp),hH,hb.imp id (λ h=>⟨by simp[bdF,h.1],h.2⟩)⟩
 obtain⟨ρ1,hi1,hs1⟩:=hw.inv hi;exact⟨cv,G',ρ1,k1,r1,H1,rfl,hQ1,hk1,hi1.rel,hi1.frm 0 r1 (by simp[look]),hst.trans (hs1 (lX k)) (λ _ h=>h)⟩
def Pure(P:Program)(Γ:dW)(f:FuncId)(args:List AVal)(r:AVal):Prop:=∀k,Tr P Γ f k args [] (λ k1 r1 H1=>k1=k/\r1=r/\H1=[])
def aSA{f:FuncId}{c:Code}{r:AVal}(hf:P.funcs[f]? =aA fn)(hb:fn.body=aA c)(hn:args.length<=fn.ntmps)(hr:bd (λ _=>aF) r=aB)
 (h:∀k,W P Γ fn.ntmps k c (AG P fn (λ _ r1 _=>VLe r1 r)) k (tU 0 args) []):Pure P Γ f args r:=λ k=>by
 refine(OO hf hb hn (h k)).weaken λ k' r1 H' hk hle=>⟨k,r,[],aJ _,hle,λ id B hB=>by simp[look]at hB,.inr ⟨?_,rfl⟩,rfl,rfl,rfl⟩
 have mono0:∀v,iL (λ _=>aF) v=aB->iL (kC k) v=aB:=λ v hv=>by cases v<;>simp_all [iL]
 have mono1:∀v,MG (λ _=>aF) v=aB->MG (kC k) v=aB:=λ v hv=>by
  cases v with
  |agg cs=>exact aY.2 λ x hx=>mono0 x (aY.1 hv x hx)
  |fn f cs=>exact aY.2 λ x hx=>mono0 x (aY.1 hv x hx)
  |_=>simp_all [MG,iL]
 cases r with
 |tup cs=>exact aY.2 λ x hx=>mono1 x (aY.1 hr x hx)
 |agg cs=>exact mono1 (.agg cs) hr
 |fn f cs=>exact mono1 (.fn f cs) hr
 |_=>simp_all [bd,MG,iL]
end
def iZ(P:Program)(t:TypeId):Bool:=match P.underlying t with|some (.struct _)=>aB|_=>aF
def aEM(P:Program)(t:TypeId):Option (Nat×Nat×Bool):=
 match P.underlying t with
 | some (.array n e)=>match pG P e,kK P e with
   |some s,aA ag=>aA (n,s,ag)
   |_,_=>aC
 |_=>aC
def nS(k:Nat)(v:AVal):Out:=⟨v,k,[],[]⟩
def qL(P:Program)(get:Nat->Option Blk)(k t:Nat)(x y:Option AVal):Option Out:=
 match x,y with
 |some (.rd s n f),aA (.lit (.int _ i))=>if DQ P t=aA s/\0<=i/\i<n then aA ⟨.rp (f i.toNat),k,[],[]⟩else aC
 | some (.sl id r n),aA (.lit (.int _ i))=>match get id with
   |some B=>if DQ P t=aA B.sz/\0<=i/\i<n then aA ⟨.ptr id (r+i.toNat) 0,k,[],[id]⟩else aC
   |none=>aC
 | some (.rp cells),aA (.lit (.int _ i))=>match EZ P t with
   |some (m,s)=>if 0<=i/\i<m then aA ⟨.rp (cells.drop (i.toNat*s)),k,[],[]⟩else aC
   |none=>aC
 | some (.ptr id r c),aA (.lit (.int _ i))=>match EZ P t,get id with
   |some (m,s),aA B=>if 0<=i/\i<m then aA ⟨if B.sz=s/\c=0 then .ptr id (r+i.toNat) 0 else .ptr id r (c+i.toNat*s),k,[],[id]⟩else aC
   |_,_=>aC
 |_,_=>aC
def JG(P:Program)(get:Nat->Option Blk)(k t:Nat)(x:Option AVal):Option Out:=
 match kK P t,pG P t,x with
 |some ag,aA n,aA (.rp cells)=>(iX ag n cells 0).map (nS k)
 | some ag,aA n,aA (.ptr id r c)=>match get id with
   | some B=>if r=0/\c=0/\B.sz<n then(iX ag n B.rows.flatten 0).map λ v=>⟨v,k,[],[id]⟩else match B.rows[r]? with
     |some row=>(iX ag n row c).map λ v=>⟨v,k,[],[id]⟩
     |none=>aC
   |none=>aC
 |_,_,_=>aC
def KX(P:Program)(get:Nat->Option Blk)(k t:Nat)(x y:Option AVal):Option Out:=
 match pG P t,x,y.bind xB with
 | some n,aA (.ptr id r c),aA cells=>match get id with
   | some B=>if r=0/\c=0/\B.sz<n then(if cells.length=n/\cells.all one=aB/\0<B.sz/\n=B.rows.length*B.sz then aA ⟨.junk,k,[(id,aA ⟨B.sz,cells.all clean,pI B.sz B.rows.length cells⟩)],[id]⟩else aC)else match B.rows[r]? with
     |some row=>if cells.length=n/\cells.all one=aB/\c+n<=row.length then aA ⟨.junk,k,[(id,aA ⟨B.sz,B.pure&&cells.all clean,B.rows.set r (lG row cells c)⟩)],[id]⟩else aC
     |none=>aC
   |none=>aC
 |_,_,_=>aC
def SI(P:Program)(k t:Nat)(parts:Option (List (Nat×AVal))):Option Out:=
 match jP P t,parts with
 | some cells,aA vs=>
   if iZ P t then match kU P t with
    |some pl=>(FSq (pl[·]?) cells vs).map λ cs=>nS k (.agg cs)
    |none=>aC
   else match aEM P t with
    |some (_,s,_)=>(FSq (λ i=>aA (i*s,s)) cells vs).map λ cs=>nS k (.agg cs)
    |none=>aC
 |_,_=>aC
def tW(P:Program)(k t len:Nat)(parts:Option (List (Nat×AVal))):Option Out:=
 match iD P t,parts with
 | some (s,_,zrow),aA vs=>match FSq (λ i=>aA (i*s,s)) (bI len zrow).flatten vs with
   |some cells=>if len*s<=16777216/\cells.length=len*s then aA ⟨.sl k 0 len,k+1,[(k,aA ⟨s,cells.all clean,pI s len cells⟩)],[]⟩else aC
   |none=>aC
 |_,_=>aC
def aEU(P:Program)(k t:Nat)(x y:Option AVal):Option Out:=
 match iD P t,x,y with
 | some (s,by',zrow),aA (.lit (.int _ l)),aA (.lit (.int _ c))=>
   if 0<=l/\l<=c/\(by':Int)*c<=281474976710656/\c<=9223372036854775807 then aA ⟨.sl k 0 l.toNat,k+1,[(k,aA ⟨s,aB,bI l.toNat zrow⟩)],[]⟩else aC
 |_,_,_=>aC
def EA(get:Nat->Option Blk):AVal->Option (Nat×Nat×List (List AVal)×Bool×List Nat)
 | .rd s m f=>aA (s,m,(aR m).map f,aB,[])
 | .sl id r m=>match get id with
   |some B=>if r+m<=B.rows.length then aA (B.sz,m,(B.rows.drop r).take m,B.pure,[id])else aC
   |none=>aC
 | .lit (.slice aC 0 0)=>aA (0,0,[],aB,[])
 |_=>aC
def kZ(P:Program)(get:Nat->Option Blk)(k t:Nat)(x y:Option AVal):Option Out:=
 match iD P t,x,y.bind (EA get)with
 | some (s,by',_),aA (.lit (.slice aC 0 0)),aA (s',m,rows,p,ids)=>
   if m=0 then aA ⟨.lit (.slice aC 0 0),k,[],ids⟩
   else if s'=s/\0<m/\m<=9223372036854775807/\m*by'<=140737488355328/\(rows.all λ row=>row.all one)=aB then aA ⟨.sl k 0 m,k+1,[(k,aA ⟨s,p,rows⟩)],ids⟩else aC
 | some (s,by',_),aA (.sl id 0 n),aA (s',m,rows,p,ids)=>match get id with
   | some B=>
     if m=0 then aA ⟨.sl id 0 n,k,[],id::ids⟩
     else if s'=s/\B.sz=s/\B.rows.length=n/\id<k/\0<m/\n+m<=9223372036854775807/\(n+m)*by'<=140737488355328/\(rows.all λ row=>row.all one)=aB then
      aA ⟨.sl k 0 (n+m),k+1,[(k,aA ⟨s,B.pure&&p,B.rows++rows⟩),(id,aC)],id::ids⟩else aC
   |none=>aC
 |some _,aA (.rd s1 n f),aA (_,m,_,_,ids)=>if m=0 then aA ⟨.rd s1 n f,k,[],ids⟩else aC
 |_,_,_=>aC
def aHC(op:BinOp)(k:IntKind)(a b:Int):Option Value:=
 match op with
 | .add=>aA (.int k (k.wrap (a+b)))
 | .sub=>aA (.int k (k.wrap (a-b)))
 | .mul=>aA (.int k (k.wrap (a*b)))
 | .quo=>if b=0 then aC else aA (.int k (k.wrap (a.tdiv b)))
 | .rem=>if b=0 then aC else aA (.int k (a.tmod b))
 | .and=>aA (.int k (k.wrap (BitVec.ofInt k.bits a&&&BitVec.ofInt k.bits b).toNat))
 | .or=>aA (.int k (k.wrap (BitVec.ofInt k.bits a|||BitVec.ofInt k.bits b).toNat))
 | .xor=>aA (.int k (k.wrap (BitVec.ofInt k.bits a^^^BitVec.ofInt k.bits b).toNat))
 | .andNot=>aA (.int k (k.wrap (BitVec.ofInt k.bits a&&& ~~~(BitVec.ofInt k.bits b)).toNat))
 | .eql=>aA (.bool (a==b))
 | .neq=>aA (.bool (a !=b))
 | .lss=>aA (.bool (decide (a<b)))
 | .leq=>aA (.bool (decide (a<=b)))
 | .gtr=>aA (.bool (decide (b<a)))
 | .geq=>aA (.bool (decide (b<=a)))
 |_=>aC
def aKJ(op:BinOp)(k:IntKind)(a b:Int):Option Value:=
 match op with
 | .shl=>if b<0 then aC else aA (.int k (k.wrap (a*2^min b.toNat k.bits)))
 | .shr=>if b<0 then aC else aA (.int k (a.fdiv (2^min b.toNat k.bits)))
 |_=>aC
def aFP(op:BinOp)(x y:ByteArray):Option Value:=
 match op with
 | .add=>if((x.size+y.size:Nat):Int)>9223372036854775807 then aC else aA (.string (x++y))
 | .eql=>aA (.bool (x.toList==y.toList))
 | .neq=>aA (.bool !(x.toList==y.toList))
 | .lss=>aA (.bool (Op.bytesLess x.toList y.toList))
 | .leq=>aA (.bool (Op.bytesLess x.toList y.toList||x.toList==y.toList))
 | .gtr=>aA (.bool !(Op.bytesLess x.toList y.toList||x.toList==y.toList))
 | .geq=>aA (.bool !Op.bytesLess x.toList y.toList)
 |_=>aC
def NZ:BinOp->Bool
 | .shl=>aB
 | .shr=>aB
 |_=>aF
def aRL(P:Program)(op:BinOp)(t:TypeId)(a b:Value):Option Value:=
 match a,b with
 | .int k x,.int k' y=>if NZ op then aKJ op k x y else if k=k' then aHC op k x y else aC
 | .string x,.string y=>aFP op x y
 | .bool x,.bool y=>if FO P t=aA 1 then(match op with| .eql=>aA (.bool (x==y))| .neq=>aA (.bool !(x==y))|_=>aC)else aC
 | .pointer aC,.pointer aC=>if yQ P t=aA 0 then(match op with| .eql=>aA (.bool aB)| .neq=>aA (.bool aF)|_=>aC)else aC
 | .slice aC _ _,.slice aC _ _=>if yQ P t=aA 1 then(match op with| .eql=>aA (.bool aB)| .neq=>aA (.bool aF)|_=>aC)else aC
 |_,_=>aC
def wH(P:Program)(t:TypeId):Option IntKind:=match P.underlying t with|some (.int k)=>aA k|_=>aC
def qG(P:Program)(t:TypeId):Bool:=match P.underlying t with|some .string=>aB|_=>aF
def unV(op:UnOp)(a:Value):Option Value:=
 match op,a with
 | .not,.bool b=>aA (.bool !b)
 | .neg,.int k n=>aA (.int k (k.wrap (0-n)))
 |_,_=>aC
def SH(P:Program)(ev:Operand->Option AVal)(get:Nat->Option Blk)(k t:Nat)(x:Operand)(lo hi:Option Operand):Option Out:=
 match ev x with
 | some (.rd s n f)=>match bound ev lo 0,bound ev hi n with
   |some l,aA h=>if DQ P t=aA s/\0<=l/\l<=h/\h<=n then aA ⟨.rd s (h.toNat-l.toNat) (λ i=>f (l.toNat+i)),k,[],[]⟩else aC
   |_,_=>aC
 | some (.sl id r n)=>match get id,bound ev lo 0,bound ev hi n with
   |some B,aA l,aA h=>if DQ P t=aA B.sz/\0<=l/\l<=h/\h<=n then aA ⟨.sl id (r+l.toNat) (h.toNat-l.toNat),k,[],[id]⟩else aC
   |_,_,_=>aC
 | some (.lit (.string str))=>match bound ev lo 0,bound ev hi str.size with
   |some l,aA h=>if qG P t=aB/\0<=l/\l<=h/\h<=str.size then aA (nS k (.lit (.string (str.extract l.toNat h.toNat))))else aC
   |_,_=>aC
 | some (.ptr id r c)=>match get id,EZ P t,lo,hi with
   |some B,aA (n,s),aC,aC=>if r=0/\c=0/\B.sz=s/\B.rows.length=n/\0<s/\n<=281474976710656 then aA ⟨.sl id 0 n,k,[],[id]⟩else aC
   |_,_,_,_=>aC
 |_=>aC
def QM:AVal->Bool
 | .agg _=>aB
 |_=>aF
def SE:AVal->List AVal
 | .agg cs=>cs
 |_=>[]
def aEq(P:Program)(get:Nat->Option Blk)(k t:Nat)(neg:Bool)(v z:AVal):Option Out:=
 if QM v&&QM z then
  match uL P t,nY (SE v),nY (SE z)with
  |some offs,aA xs,aA ys=>(vC xs ys offs).map λ p=>nS k (.lit (.bool (if neg then !p else p)))
  |_,_,_=>aC
 else if qA z&&fL get v then
  if yQ P t=aA (fP v)/\yQ P t=aA (fP z)then aA ⟨.lit (.bool neg),k,[],FQ v⟩else aC
 else if qA v&&fL get z then
  if yQ P t=aA (fP v)/\yQ P t=aA (fP z)then aA ⟨.lit (.bool neg),k,[],FQ z⟩else aC
 else aC
def yX:BinOp->Option Bool
 | .eql=>aA aF
 | .neq=>aA aB
 |_=>aC
def qY(k:Nat):Option AVal->Option Out
 |some v=>aA (nS k v)
 |none=>aC
def aKS(k:Nat)(c x y:Option AVal):Option Out:=
 match c with
 |some (.lit (.bool t))=>qY k (if t=aB then x else y)
 |_=>aC
def aVC(get:Nat->Option Blk)(k:Nat):Option AVal->Option Out
 |some (.rp c)=>aA (nS k (.rp c))
 |some (.ptr i r c)=>if(get i).isSome=aB then aA ⟨.ptr i r c,k,[],[i]⟩else aC
 |_=>aC
def QY(get:Nat->Option Blk)(k:Nat)(off:Option Nat)(x:Option AVal):Option Out:=
 match off,x with
 |some off,aA (.rp cells)=>aA (nS k (.rp (cells.drop off)))
 |some off,aA (.ptr i r c)=>if(get i).isSome=aB then aA ⟨.ptr i r (c+off),k,[],[i]⟩else aC
 |_,_=>aC
def aGM(P:Program)(k t:Nat):Option (List AVal)->Option Out
 |some cells=>aA ⟨.ptr k 0 0,k+1,[(k,aA (DB P t cells))],[]⟩
 |none=>aC
def aMT(k:Nat)(fa:Option (Nat×Nat×Bool))(x:Option AVal):Option Out:=
 match fa,x with
 |some (off,n,ag),aA (.agg cells)=>qY k (iX ag n cells off)
 |_,_=>aC
def YL(P:Program)(k t:Nat)(x y:Option AVal):Option Out:=
 match x,y with
 | some (.agg cells),aA (.lit (.int _ i))=>match aEM P t with
   |some (m,s,ag)=>if 0<=i/\i<m then qY k (iX ag s cells (i.toNat*s))else aC
   |none=>aC
 |some (.lit (.string str)),aA (.lit (.int _ i))=>if qG P t=aB/\0<=i/\i<str.size then aA (nS k (.lit (.int .u8 ((str.data.toList.getD i.toNat 0).toNat))))else aC
 |_,_=>aC
def IL(k:Nat)(x:Option AVal)(i:Nat):Option Out:=
 match x with
 |some (.tup vs)=>qY k (vs[i]?)
 |_=>aC
def a4V(k:Nat)(f:FuncId):Option (List AVal)->Option Out
 |some vs=>aA (nS k (.fn f vs))
 |none=>aC
def bDA(k:Nat)(f:FuncId):Option AVal->Option Out
 |some (.ptr i r c)=>aA (nS k (.bfn f i r c))
 |_=>aC
def AJ(P:Program)(get:Nat->Option Blk)(k t:Nat)(x:Option AVal):Option Out:=
 match x with
 |some (.rd _ n _)=>if gK P t=aB then aA (nS k (.lit (.int .i64 n)))else aC
 |some (.sl id _ n)=>if gK P t=aB/\(get id).isSome=aB then aA ⟨.lit (.int .i64 n),k,[],[id]⟩else aC
 |some (.lit (.string str))=>if qG P t=aB then aA (nS k (.lit (.int .i64 str.size)))else aC
 |some (.lit (.slice aC 0 0))=>if gK P t=aB then aA (nS k (.lit (.int .i64 0)))else aC
 |_=>aC
def ZQ(P:Program)(get:Nat->Option Blk)(k:Nat)(op:BinOp)(t:TypeId)(x y:Option AVal):Option Out:=
 match x,y with
 |some (.lit a),aA (.lit b)=>qY k ((aRL P op t a b).map .lit)
 | some v,aA z=>match yX op with
   |some neg=>aEq P get k t neg v z
   |none=>aC
 |_,_=>aC
def unO(k:Nat)(op:UnOp)(x:Option AVal):Option Out:=
 match x with
 |some (.lit a)=>qY k ((unV op a).map .lit)
 |_=>aC
def aNF(k:Nat)(src dst:Option IntKind)(st:Bool)(x:Option AVal):Option Out:=
 match src,dst,x with
 |some _,aA k',aA (.lit (.int _ n))=>aA (nS k (.lit (.int k' (k'.wrap n))))
 |some _,aC,aA (.lit (.int _ n))=>if st=aB then aA (nS k (.lit (.string (Utf8.encode n))))else aC
 |_,_,_=>aC
def aVS(k:Nat)(x y:Option AVal):Option Out:=
 match x,y with
 |some (.lit (.int k1 a)),aA (.lit (.int k2 b))=>if k1=k2 then aA (nS k (.lit (.int k1 (if b>a then b else a))))else aC
 |_,_=>aC
def aVN(k:Nat)(x y:Option AVal):Option Out:=
 match x,y with
 |some (.lit (.int k1 a)),aA (.lit (.int k2 b))=>if k1=k2 then aA (nS k (.lit (.int k1 (if b<a then b else a))))else aC
 |_,_=>aC
def aEN(args:Array Operand)(f:Operand->Option Out):Option Out:=
 match args.toList with
 |[x]=>f x
 |_=>aC
def WG(args:Array Operand)(f:Operand->Operand->Option Out):Option Out:=
 match args.toList with
 |[x,y]=>f x y
 |_=>aC
def CH(P:Program)(_Γ:dW)(o:Oper)(ev:Operand->Option AVal)(get:Nat->Option Blk)(k:Nat):Option Out:=
 match o.op with
 | .move x=>qY k (ev x)
 | .assign x=>qY k (ev x)
 | .pick c x y=>aKS k (ev c) (ev x) (ev y)
 | .nilCheck x=>aVC get k (ev x)
 | .fieldAddr s x f=>QY get k (cC P s f) (ev x)
 | .indexAddr t x y=>qL P get k t (ev x) (ev y)
 | .load t x=>JG P get k t (ev x)
 | .store t x y=>KX P get k t (ev x) (ev y)
 | .alloc t=>aGM P k t (jP P t)
 | .box t x=>aGM P k t ((ev x).bind xB)
 | .build t parts=>SI P k t (nK ev parts.toList)
 | .buildSlice t len parts=>tW P k t len (nK ev parts.toList)
 | .makeSlice t x y=>aEU P k t (ev x) (ev y)
 | .slice t x lo hi aC=>SH P ev get k t x lo hi
 | .field s x f=>aMT k (fieldAt P s f) (ev x)
 | .index t x y=>YL P k t (ev x) (ev y)
 | .extract x i=>IL k (ev x) i
 | .makeFunc (.func f) first caps=>if first.size=0 then a4V k f (qH ev caps.toList)else if caps.size=0 then aEN first λ x=>bDA k f (ev x)else aC
 | .call {callee:= .builtin .len,args:=args,argTypes:=ty}=>if ty.size=0 then aC else aEN args λ x=>AJ P get k (ty.toList.headD 0) (ev x)
 | .call {callee:= .builtin .append,args:=args,argTypes:=ty}=>WG args λ x y=>if ty.toList=[ty.toList.headD 0,ty.toList.headD 0]then kZ P get k (ty.toList.headD 0) (ev x) (ev y)else aC
 | .call {callee:= .builtin .max,args:=args,argTypes:=_}=>WG args λ x y=>aVS k (ev x) (ev y)
 | .call {callee:= .builtin .min,args:=args,argTypes:=_}=>WG args λ x y=>aVN k (ev x) (ev y)
 | .binOp op t x y _=>ZQ P get k op t (ev x) (ev y)
 | .unOp op _ x=>unO k op (ev x)
 | .convert src dst x=>aNF k (wH P src) (wH P dst) (qG P dst) (ev x)
 |_=>aC
variable{a:Nat}
section
variable{P:Program}{Γ:dW}{o:Oper}{ev:Operand->Option AVal}{get:Nat->Option Blk}{k:Nat}
def Good.quiet(h:OpOk P Γ o ev get k ⟨v,k,[],[]⟩):Good P Γ o ev get k (nS k v):=⟨h,λ id hid=>by simp[nS]at hid,aJ _⟩
def WF(h:aEM P t=aA (n,s,ag)):∃e,P.underlying t=aA (.array n e)/\pG P e=aA s/\kK P e=aA ag:=by
 unfold aEM at h;split at h
 .rename_i m e hu;split at h;.rename_i s' ag' h1 h2;cases h;exact⟨e,hu,h1,h2⟩
  cases h
 cases h
def MZ{out:Out}(ho:o.op= .indexAddr t x y)(h:qL P get k t (ev x) (ev y)=aA out):Good P Γ o ev get k out:=by
 unfold qL at h;split at h
 .rename_i s n f kk i hx hy;split at h;.rename_i hc;cases h;exact⟨aCX ho hc.1 hx hy hc.2.1 hc.2.2,λ id hid=>by simp at hid,aJ _⟩
  cases h
 .rename_i id r n kk i hx hy;split at h
  .rename_i B hB;split at h;.rename_i hc;cases h;exact⟨aCV ho hc.1 hx hy hB rfl hc.2.1 hc.2.2,λ id' hid=>by simp at hid;rw[hid,hB];rfl,aJ _⟩
   cases h
  cases h
 .rename_i cells kk i hx hy;split at h
  .rename_i m s ha;split at h;.rename_i hc;cases h;exact⟨aCW ho ha hx hy hc.1 hc.2,λ id hid=>by simp at hid,aJ _⟩
   cases h
  cases h
 .rename_i id r c kk i hx hy;split at h
  .rename_i m s B ha hB;split at h;.rename_i hc;cases h;exact⟨YJ ho ha hx hy hB hc.1 hc.2,λ id' hid=>by simp at hid;rw[hid,hB];rfl,aJ _⟩
   cases h
  cases h
 cases h
def aJK{out:Out}(ho:o.op= .load t x)(h:JG P get k t (ev x)=aA out):Good P Γ o ev get k out:=by
 unfold JG at h;split at h;.rename_i ag n cells h1 h2 hx;simp only[aK]at h;obtain⟨v,hv,rfl⟩:=h;exact .quiet (aGW ho h1 h2 hx hv)
 .rename_i ag n id r c h1 h2 hx;split at h
  .rename_i B hB;split at h;.rename_i hc;obtain⟨rfl,rfl,_⟩:=hc;simp only[aK]at h;obtain⟨v,hv,rfl⟩:=h;exact⟨aCL ho h1 h2 hx hB hv,λ id' hid=>by simp at hid;rw[hid,hB];rfl,aJ _⟩
   split at h;.rename_i row hrow;simp only[aK]at h;obtain⟨v,hv,rfl⟩:=h;exact⟨aCK ho h1 h2 hx hB hrow hv,λ id' hid=>by simp at hid;rw[hid,hB];rfl,aJ _⟩
   cases h
  cases h
 cases h
def aES{out:Out}(ho:o.op= .store t x y)(h:KX P get k t (ev x) (ev y)=aA out):Good P Γ o ev get k out:=by
 unfold KX at h;split at h
 .rename_i n id r c cells h1 hx hy;obtain⟨v,hv,hc⟩:=cJ.1 hy;split at h
  .rename_i B hB;split at h
   .rename_i hz;obtain⟨rfl,rfl,_⟩:=hz;split at h;.rename_i hcond;cases h;exact⟨XA ho h1 hx hv hc hcond.1 hcond.2.1 hB hcond.2.2.1 hcond.2.2.2,λ id' hid=>by simp at hid;rw[hid,hB];rfl,aJ _⟩
    cases h
   split at h
   .rename_i row hrow;split at h;.rename_i hcond;cases h;exact⟨aTF ho h1 hx hv hc hcond.1 hcond.2.1 hB hrow hcond.2.2,λ id' hid=>by simp at hid;rw[hid,hB];rfl,aJ _⟩
    cases h
   cases h
  cases h
 cases h
def aEV{out:Out}(ho:o.op= .build t parts)(h:SI P k t (nK ev parts.toList)=aA out):Good P Γ o ev get k out:=by
 unfold SI at h;split at h
 .rename_i cells vs h1 h2;split at h
  .rename_i hs;split at h
   .rename_i pl hpl;simp only[aK]at h;obtain⟨cs,hc,rfl⟩:=h;refine .quiet (aZK ho h1 hpl ?_ h2 hc);unfold iZ at hs;split at hs;.exact⟨_,‹_›⟩
    cases hs
   cases h
  split at h;.rename_i n s ag ha;simp only[aK]at h;obtain⟨cs,hc,rfl⟩:=h;obtain⟨e,hu,hs,_⟩:=WF ha;exact .quiet (ZM ho h1 hu hs h2 hc)
  cases h
 cases h
def KZ{len:Nat}{out:Out}(ho:o.op= .buildSlice t len parts)(h:tW P k t len (nK ev parts.toList)=aA out):Good P Γ o ev get k out:=by
 unfold tW at h;split at h
 .rename_i s by' zrow vs h1 h2;split at h
  .rename_i cells hc;split at h;.rename_i hcond;cases h;exact⟨TO ho h1 hcond.1 h2 hc hcond.2,λ id hid=>by simp at hid,mG _⟩
   cases h
  cases h
 cases h
def aJJ{out:Out}(ho:o.op= .makeSlice t x y)(h:aEU P k t (ev x) (ev y)=aA out):Good P Γ o ev get k out:=by
 unfold aEU at h;split at h
 .rename_i s by' zrow kl l kc c h1 hx hy;split at h;.rename_i hc;cases h;exact⟨a4E ho h1 hx hy hc.1 hc.2.1 hc.2.2.1 hc.2.2.2,λ id hid=>by simp at hid,mG _⟩
  cases h
 cases h
def KY{rows:List (List AVal)}{ids:List Nat}(h:EA get v=aA (s,m,rows,p,ids)):SrcA get v s m rows p ids/\∀id,id∈ids->(get id).isSome=aB:=by
 unfold EA at h;split at h;.cases h;exact⟨.rd,λ id hid=>by simp at hid⟩
 .split at h
  .rename_i B hB;split at h;.rename_i hle;cases h;exact⟨.sl hB hle,λ id hid=>by simp at hid;rw[hid,hB];rfl⟩
   cases h
  cases h
 .cases h;exact⟨.nil,λ id hid=>by simp at hid⟩
 cases h
def ZV{out:Out}(ho:o.op= .call {callee:= .builtin .append,args:= #[x,y],argTypes:= #[t,t]})(h:kZ P get k t (ev x) (ev y)=aA out):Good P Γ o ev get k out:=by
 unfold kZ at h;split at h
 .rename_i s by' z s' m rows p ids h1 hx hy;obtain⟨v,hv,hs⟩:=cJ.1 hy;obtain⟨hsrc,hpres⟩:=KY hs;split at h;.rename_i hm;subst hm;cases h;exact⟨GQ (idx:=[]) ho h1 hx hv (.inl ⟨rfl,rfl⟩) hsrc,hpres,aJ _⟩
  split at h;.rename_i hc;cases h;obtain⟨rfl,c2,c3,c4,c5⟩:=hc;exact⟨TP ho h1 hx hv hsrc c2 c3 c4 c5,hpres,mG _⟩
  cases h
 .rename_i s by' z id n s' m rows p ids h1 hx hy;obtain⟨v,hv,hs⟩:=cJ.1 hy;obtain⟨hsrc,hpres⟩:=KY hs;split at h
  .rename_i B hB;split at h
   .rename_i hm;subst hm;cases h
    exact⟨GQ (idx:=[id]) ho h1 hx hv (.inr (.inr ⟨id,0,n,rfl,rfl,by rw[hB];rfl⟩)) hsrc,λ id' hid=>by
     rcases fO.1 hid with h|h;.rw[h,hB];rfl
     exact hpres id' h,aJ _⟩
   split at h
   .rename_i hc;cases h;obtain⟨rfl,c2,c3,c4,c5,c6,c7,c8⟩:=hc
    exact⟨ZT ho h1 hx hB c2 c3 c4 hv hsrc c5 c6 c7 c8,λ id' hid=>by
     rcases fO.1 hid with h|h;.rw[h,hB];rfl
     exact hpres id' h,mG _⟩
   cases h
  cases h
 .rename_i xx s1 n f s' m rows p ids h1 hx hy;obtain⟨s,by',z⟩:=xx;obtain⟨v,hv,hs⟩:=cJ.1 hy;obtain⟨hsrc,hpres⟩:=KY hs;split at h;.rename_i hm;subst hm;cases h;exact⟨GQ (idx:=[]) ho h1 hx hv (.inr (.inl ⟨s1,n,f,rfl,rfl⟩)) hsrc,hpres,aJ _⟩
  cases h
 cases h
def xV(h:qG P t=aB):P.underlying t=aA .string:=by
 unfold qG at h;split at h;.assumption
 cases h
def XC{str:ByteArray}(ho:o.op= .slice t x lo hi aC)(ht:qG P t=aB)(hx:ev x=aA (.lit (.string str)))(hl:bound ev lo 0=aA l)(hh:bound ev hi str.size=aA h)
 (h0:0<=l) (h1:l<=h) (h2:h<=str.size):OpOk P Γ o ev get k ⟨.lit (.string (str.extract l.toNat h.toNat)),k,[],[]⟩:=by
 refine cL λ w G ρ H A a hr _ hop=>⟨.string (str.extract l.toNat h.toNat),?_,.lit⟩;have ex:a.eval x= .string str:=iB (hop x pS _ hx);have el:=oC (w:=w) (G:=G) (ρ:=ρ) (A:=A) (a:=a) hl (λ y hy v hv=>hop y (by simp[ho,Op.operands,hy]) v hv);have eh:=oC (w:=w) (G:=G) (ρ:=ρ) (A:=A) (a:=a) hh (λ y hy v hv=>hop y (by simp[ho,Op.operands,hy]) v hv);have hu:=xV ht
 have hb:(Instr.sliceBounds aF str.size str.size (lo.map a.eval) (hi.map a.eval) aC).run P w= .ok (l.toNat,h.toNat,str.size) w:=by
  have q1:(0:Int)<=h/\h<=(str.size:Int):=⟨oO,oO⟩;have q3:(0:Int)<=l/\l<=(h.toNat:Int):=⟨h0,oO⟩;rcases el with⟨e1,rfl⟩|⟨kl,e1⟩<;>rcases eh with⟨e2,rfl⟩|⟨kh,e2⟩<;>rw[e1,e2];.simp[Instr.sliceBounds]
  .simp[Instr.sliceBounds,Instr.sliceBound,asIntOf,q1]
  .have q2:(0:Int)<=l/\l<=(str.size:Int):=⟨h0,h1⟩;simp[Instr.sliceBounds,Instr.sliceBound,asIntOf,q2]
  simp only[Instr.sliceBounds,Instr.sliceBound,asIntOf,bS,dO,bJ,q1,and_self,if_true,q3]
 simp only[execOp,ho,ex,lJ,Instr.sliceAt,underlying,bS,run_program,bJ,hu,dO,Instr.slice];simp[hb]
def PI(hrows:∀r row c v,B.rows[r]? =aA row->row[c]? =aA v->∃cv,C[r*B.sz+c]? =aA cv/\V w G ρ A v cv)
 (hlen:∀(r:Nat) row,B.rows[r]? =aA row->row.length=B.sz):B.rows.length*B.sz<=C.size:=by
 by_cases h0:B.rows.length*B.sz=0;.omega
 have hr:0<B.rows.length:=OP λ e=>h0 (by rw[e];simp);have hs:0<B.sz:=OP λ e=>h0 (by rw[e];simp);obtain⟨row,v,h1,h2⟩:=xR (s:=B.sz) (r:=B.rows.length-1) (c:=B.sz-1) hlen oO oO;obtain⟨cu,h3,_⟩:=hrows _ row _ v h1 h2;have h4:=(dK.1 h3).1;have:B.rows.length*B.sz=(B.rows.length-1)*B.sz+B.sz:=by have e1:B.rows.length=(B.rows.length-1)+1:=oO;rw[e1,cW];simp
 omega
def XD{id:Nat}(ho:o.op= .slice t x aC aC aC)(ha:EZ P t=aA (n,s))(hx:ev x=aA (.ptr id 0 0))(hB:get id=aA B)(hs:B.sz=s)(hn:B.rows.length=n)
 (hm:n<=281474976710656):OpOk P Γ o ev get k ⟨.sl id 0 n,k,[],[id]⟩:=by
 refine cL λ w G ρ H A a hr hrd hop=>?_;have hvx:=hop x pS _ hx;obtain⟨B',A',h3,hH,_⟩:=hrd id (by simp);rw[hB]at h3;cases h3;obtain⟨_,b,hb,_,hBR⟩:=hr.blk id B A' hH;obtain⟨e,i,hu,hi,hsz⟩:=aEL ha;generalize hev:a.eval x=cv at hvx
 cases hvx with
 |dang _ hn'=>rw[hb]at hn';cases hn'
 |ptr ha' hρ hsh=>
  rw[hb]at hρ;cases hρ;obtain⟨⟨C,ty,hC,hrows⟩,hlen⟩:=hBR.old hsh;have hfit:=PI hrows hlen;refine⟨.slice (aA ⟨b,0,aC⟩) n n,?_,.sl ha' hb (w:=w) (ty:=ty) (m:=C.size) (by unfold World.shape?;rw[hC]) (by rw[eQ,<-hn];exact hfit) (aJ _) (by unfold maxLen;omega) (.inr (by simp))⟩;simp only[execOp,ho,hev,lJ,Instr.sliceAt,underlying,bS,run_program,bJ,hu,dO,Instr.sureAddr,Instr.sliceBounds,sizeOf,typeInfo,hi];by_cases hn0:n=0;.subst hn0;simp
  simp[hn0,Addr.add]
def aET{out:Out}(ho:o.op= .slice t x lo hi aC)(h:SH P ev get k t x lo hi=aA out):Good P Γ o ev get k out:=by
 unfold SH at h;split at h
 .rename_i s n f hx;split at h
  .rename_i l hh h1 h2;split at h;.rename_i hc;cases h;exact⟨aBD ho hc.1 hx h1 h2 hc.2.1 hc.2.2.1 hc.2.2.2,λ id hid=>by simp at hid,aJ _⟩
   cases h
  cases h
 .rename_i id r n hx;split at h
  .rename_i B l hh hB h1 h2;split at h;.rename_i hc;cases h;exact⟨aBC ho hc.1 hx hB rfl h1 h2 hc.2.1 hc.2.2.1 hc.2.2.2,λ id' hid=>by simp at hid;rw[hid,hB];rfl,aJ _⟩
   cases h
  cases h
 .rename_i str hx;split at h
  .rename_i l hh h1 h2;split at h;.rename_i hc;cases h;exact .quiet (XC ho hc.1 hx h1 h2 hc.2.1 hc.2.2.1 hc.2.2.2)
   cases h
  cases h
 .rename_i id r c hx;split at h
  .rename_i B n s hB ha;split at h;.rename_i hc;obtain⟨rfl,rfl,h1,h2,h3,h4⟩:=hc;cases h;exact⟨XD ho ha hx hB h1 h2 h4,λ id' hid=>by simp at hid;rw[hid,hB];rfl,aJ _⟩
   cases h
  cases h
 cases h
def PM(h:fL get v=aB):∀id,id∈FQ v->(get id).isSome=aB:=λ id hid=>by
 cases v<;>simp[FQ]at hid;.subst hid;exact h
 subst hid;simp only[fL,aO]at h;exact h.1
def a0O{ty:Nat}{out:Out}(ho:o.op= .binOp op t x y ty)(hneg:yX op=aA neg)(hx:ev x=aA v)(hy:ev y=aA z)(h:aEq P get k t neg v z=aA out):Good P Γ o ev get k out:=by
 have ho':o.op= .binOp (if neg then .neq else .eql) t x y ty:=by
  cases op<;>simp[yX]at hneg;.subst hneg;exact ho
  subst hneg;exact ho
 unfold aEq at h;split at h
 .rename_i hagg;split at h
  .rename_i offs xs ys h1 h2 h3;simp only[aK]at h;obtain⟨p,hp,rfl⟩:=h
   cases v with
   |agg xc=>
    cases z with
    |agg yc=>exact .quiet (aXU ho' h1 hx hy h2 h3 hp)
    |_=>simp[QM]at hagg
   |_=>simp[QM]at hagg
  cases h
 split at h
 .rename_i hc;simp only[aO]at hc;split at h;.rename_i hk;cases h;exact⟨aDN ho' hk.1 (.inl ⟨hx,hy⟩) hc.2 hc.1 rfl (by rw[hk.2]at hk;exact(aA.inj hk.1)),PM hc.2,aJ _⟩
  cases h
 split at h
 .rename_i hc;simp only[aO]at hc;split at h;.rename_i hk;cases h;exact⟨aDN ho' hk.2 (.inr ⟨hx,hy⟩) hc.2 hc.1 rfl (by rw[hk.1]at hk;exact(aA.inj hk.2)),PM hc.2,aJ _⟩
  cases h
 cases h
def YY(ht:FO P t=aA 1)(d:Nat)(x y:Bool)(w:World):(Op.equalIn (d+1) t (.bool x) (.bool y)).run P w= .ok (x==y) w:=
 KU ht (by simp[MA]) w
def aZR{a b v:Value}(h:aRL P op t a b=aA v)(xo yo:Operand)(w:World):(do eqGuard op t xo yo a b;binOp op t a b:Sem Value).run P w= .ok v w:=by
 unfold aRL at h;split at h
 .rename_i k x k' y;have hg:(eqGuard op t xo yo (.int k x) (.int k' y)).run P w= .ok () w:=iQ (by simp) (by simp) op xo yo w;rw[bS,hg,bJ];split at h
  .cases op<;>simp[NZ]at*
   .simp only[aKJ]at h;split at h;.cases h
    rename_i hlt;cases h;simp[binOp,Op.shift,hlt]
   simp only[aKJ]at h;split at h;.cases h
   rename_i hlt;cases h;simp[binOp,Op.shift,hlt]
  split at h
  .rename_i hns he;subst he
   cases op<;>simp only[aHC,NZ,a7W,not_true_eq_false]at h hns<;>first
    |(cases h;simp[binOp,Op.intArith,Op.intBits,Op.intCmp];done)
    |(split at h;· cases h
      · rename_i hz;cases h;simp[binOp,Op.intDiv,hz])
    |cases h
  cases h
 .rename_i x y;have hg:(eqGuard op t xo yo (.string x) (.string y)).run P w= .ok () w:=iQ (by simp) (by simp) op xo yo w;rw[bS,hg,bJ]
  cases op<;>simp only[aFP]at h<;>first
   |(split at h;· cases h
     · rename_i hz;cases h
       have hz':¬(((x.size+y.size:Nat):Int)>aH.max):=hz
       simp only[binOp,Op.stringOp,iN hz'];rfl)
   |(cases h;simp[binOp,Op.stringOp];done)
   |cases h
 .rename_i x y;have hg:(eqGuard op t xo yo (.bool x) (.bool y)).run P w= .ok () w:=iQ (by simp) (by simp) op xo yo w;rw[bS,hg,bJ];split at h
  .rename_i ht;have he:(Op.equal t (.bool x) (.bool y)).run P w= .ok (x==y) w:=YY ht 9999 x y w;have:=AV (P:=P) (t:=t) (x:= .bool x) (y:= .bool y) (w:=w) (by simp) he;split at h;.cases h;exact this.1
   .cases h;exact this.2
   cases h
  cases h
 .have hg:(eqGuard op t xo yo (.pointer aC) (.pointer aC)).run P w= .ok () w:=iQ (by simp) (by simp) op xo yo w;rw[bS,hg,bJ];split at h
  .rename_i ht;unfold yQ at ht;split at ht<;>cases ht;rename_i e hu;have he:(Op.equal t (.pointer aC) (.pointer aC)).run P w= .ok aB w:=YX hu 9999 w
   cases op<;>simp only[]at h<;>first
    |(cases h;simp[binOp,he];done)
    |cases h
  cases h
 .rename_i m c m' c';have hg:(eqGuard op t xo yo (.slice aC m c) (.slice aC m' c')).run P w= .ok () w:=iQ (by simp) (by simp) op xo yo w;rw[bS,hg,bJ];split at h
  .rename_i ht;unfold yQ at ht;split at ht<;>cases ht;rename_i e hu;have he:(Op.equal t (.slice aC m c) (.slice aC m' c')).run P w= .ok aB w:=aDL hu 9999 m c m' c' w
   cases op<;>simp only[]at h<;>first
    |(cases h;simp[binOp,he];done)
    |cases h
  cases h
 cases h
def a6Q{ty:Nat}{a b v:Value}(ho:o.op= .binOp op t x y ty)(hx:ev x=aA (.lit a))(hy:ev y=aA (.lit b))(h:aRL P op t a b=aA v):OpOk P Γ o ev get k ⟨.lit v,k,[],[]⟩:=by
 refine cL λ w G ρ H A act hr _ hop=>⟨v,?_,.lit⟩;have ex:act.eval x=a:=iB (hop x pS _ hx);have ey:act.eval y=b:=iB (hop y pS _ hy);have:=aZR (P:=P) h x y w;simp only[execOp,ho,ex,ey];rw[bS]at this⊢
 rw[bS,this];rfl
def a9N{op:UnOp}{a v:Value}(ho:o.op= .unOp op t x)(hx:ev x=aA (.lit a))(h:unV op a=aA v):OpOk P Γ o ev get k ⟨.lit v,k,[],[]⟩:=by
 refine cL λ w G ρ H A act hr _ hop=>⟨v,?_,.lit⟩;have ex:act.eval x=a:=iB (hop x pS _ hx);unfold unV at h;split at h;.cases h;simp[execOp,ho,ex,Op.unary]
 .cases h;simp[execOp,ho,ex,Op.unary,Op.intArith]
 cases h
def GD(h:wH P t=aA kk):P.underlying t=aA (.int kk):=by
 unfold wH at h;split at h;.cases h;assumption
 cases h
def a6D{src:Nat}{k1:IntKind}{n:Int}(ho:o.op= .convert src dst x)(hx:ev x=aA (.lit (.int k1 n)))(h1:wH P src=aA k2)(h2:wH P dst=aA kk):OpOk P Γ o ev get k ⟨.lit (.int kk (kk.wrap n)),k,[],[]⟩:=by refine cL λ w G ρ H A act hr _ hop=>⟨.int kk (kk.wrap n),?_,.lit⟩;have ex:act.eval x= .int k1 n:=iB (hop x pS _ hx);simp[execOp,ho,ex,convert,run_underlying (GD h1),run_underlying (GD h2),Conv.intToInt]
def aIO{src:Nat}{k1:IntKind}{n:Int}(ho:o.op= .convert src dst x)(hx:ev x=aA (.lit (.int k1 n)))(h1:wH P src=aA k2)(h2:qG P dst=aB):OpOk P Γ o ev get k ⟨.lit (.string (Utf8.encode n)),k,[],[]⟩:=by refine cL λ w G ρ H A act hr _ hop=>⟨.string (Utf8.encode n),?_,.lit⟩;have ex:act.eval x= .int k1 n:=iB (hop x pS _ hx);simp[execOp,ho,ex,convert,run_underlying (GD h1),run_underlying (xV h2),Conv.intToString]
def aQE{str:ByteArray}(ho:o.op= .call {callee:= .builtin .len,args:= #[x],argTypes:=ty})(hty:ty[0]? =aA t)(ht:qG P t=aB)(hx:ev x=aA (.lit (.string str))):OpOk P Γ o ev get k ⟨.lit (.int .i64 str.size),k,[],[]⟩:=by refine cL λ w G ρ H A act hr _ hop=>⟨.int .i64 str.size,?_,.lit⟩;have ex:act.eval x= .string str:=iB (hop x pC _ hx);simp[execOp,ho,resolve,invoke,builtin,Builtin.len_,hty,ex,run_underlying (xV ht),goInt]
def aQK{str:ByteArray}{i:Int}(ho:o.op= .index t x y)(ht:qG P t=aB)(hx:ev x=aA (.lit (.string str)))(hy:ev y=aA (.lit (.int kk i)))(h0:0<=i)(h1:i<str.size):
 OpOk P Γ o ev get k ⟨.lit (.int .u8 ((str.data.toList.getD i.toNat 0).toNat)),k,[],[]⟩:=by
 refine cL λ w G ρ H A act hr _ hop=>⟨_,?_,.lit⟩;have ex:act.eval x= .string str:=iB (hop x pS _ hx);have ey:act.eval y= .int kk i:=iB (hop y pS _ hy);have hlt:i.toNat<str.size:=oO;have hg:str[i.toNat]? =aA (str.data.toList.getD i.toNat 0):=by rw[getElem?_pos str i.toNat hlt];congr 1;rw[aU,aN (by simpa using hlt)];rfl
 simp only[execOp,ho,ex,ey,Instr.index,asIntOf,bS,dO,bJ,run_underlying (xV ht),iP h0,hg]
def nT{x:Option AVal}{out:Out}(h:qY k x=aA out):∃v,x=aA v/\out=nS k v:=by
 cases x with
 |none=>cases h
 |some v=>cases h;exact⟨v,rfl,rfl⟩
def US{a b:Int}{mx:Bool}(ho:o.op= .call {callee:= .builtin (if mx then .max else .min),args:= #[x,y],argTypes:=ty})(hx:ev x=aA (.lit (.int kk a)))(hy:ev y=aA (.lit (.int kk b))):
 OpOk P Γ o ev get k ⟨.lit (.int kk (if mx then(if b>a then b else a)else(if b<a then b else a))),k,[],[]⟩:=by
 refine cL λ w G ρ H A act hr _ hop=>⟨_,?_,.lit⟩;have ex:act.eval x= .int kk a:=iB (hop x (by cases mx<;>simp[ho,Op.operands,Call.operands]) _ hx);have ey:act.eval y= .int kk b:=iB (hop y (by cases mx<;>simp[ho,Op.operands,Call.operands]) _ hy);cases mx;.simp[execOp,ho,resolve,invoke,builtin,ex,ey,Builtin.min_,Builtin.min2]
 simp[execOp,ho,resolve,invoke,builtin,ex,ey,Builtin.max_,Builtin.max2]
def aQF(ho:o.op= .call {callee:= .builtin .len,args:= #[x],argTypes:=ty})(hty:ty[0]? =aA t)(ht:gK P t=aB)(hx:ev x=aA (.lit (.slice aC 0 0))):OpOk P Γ o ev get k ⟨.lit (.int .i64 0),k,[],[]⟩:=by
 refine cL λ w G ρ H A act hr _ hop=>⟨.int .i64 0,?_,.lit⟩;have ex:act.eval x= .slice aC 0 0:=iB (hop x pC _ hx);unfold gK at ht;split at ht;.rename_i e hu;simp[execOp,ho,resolve,invoke,builtin,Builtin.len_,hty,ex,run_underlying hu,goInt]
 cases ht
def RY{args:Array Operand}{f:Operand->Option Out}{out:Out}(h:aEN args f=aA out):∃x,args= #[x]/\f x=aA out:=by
 unfold aEN at h;split at h;.rename_i x ha;exact⟨x,by rw[<-bWH (xs:=args),ha],h⟩
 cases h
def GP{args:Array Operand}{f:Operand->Operand->Option Out}{out:Out}(h:WG args f=aA out):∃x y,args= #[x,y]/\f x y=aA out:=by
 unfold WG at h;split at h;.rename_i x y ha;exact⟨x,y,by rw[<-bWH (xs:=args),ha],h⟩
 cases h
def tV{out:Out}(h:CH P Γ o ev get k=aA out):Good P Γ o ev get k out:=by
 unfold CH at h;split at h;.rename_i x ho;obtain⟨v,hv,rfl⟩:=nT h;exact .quiet (aLH (.inl ho) hv)
 .rename_i x ho;obtain⟨v,hv,rfl⟩:=nT h;exact .quiet (aLH (.inr ho) hv)
 .rename_i c x y ho;unfold aKS at h;split at h;.rename_i t hc;obtain⟨v,hv,rfl⟩:=nT h;exact .quiet (a3D ho hc hv)
  cases h
 .rename_i x ho;unfold aVC at h;split at h;.rename_i c hx;cases h;exact .quiet (LO ho hx (.inl ⟨c,rfl⟩))
  .rename_i i r c hx;split at h;.rename_i hi;cases h;exact⟨LO ho hx (.inr ⟨i,r,c,rfl,hi⟩),λ id hid=>by simp at hid;rw[hid];exact hi,aJ _⟩
   cases h
  cases h
 .rename_i s x f ho;unfold QY at h;split at h;.rename_i off cells h1 hx;cases h;exact .quiet (IJ ho h1 (.inl ⟨cells,hx,rfl⟩))
  .rename_i off i r c h1 hx;split at h;.rename_i hi;cases h;exact⟨IJ ho h1 (.inr ⟨i,r,c,hx,hi,rfl⟩),λ id hid=>by simp at hid;rw[hid];exact hi,aJ _⟩
   cases h
  cases h
 .rename_i t x y ho;exact MZ ho h
 .rename_i t x ho;exact aJK ho h
 .rename_i t x y ho;exact aES ho h
 .rename_i t ho;unfold aGM at h;split at h;.rename_i cells hz;cases h;exact⟨a0I ho hz,λ id hid=>by simp at hid,mG _⟩
  cases h
 .rename_i t x ho;unfold aGM at h;split at h;.rename_i cells hz;cases h;obtain⟨v,hv,hc⟩:=cJ.1 hz;exact⟨bCW ho hv hc,λ id hid=>by simp at hid,mG _⟩
  cases h
 .rename_i t parts ho;exact aEV ho h
 .rename_i t len parts ho;exact KZ ho h
 .rename_i t x y ho;exact aJJ ho h
 .rename_i t x lo hi ho;exact aET ho h
 .rename_i s x f ho;unfold aMT at h;split at h;.rename_i off n ag cells h1 hx;obtain⟨v,hv,rfl⟩:=nT h;exact .quiet (aXP ho h1 hx hv)
  cases h
 .rename_i t x y ho;unfold YL at h;split at h
  .rename_i cells kk i hx hy;split at h
   .rename_i m s ag ha;split at h;.rename_i hc;obtain⟨v,hv,rfl⟩:=nT h;obtain⟨e,hu,hs,hg⟩:=WF ha;exact .quiet (YK ho hu hg hs hx hy hc.1 hc.2 hv)
    cases h
   cases h
  .rename_i str kk i hx hy;split at h;.rename_i hc;cases h;exact .quiet (aQK ho hc.1 hx hy hc.2.1 hc.2.2)
   cases h
  cases h
 .rename_i x i ho;unfold IL at h;split at h;.rename_i vs hx;obtain⟨v,hv,rfl⟩:=nT h;exact .quiet (aHU ho hx hv)
  cases h
 .rename_i f first caps ho
  split at h
  .rename_i hf;unfold a4V at h;split at h
   .rename_i vs hv;cases h;have he:first= #[]:=kH hf
    subst he;obtain⟨h1,h2⟩:=DP hv;exact .quiet (aCH ho (by simpa using h1) (λ j x v hx hv'=>h2 j x v (by rw[bH];exact hx) hv'))
   cases h
  split at h
  .rename_i hc0;obtain⟨x,rfl,hq⟩:=RY h;replace h:=hq;clear hq
   cases hx:ev x with
   |none=>rw[hx]at h;cases h
   |some v=>
    rw[hx]at h
    cases v with
    |ptr i r c=>cases h;refine .quiet (cL λ w G ρ H A a hr _ hop=>⟨.func (.func f) #[a.eval x] #[],?_,.bfn (hop x pS _ hx)⟩);have:caps= #[]:=kH hc0;subst this;simp[execOp,ho,Instr.makeFunc]
    |_=>cases h
  cases h
 .rename_i args ty ho;split at h;.cases h
  rename_i hne;obtain⟨x,rfl,hq⟩:=RY h;replace h:=hq;clear hq
  have hnum:ty[0]? =aA (ty.toList.headD 0):=by
   cases hl:ty.toList with
   |nil=>exact absurd (by simp[Array.toList_eq_nil_iff.1 hl]) hne
   |cons a r=>rw[<-bH,hl];rfl
  cases hx:ev x with
  |none=>rw[hx]at h;cases h
  |some v=>
   rw[hx]at h
   cases v with
   |rd s n f=>
    simp only[AJ]at h;split at h;.rename_i hs;cases h;exact .quiet (aWJ ho hnum hs hx (.inl ⟨s,f,rfl⟩))
    cases h
   |sl id r n=>
    simp only[AJ]at h;split at h;.rename_i hc;cases h;exact⟨aWJ ho hnum hc.1 hx (.inr ⟨id,r,rfl,hc.2⟩),λ id' hid=>by simp at hid;rw[hid];exact hc.2,aJ _⟩
    cases h
   |lit u=>
    cases u with
    |string str=>
     simp only[AJ]at h;split at h;.rename_i hs;cases h;exact .quiet (aQE ho hnum hs hx)
     cases h
    |slice a n c=>
     cases a with
     |some=>simp[AJ]at h
     |none=>
      cases n with
      |succ=>simp[AJ]at h
      |zero=>
       cases c with
       |succ=>simp[AJ]at h
       |zero=>
        simp only[AJ]at h;split at h;.rename_i hs;cases h;exact .quiet (aQF ho hnum hs hx)
        cases h
    |_=>simp[AJ]at h
   |_=>simp[AJ]at h
 .rename_i args ty ho;obtain⟨x,y,rfl,hq⟩:=GP h;replace h:=hq;clear hq;split at h
  .rename_i ht;have htys:ty= #[ty.toList.headD 0,ty.toList.headD 0]:=by rw[<-bWH (xs:=ty)];rw[ht];simp
   generalize ty.toList.headD 0=t at h htys;subst htys;exact ZV ho h
  cases h
 .rename_i args ty ho;obtain⟨x,y,rfl,hq⟩:=GP h;replace h:=hq;clear hq;unfold aVS at h;split at h
  .rename_i k1 a k2 b hx hy;split at h;.rename_i he;subst he;cases h;exact .quiet (US (mx:=aB) ho hx hy)
   cases h
  cases h
 .rename_i args ty ho;obtain⟨x,y,rfl,hq⟩:=GP h;replace h:=hq;clear hq;unfold aVN at h;split at h
  .rename_i k1 a k2 b hx hy;split at h;.rename_i he;subst he;cases h;exact .quiet (US (mx:=aF) ho hx hy)
   cases h
  cases h
 .rename_i op t x y ty ho;unfold ZQ at h;split at h;.rename_i a b hx hy;obtain⟨v,hv,rfl⟩:=nT h;simp only[aK]at hv;obtain⟨u,hu,rfl⟩:=hv;exact .quiet (a6Q ho hx hy hu)
  .rename_i v z _ hx hy;split at h;.rename_i neg hneg;exact a0O ho hneg hx hy h
   cases h
  cases h
 .rename_i op t x ho;unfold unO at h;split at h;.rename_i a hx;obtain⟨v,hv,rfl⟩:=nT h;simp only[aK]at hv;obtain⟨u,hu,rfl⟩:=hv;exact .quiet (a9N ho hx hu)
  cases h
 .rename_i src dst x ho;unfold aNF at h;split at h;.rename_i k1 k' kk n h1 h2 hx;cases h;exact .quiet (a6D ho hx h1 h2)
  .rename_i k1 kk n h1 h2 hx;split at h;.rename_i hs;cases h;exact .quiet (aIO ho hx h1 hs)
   cases h
  cases h
 cases h
end
inductive Orc where
 |ret (v:AVal)
 |gen (v:AVal) (k':Nat) (Hc Hout:aS)
 |raw (d:Option Nat) (out:Out)
 |far (v:AVal) (k':Nat) (loc Hc Hout:aS)
def Orc.out (c:Orc)(k:Nat):Out:=
 match c with
 | .ret v=>⟨v,k,[],[]⟩
 | .gen v k' Hc Hout=>jY v k' Hc Hout
 | .raw _ out=>out
 | .far v k' _ Hc Hout=>jY v k' Hc Hout
def Orc.heap (c:Orc)(k:Nat)(H:aS):aS:=
 match c with
 | .far _ _ loc _ Hout=>loc++Hout
 |c=>mE H (c.out k).upd
def yL:aS->Nat->Blk->aS
 |[],i,B=>[(i,B)]
 |(a,x)::r,i,B=>if a=i then(a,B)::r else(a,x)::yL r i B
def MR(H:aS):List (Nat×Option Blk)->aS
 |[]=>H
 |(i,aA B)::r=>yL (MR H r) i B
 |(i,aC)::r=>del (MR H r) i
def YI(o:Oper):Bool:=
 match o.op with
 | .store .. =>aB
 |_=>aF
def YM(b:Bool)(H:aS)(u:List (Nat×Option Blk)):aS:=
 match b with
 |true=>MR H u
 |false=>mE H u
def ER:∀(H:aS) (i:Nat) (B:Blk) (j:Nat),look (yL H i B) j=if j=i then aA B else look H j
 |[],i,B,j=>by simp only[yL,look,eq_comm]
 |(a,x)::r,i,B,j=>by
  simp only[yL];by_cases h:a=i
  .subst h;rw[iP rfl];simp only[look];by_cases hj:a=j;.subst hj;rw[iP rfl,iP rfl]
   rw[iN hj,iN hj,iN (λ e=>hj e.symm)]
  rw[iN h];simp only[look];by_cases hj:a=j;.subst hj;rw[iP rfl,iP rfl,iN h]
  rw[iN hj,iN hj,ER r i B j]
def KI(H:aS):∀(u:List (Nat×Option Blk)) (j:Nat),look (MR H u) j=look (mE H u) j
 |[],_=>rfl
 |(i,aA B)::r,j=>by
  rw[MR,ER,KI H r j];simp only[mE,look,iK];by_cases h:j=i;.subst h;simp
  rw[iN h,iN (λ e=>h e.symm),iN h]
 |(i,aC)::r,j=>by rw[MR,iK];simp only[mE,iK];rw[KI H r j]
def UX(b:Bool)(H:aS)(u:List (Nat×Option Blk)):look (YM b H u)=look (mE H u):=by
 cases b;.rfl
 exact funext λ j=>KI H u j
def FU(h:look H=look H')(u:List (Nat×Option Blk)):look (mE H u)=look (mE H' u):=funext λ i=>by rw[nF,nF,h]
def DG:∀(a b:aS) (i:Nat),look (a++b) i=match look a i with|some x=>aA x|none=>look b i
 |[],b,i=>rfl
 |(j,x)::r,b,i=>by
  simp only[bA,look];by_cases h:j=i;.rw[iP h,iP h]
  rw[iN h,iN h];exact DG r b i
def HP(d:Option Nat):List Orc->Option (Out×List Orc)
 | .raw d' out::r=>if d=d' then aA (out,r)else aC
 |_=>aC
def wF(o:Oper):Bool:=
 match o.op with
 | .call {callee:= .value _,args:=_,argTypes:=_}=>aB
 |_=>aF
def aKR(o:Oper):Bool:=
 match o.op with
 | .call {callee:= .builtin .copy,args:=_,argTypes:=_}=>aB
 | .call {callee:= .builtin .cap,args:=_,argTypes:=_}=>aB
 | .call {callee:= .builtin .clear,args:=_,argTypes:=_}=>aB
 | .call {callee:= .builtin .delete,args:=_,argTypes:=_}=>aB
 | .call {callee:= .builtin .append,args:=_,argTypes:=ty}=>match ty.toList with|[a,b]=>a !=b|_=>aF
 | .slice _ _ _ _ (aA _)=>aB
 | .lookup .. =>aB
 | .mapUpdate .. =>aB
 | .makeMap .. =>aB
 | .range .. =>aB
 | .next .. =>aB
 |_=>aF
def inH(get:Nat->Option Blk):aS->Prop
 |[]=>True
 |(id,B)::r=>get id=aA B/\inH get r
def eqG(get:Nat->Option Blk)(H:aS):Prop:=∀i,get i=look H i
def rO(loc Hc Hout:aS):Prop:=∀i,fN Hc i=aB\/fN Hout i=aB->look loc i=aC
def CallReq(P:Program)(Γ:dW)(o:Oper)(ev:Operand->Option AVal)(get:Nat->Option Blk)(k:Nat)(c:Orc):Prop:=
 match o.op with
 | .call {callee:= .value f,args:=args,argTypes:=_}=>match ev f,qH ev args.toList with
   | some (.fn g caps),aA vs=>aX P g=aB/\(match c with
     | .ret v=>(vs++caps).all (bd λ _=>aF)=aB/\Pure P Γ g (vs++caps) v
     | .gen v k' Hc Hout=>(vs++caps).all (bd (fN Hc))=aB/\oU (fN Hc) Hc=aB/\inH get Hc/\k<=k'/\Tr P Γ g k (vs++caps) Hc (λ k1 r1 H1=>k1=k'/\r1=v/\H1=Hout)
     | .raw _ _=>False
     | .far v k' loc Hc Hout=>(vs++caps).all (bd (fN Hc))=aB/\oU (fN Hc) Hc=aB/\eqG get (loc++Hc)/\rO loc Hc Hout/\k<=k'/\Tr P Γ g k (vs++caps) Hc (λ k1 r1 H1=>k1=k'/\r1=v/\H1=Hout))
   | some (.bfn g i r0 c0),aA vs=>aX P g=aB/\(match c with
     | .ret _=>False
     | .gen v k' Hc Hout=>(.ptr i r0 c0::vs).all (bd (fN Hc))=aB/\oU (fN Hc) Hc=aB/\inH get Hc/\k<=k'/\Tr P Γ g k (.ptr i r0 c0::vs) Hc (λ k1 r1 H1=>k1=k'/\r1=v/\H1=Hout)
     | .raw _ _=>False
     | .far v k' loc Hc Hout=>(.ptr i r0 c0::vs).all (bd (fN Hc))=aB/\oU (fN Hc) Hc=aB/\eqG get (loc++Hc)/\rO loc Hc Hout/\k<=k'/\Tr P Γ g k (.ptr i r0 c0::vs) Hc (λ k1 r1 H1=>k1=k'/\r1=v/\H1=Hout))
   |_,_=>False
 |_=>False
def VO(g:Option Bool)(X Y:Prop):Prop:=
 match g with
 |none=>False
 |some b=>if b=aB then Y else X
def aBY(g:Option Out)(f:Out->Prop):Prop:=
 match g with
 |none=>False
 |some out=>f out
def aZH(cs:List Orc)(f:Orc->List Orc->Prop):Prop:=
 match cs with
 |[]=>False
 |c::r=>f c r
def aTQ(o:Oper)(cs:List Orc):List Orc:=match HP o.dst cs with
 |some x=>x.2
 |none=>if wF o=aB then cs.tail else cs
def aUT(g:Option (Out×List Orc))(f:Out->List Orc->Prop)(X:Prop):Prop:=
 match g with
 |none=>X
 |some x=>f x.1 x.2
def RunF(P:Program)(Γ:dW)(all:Array Oper):List Oper->List Orc->Nat->Fr->aS->(List Foot->Nat->Fr->aS->Prop)->Prop
 |[],_,k,fr,H,K=>K [] k fr H
 |o ::r,cs,k,fr,H,K=>VO (nJ all fr o) (RunF P Γ all r (aTQ o cs) k (jM fr o.dst (.lit undef)) H (λ tr=>K (⟨[],[],k,k⟩::tr)))
    (aUT (HP o.dst cs) (λ out cs'=>Good P Γ o (lN Γ fr) (look H) k out/\RunF P Γ all r cs' out.k (jM fr o.dst out.v) (MR H out.upd) (λ tr=>K (⟨out.rds,out.upd.map (·.1),k,out.k⟩::tr)))
    (if wF o=aB then aZH cs λ c cs'=>CallReq P Γ o (lN Γ fr) (look H) k c/\RunF P Γ all r cs' (c.out k).k (jM fr o.dst (c.out k).v) (c.heap k H) (λ tr=>K (⟨(c.out k).rds,(c.out k).upd.map (·.1),k,(c.out k).k⟩::tr))
    else aBY (CH P Γ o (lN Γ fr) (look H) k) λ out=>RunF P Γ all r cs out.k (jM fr o.dst out.v) (YM (YI o) H out.upd) (λ tr=>K (⟨out.rds,out.upd.map (·.1),k,out.k⟩::tr))))
section
variable{P:Program}{Γ:dW}
def QQ{get:Nat->Option Blk}:∀ {Hc:aS},inH get Hc->∀id B,look Hc id=aA B->get id=aA B
 |[],_,id,B,h=>by simp[look]at h
 |(i,C)::r,⟨h1,h2⟩,id,B,h=>by
  simp only[look]at h;split at h;.rename_i he;subst he;cases h;exact h1
  exact QQ h2 id B h
def aWS:fN []=λ _=>aF:=funext λ i=>rfl
def CallReq.good{ev:Operand->Option AVal}{get:Nat->Option Blk}{c:Orc}(h:CallReq P Γ o ev get k c):Good P Γ o ev get k (c.out k):=by
 unfold CallReq at h;split at h
 .rename_i f args ty ho;split at h
  .rename_i g caps vs hf ha;obtain⟨hg,h⟩:=h
   cases c with
   |ret v=>obtain⟨h1,h2⟩:=h;have:=OL (P:=P) (Γ:=Γ) (get:=get) (k:=k) (Hc:=[]) (Hout:=[]) (r:=v) (k':=k) ho hg hf ha (by rw[aWS];exact h1) rfl (λ id B hB=>by simp[look]at hB) (h2 k) (aJ _);exact this
   |gen v k' Hc Hout=>obtain⟨h1,h2,h3,h4,h5⟩:=h;exact OL ho hg hf ha h1 h2 (QQ h3) h5 h4
   |raw d out=>exact h.elim
   |far v k' loc Hc Hout=>obtain⟨h1,h2,h3,h4,h5,h6⟩:=h;exact OL ho hg hf ha h1 h2 (λ id B hB=>by rw[h3,DG,h4 id (.inl (by simp[fN,hB]))];exact hB) h6 h5
  .rename_i g i r0 c0 vs hf ha;obtain⟨hg,h⟩:=h
   cases c with
   |gen v k' Hc Hout=>obtain⟨h1,h2,h3,h4,h5⟩:=h;exact aED ho hg hf ha h1 h2 (QQ h3) h5 h4
   |ret v=>exact h.elim
   |raw d out=>exact h.elim
   |far v k' loc Hc Hout=>obtain⟨h1,h2,h3,h4,h5,h6⟩:=h;exact aED ho hg hf ha h1 h2 (λ id B hB=>by rw[h3,DG,h4 id (.inl (by simp[fN,hB]))];exact hB) h6 h5
  exact h.elim
 exact h.elim
def CallReq.heap{ev:Operand->Option AVal}{c:Orc}(h:CallReq P Γ o ev (look H) k c):look (c.heap k H)=look (mE H (c.out k).upd):=by
 cases c with
 |far v k' loc Hc Hout=>
  have key:(∀i,look H i=look (loc++Hc) i)/\(∀i,fN Hc i=aB\/fN Hout i=aB->look loc i=aC):=by
   unfold CallReq at h;split at h
   .split at h;.exact⟨h.2.2.2.1,h.2.2.2.2.1⟩
    .exact⟨h.2.2.2.1,h.2.2.2.2.1⟩
    exact h.elim
   exact h.elim
  obtain⟨h1,h2⟩:=key;refine funext λ i=>?_;show look (loc++Hout) i=look (mE H ((Hout.map λ x=>(x.1,aA x.2))++(Hc.map λ x=>(x.1,(aC:Option Blk))))) i;rw[nF,GA,DG,h1,DG]
  cases ho:look Hout i with
  |some B=>rw[h2 i (.inr (by simp[fN,ho]))]
  |none=>
   cases hc:look Hc i with
   |some B=>rw[h2 i (.inl (by simp[fN,hc]))]
   |none=>cases look loc i<;>rfl
 |ret v=>rfl
 |gen v k' Hc Hout=>rfl
 |raw d out=>rfl
def Run.mono:∀(l:List Oper) (k:Nat) (fr:Fr) (H:aS) (K K':List Foot->Nat->Fr->aS->Prop),(∀tr k fr H,K tr k fr H->K' tr k fr H)->Run P Γ all l k fr H K->Run P Γ all l k fr H K':=by
 intro l
 induction l with
 |nil=>intro k fr H K K' hK h;exact hK _ _ _ _ h
 |cons o r ih=>
  intro k fr H K K' hK h;rcases h with⟨h1,h2⟩|⟨h1,out,h2,h3⟩;.exact .inl ⟨h1,ih _ _ _ _ _ (λ tr k fr H h=>hK _ _ _ _ h) h2⟩
  exact .inr ⟨h1,out,h2,ih _ _ _ _ _ (λ tr k fr H h=>hK _ _ _ _ h) h3⟩
def bFT(K:List Foot->Nat->Fr->aS->Prop):List Foot->Nat->Fr->aS->Prop:=λ tr k fr H=>∃H',look H=look H'/\K tr k fr H'
def RunF.run:∀(l:List Oper) (cs:List Orc) (k:Nat) (fr:Fr) (H H0:aS) (K:List Foot->Nat->Fr->aS->Prop),look H0=look H->RunF P Γ all l cs k fr H K->Run P Γ all l k fr H0 (bFT K):=by
 intro l
 induction l with
 |nil=>intro cs k fr H H0 K he h;exact⟨H,he,h⟩
 |cons o r ih=>
  intro cs k fr H H0 K he h;simp only[RunF,VO]at h;split at h;.exact h.elim
  rename_i b hg;split at h
  .rename_i hb;subst hb;unfold aUT at h;split at h
   .split at h
    .unfold aZH at h;split at h;.exact h.elim
     exact .inr ⟨hg,_,by rw[he];exact h.1.good,ih _ _ _ _ _ _ (by rw[h.1.heap];exact FU he _) h.2⟩
    unfold aBY at h;split at h;.exact h.elim
    rename_i out ho;exact .inr ⟨hg,out,by rw[he];exact tV ho,ih _ _ _ _ _ _ (by rw[UX];exact FU he _) h⟩
   rename_i x _;exact .inr ⟨hg,x.1,by rw[he];exact h.1,ih _ _ _ _ _ _ (by have:=UX aB H x.1.upd;simp only[YM]at this;rw[this];exact FU he _) h.2⟩
  rename_i hb;have:b=aF:=by simpa using hb
  subst this;exact .inl ⟨hg,ih _ _ _ _ _ _ he h⟩
def lM(keep:List Nat):Fr->Fr
 |[]=>[]
 |(t,v)::r=>if keep.contains t then(t,v)::lM keep r else lM keep r
def GB{keep:List Nat}:∀ {fr:Fr} {t:Nat} {v:AVal},look (lM keep fr) t=aA v->look fr t=aA v
 |[],t,v,h=>by simp[lM,look]at h
 |(a,x)::r,t,v,h=>by
  simp only[lM]at h;simp only[look];split at h
  .simp only[look]at h;split at h;.rename_i he;rw[iP he];exact h
   rename_i he;rw[iN he];exact GB h
  rename_i hk;by_cases he:a=t
  .subst he;exfalso
   have:∀(l:Fr) u,look (lM keep l) a≠aA u:=by
    intro l
    induction l with
    |nil=>intro u hu;simp[lM,look]at hu
    |cons y ys ih=>
     intro u hu;obtain⟨b,z⟩:=y;simp only[lM]at hu;split at hu
     .rename_i hb;simp only[look]at hu;split at hu;.rename_i hab;subst hab;exact hk hb
      exact ih u hu
     exact ih u hu
   exact this r v h
  rw[iN he];exact GB h
variable{nt kb:Nat}{Q:AQ}{k:Nat}{fr:Fr}{H:aS}
def aJY(keep:List Nat)(he:look H=look H')(hk:kb<=k):WkG kb k fr H k (lM keep fr) H':=
 ⟨hk,λ t v h=>⟨v,GB h,bL v⟩,λ id B h=>⟨B,by rw[he];exact h,nN B⟩,.inl rfl⟩
def bIZ{id:Nat}(keep:List Nat)(cs:List Orc)(hd:nL nt ops=aB)
 (h:∀K:List Foot->Nat->Fr->aS->Prop,(∀tr k' fr' H',(kb<=k'->Q .normal k' (lM keep fr') H')->K tr k' fr' H')->RunF P Γ ops ops.toList cs k fr H K):W P Γ nt kb (.region id ops aF) Q k fr H:=
 a9C (SJ hd (Run.mono _ _ _ _ _ _ (λ tr k' fr' H' hq hk'=>by obtain⟨H'',he,hq⟩:=hq;exact⟨k',lM keep fr',H'',aJY keep he hk',hq hk'⟩) ((h (λ _ k' fr' H'=>kb<=k'->Q .normal k' (lM keep fr') H') λ tr k' fr' H' hq=>hq).run _ _ _ _ _ _ _ rfl)))
def bJA{id:Nat}(keep:List Nat)(cs:List Orc)(hm:P.follows .mixedOrders=aB)(hd:nL nt ops=aB)
 (h:∀K:List Foot->Nat->Fr->aS->Prop,(∀tr k' fr' H',lE ops tr=aB->(kb<=k'->Q .normal k' (lM keep fr') H')->K tr k' fr' H')->RunF P Γ ops ops.toList cs k fr H K):W P Γ nt kb (.region id ops aB) Q k fr H:=
 a9C (aJN hm hd (Run.mono _ _ _ _ _ _ (λ tr k' fr' H' hq=>by obtain⟨H'',he,hd',hq⟩:=hq;exact⟨hd',λ hk'=>⟨k',lM keep fr',H'',aJY keep he hk',hq hk'⟩⟩) ((h (λ tr k' fr' H'=>lE ops tr=aB/\(kb<=k'->Q .normal k' (lM keep fr') H')) λ tr k' fr' H' hd' hq=>⟨hd',hq⟩).run _ _ _ _ _ _ _ rfl)))
end
def wrap_i64{n:Int}(h1: -9223372036854775808<=n)(h2:n<=9223372036854775807):aH.wrap n=n:=by rw[IntKind.wrap_i64];omega
def MD:Code->Nat->Code
 | .seq a b,i=>if i=0 then a else b
 | .cond _ a b,i=>if i=0 then a else b
 | .block _ c,_=>c
 | .loop c,_=>c
 |c,_=>c
def gV(c:Code):List Nat->Code
 |[]=>c
 |i::p=>MD (gV c p) i
def gD(fn:Func):Code:=fn.body.getD .skip
section
variable{P:Program}{Γ:dW}{nt kb:Nat}{Q:AQ}{k:Nat}{fr:Fr}{H:aS}{c:Code}{p:List Nat}
def iG{x y:Code}(hc:gV c p= .seq x y)(h:W P Γ nt kb (gV c (0::p)) (mW (W P Γ nt kb (gV c (1::p)) Q) Q) k fr H):W P Γ nt kb (gV c p) Q k fr H:=by
 have h0:gV c (0::p)=x:=by simp[gV,hc,MD]
 have h1:gV c (1::p)=y:=by simp[gV,hc,MD]
 rw[h0,h1]at h;rw[hc];exact a0P h
def BN{id:Nat}{x:Code}(hc:gV c p= .block id x)(h:W P Γ nt kb (gV c (0::p)) (GN id Q) k fr H):W P Γ nt kb (gV c p) Q k fr H:=by
 have h0:gV c (0::p)=x:=by simp[gV,hc,MD]
 rw[h0]at h;rw[hc];exact ZW h
def uQ{x y:Code}(hc:gV c p= .cond cc x y)(t:Bool)(he:lN Γ fr cc=aA (.lit (.bool t)))(ht:t=aB->W P Γ nt kb (gV c (0::p)) Q k fr H)(hf:t=aF->W P Γ nt kb (gV c (1::p)) Q k fr H):
 W P Γ nt kb (gV c p) Q k fr H:=by
 have h0:gV c (0::p)=x:=by simp[gV,hc,MD]
 have h1:gV c (1::p)=y:=by simp[gV,hc,MD]
 rw[h0]at ht;rw[h1]at hf;rw[hc];exact SK t he ht hf
def a1H{x:Code}(hc:gV c p= .loop x)(I:Nat->Nat->Fr->aS->Prop)(m:Nat)(h0:I m k fr H)
 (round:∀m k fr H,I m k fr H->W P Γ nt kb (gV c (0::p)) (mW (λ k' fr' H'=>∃m',m'<m/\I m' k' fr' H') Q) k fr H):W P Γ nt kb (gV c p) Q k fr H:=by
 have h1:gV c (0::p)=x:=by simp[gV,hc,MD]
 rw[h1]at round;rw[hc];exact a0R I m h0 round
def BM(hc:gV c p= .skip)(h:Q .normal k fr H):W P Γ nt kb (gV c p) Q k fr H:=by rw[hc];exact aJL h
def cB(hc:gV c p= .ret)(h:Q .ret k fr H):W P Γ nt kb (gV c p) Q k fr H:=by rw[hc];exact a0Q h
def GW{id:Nat}(hc:gV c p= .exit id)(h:Q (.exit id) k fr H):W P Γ nt kb (gV c p) Q k fr H:=by rw[hc];exact aJM h
def a9F{id:Nat}(hc:gV c p= .region id ops aF)(keep:List Nat)(cs:List Orc)(hd:nL nt ops=aB)
 (h:∀K:List Foot->Nat->Fr->aS->Prop,(∀tr k' fr' H',(kb<=k'->Q .normal k' (lM keep fr') H')->K tr k' fr' H')->RunF P Γ ops ops.toList cs k fr H K):W P Γ nt kb (gV c p) Q k fr H:=by rw[hc];exact bIZ keep cs hd h
def a9G{id:Nat}(hc:gV c p= .region id ops aB)(keep:List Nat)(cs:List Orc)(hm:P.follows .mixedOrders=aB)(hd:nL nt ops=aB)
 (h:∀K:List Foot->Nat->Fr->aS->Prop,(∀tr k' fr' H',lE ops tr=aB->(kb<=k'->Q .normal k' (lM keep fr') H')->K tr k' fr' H')->RunF P Γ ops ops.toList cs k fr H K):W P Γ nt kb (gV c p) Q k fr H:=by rw[hc];exact bJA keep cs hm hd h
def bR{f:FuncId}{H:aS}{Q:Nat->AVal->aS->Prop}(hf:P.funcs[f]? =aA fn)(hb:fn.body.isSome=aB)(nt:Nat)(hnt:fn.ntmps=nt)(hn:args.length<=nt)
 (h:W P Γ nt k (gV (gD fn) []) (AG P fn Q) k (tU 0 args) H):Tr P Γ f k args H Q:=by
 obtain⟨c,hc⟩:=fU.1 hb;subst hnt;refine OO hf hc hn ?_;have:gD fn=c:=by simp[gD,hc]
 rw[gV,this]at h;exact h
def cA{f:FuncId}{r:AVal}(hf:P.funcs[f]? =aA fn)(hb:fn.body.isSome=aB)(nt:Nat)(hnt:fn.ntmps=nt)(hn:args.length<=nt)(hr:bd (λ _=>aF) r=aB)
 (h:∀k,W P Γ nt k (gV (gD fn) []) (AG P fn (λ _ r1 _=>VLe r1 r)) k (tU 0 args) []):Pure P Γ f args r:=by
 obtain⟨c,hc⟩:=fU.1 hb;subst hnt;refine aSA hf hc hn hr λ k=>?_;have:=h k;have e:gD fn=c:=by simp[gD,hc]
 rw[gV,e]at this;exact this
end
variable{l:List Orc}
section
variable{P:Program}{Γ:dW}{all:Array Oper}{r:List Oper}{cs:List Orc}{k:Nat}{fr:Fr}{H:aS}{K:List Foot->Nat->Fr->aS->Prop}{o:Oper}
variable{d:Option Nat}{ty:TypeId}{pos:String}{af:Array Edge}{g:Option (Nat×Bool)}{ev:Operand->Option AVal}{get:Nat->Option Blk}
def aDB:List Oper->Nat->Option Nat
 |[],_=>aC
 |o::_,0=>o.dst
 |_::r,n+1=>aDB r n
def aMM:∀(l:List Oper) (n:Nat),aDB l n=(l[n]?).bind (·.dst)
 |[],n=>by simp[aDB]
 |o::r,0=>rfl
 |o::r,n+1=>by rw[aDB,aMM r n,fY]
def bHQ{l:List Oper}:aDB (o::l) 0=o.dst:=rfl
def bHP{l:List Oper}:aDB (o::l) (n+1)=aDB l n:=rfl
def bGY{c:Prop} [Decidable c]{out:Out}{f:Out->Prop}:aBY (if c then aA out else aC) f=(c/\f out):=by by_cases h:c<;>simp[aBY,h]
def a4U(ht:b=aB->Y)(hf:b=aF->X):VO (aA b) X Y:=by
 cases b;.exact hf rfl
 exact ht rfl
def bGZ:Orc.out (.far v k' loc Hc Hout) k=jY v k' Hc Hout:=rfl
def bCA:Orc.heap (.ret v) k H=H:=rfl
def bCB:Orc.heap (.gen v k' Hc Hout) k H=mE H (jY v k' Hc Hout).upd:=rfl
def bHO:Orc.heap (.far v k' loc Hc Hout) k H=loc++Hout:=rfl
def bHN:YM aF H u=mE H u:=rfl
def bHM:YM aB H u=MR H u:=rfl
def bGL:MR H []=H:=rfl
def bGK:MR H ((i,aA B)::u)=yL (MR H u) i B:=rfl
def bGN:yL [] i B=[(i,B)]:=rfl
def bGM{x:Blk}{r:aS}:yL ((a,x)::r) i B=if a=i then(a,B)::r else(a,x)::yL r i B:=rfl
def bNQ:YI o=match o.op with| .store .. =>aB|_=>aF:=rfl
def bGS{d:Option Nat}:HP d (.far v k' loc Hc Hout::l)=aC:=rfl
def bGW{d:Option Nat}:HP d []=aC:=rfl
def bGV{d:Option Nat}:HP d (.ret v::l)=aC:=rfl
def bGU{d:Option Nat}:HP d (.gen v k' Hc Hout::l)=aC:=rfl
def bGT{d d':Option Nat}{out:Out}:HP d (.raw d' out::l)=if d=d' then aA (out,l)else aC:=rfl
def bNI:aTQ o cs=match HP o.dst cs with|some x=>x.2|none=>if wF o=aB then cs.tail else cs:=rfl
def bNV{op:Op}:nJ all fr ⟨d,op,ty,pos,af,aC⟩=aA aB:=rfl
def aMK(want:Bool):Option AVal->Option Bool
 |some (.lit v)=>aA (bFZ want v)
 |_=>aC
def bNS:aMK want (aA (.lit undef))=aA aF:=rfl
def bNU{op:Op}{l:List Oper}:nJ l.toArray fr ⟨d,op,ty,pos,af,aA (j,want)⟩=aMK want ((aDB l j).bind (AM.look fr)):=by
 rw[aMM];simp only[nJ,cH];generalize hall:l.toArray=all;have e:l=all.toList:=by rw[<-hall]
 subst e;generalize((all.toList[j]?).bind (·.dst)).bind (AM.look fr)=x
 cases x with
 |none=>rfl
 |some v=>cases v with
  |lit u=>cases u<;>rfl
  |_=>rfl
def bNT:aMK aB (aA (.lit (.bool b)))=aA b:=by cases b<;>rfl
def bHR:aMK aF (aA (.lit (.bool b)))=aA !b:=by cases b<;>rfl
def bCD{f:Operand}{args:Array Operand}{c:Orc}:CallReq P Γ ⟨d,.call {callee:= .value f,args:=args,argTypes:=tys},ty,pos,af,g⟩ ev get k c=
 match ev f,qH ev args.toList with
 | some (.fn g caps),aA vs=>aX P g=aB/\(match c with
   | .ret v=>(vs++caps).all (bd λ _=>aF)=aB/\Pure P Γ g (vs++caps) v
   | .gen v k' Hc Hout=>(vs++caps).all (bd (fN Hc))=aB/\oU (fN Hc) Hc=aB/\inH get Hc/\k<=k'/\Tr P Γ g k (vs++caps) Hc (λ k1 r1 H1=>k1=k'/\r1=v/\H1=Hout)
   | .raw _ _=>False
   | .far v k' loc Hc Hout=>(vs++caps).all (bd (fN Hc))=aB/\oU (fN Hc) Hc=aB/\eqG get (loc++Hc)/\rO loc Hc Hout/\k<=k'/\Tr P Γ g k (vs++caps) Hc (λ k1 r1 H1=>k1=k'/\r1=v/\H1=Hout))
 | some (.bfn g i r0 c0),aA vs=>aX P g=aB/\(match c with
   | .ret _=>False
   | .gen v k' Hc Hout=>(.ptr i r0 c0::vs).all (bd (fN Hc))=aB/\oU (fN Hc) Hc=aB/\inH get Hc/\k<=k'/\Tr P Γ g k (.ptr i r0 c0::vs) Hc (λ k1 r1 H1=>k1=k'/\r1=v/\H1=Hout)
   | .raw _ _=>False
   | .far v k' loc Hc Hout=>(.ptr i r0 c0::vs).all (bd (fN Hc))=aB/\oU (fN Hc) Hc=aB/\eqG get (loc++Hc)/\rO loc Hc Hout/\k<=k'/\Tr P Γ g k (.ptr i r0 c0::vs) Hc (λ k1 r1 H1=>k1=k'/\r1=v/\H1=Hout))
 |_,_=>False:=rfl
def bBT:Orc.out (.ret v) k=⟨v,k,[],[]⟩:=rfl
def bBU:Orc.out (.gen v k' Hc Hout) k=jY v k' Hc Hout:=rfl
def bBV:CH P Γ ⟨d,.move x,ty,pos,af,g⟩ ev get k=qY k (ev x):=rfl
def aXZ:CH P Γ ⟨d,.assign x,ty,pos,af,g⟩ ev get k=qY k (ev x):=rfl
def bBS{c:Operand}:CH P Γ ⟨d,.pick c x y,ty,pos,af,g⟩ ev get k=aKS k (ev c) (ev x) (ev y):=rfl
def bHC:CH P Γ ⟨d,.nilCheck x,ty,pos,af,g⟩ ev get k=aVC get k (ev x):=rfl
def bNX{f:Nat}:CH P Γ ⟨d,.fieldAddr s x f,ty,pos,af,g⟩ ev get k=QY get k (cC P s f) (ev x):=rfl
def bNR:CH P Γ ⟨d,.indexAddr t x y,ty,pos,af,g⟩ ev get k=qL P get k t (ev x) (ev y):=rfl
def bBX:CH P Γ ⟨d,.load t x,ty,pos,af,g⟩ ev get k=JG P get k t (ev x):=rfl
def a5I:CH P Γ ⟨d,.store t x y,ty,pos,af,g⟩ ev get k=KX P get k t (ev x) (ev y):=rfl
def a5P:CH P Γ ⟨d,.alloc t,ty,pos,af,g⟩ ev get k=aGM P k t (jP P t):=rfl
def bHW:CH P Γ ⟨d,.box t x,ty,pos,af,g⟩ ev get k=aGM P k t ((ev x).bind xB):=rfl
def a5O:CH P Γ ⟨d,.build t parts,ty,pos,af,g⟩ ev get k=SI P k t (nK ev parts.toList):=rfl
def bHV:CH P Γ ⟨d,.buildSlice t n parts,ty,pos,af,g⟩ ev get k=tW P k t n (nK ev parts.toList):=rfl
def bBW:CH P Γ ⟨d,.makeSlice t x y,ty,pos,af,g⟩ ev get k=aEU P k t (ev x) (ev y):=rfl
def a5J:CH P Γ ⟨d,.slice t x lo hi aC,ty,pos,af,g⟩ ev get k=SH P ev get k t x lo hi:=rfl
def a5M:CH P Γ ⟨d,.index t x y,ty,pos,af,g⟩ ev get k=YL P k t (ev x) (ev y):=rfl
def a8W:CH P Γ ⟨d,.extract x i,ty,pos,af,g⟩ ev get k=IL k (ev x) i:=rfl
def bCF{f:Nat}:CH P Γ ⟨d,.makeFunc (.func f) #[x] #[],ty,pos,af,g⟩ ev get k=bDA k f (ev x):=rfl
def bHY{f r:Nat}:bDA k f (aA (.ptr i r c))=aA (nS k (.bfn f i r c)):=rfl
def bHS{f:Nat}:CH P Γ ⟨d,.makeFunc (.func f) #[] caps,ty,pos,af,g⟩ ev get k=a4V k f (qH ev caps.toList):=rfl
def bHF:CH P Γ ⟨d,.call {callee:= .builtin .len,args:= #[x],argTypes:= #[t]},ty,pos,af,g⟩ ev get k=AJ P get k t (ev x):=rfl
def bHZ:CH P Γ ⟨d,.call {callee:= .builtin .append,args:= #[x,y],argTypes:= #[t,t]},ty,pos,af,g⟩ ev get k=kZ P get k t (ev x) (ev y):=by simp[CH,WG]
def bHE:CH P Γ ⟨d,.call {callee:= .builtin .max,args:= #[x,y],argTypes:=tys},ty,pos,af,g⟩ ev get k=aVS k (ev x) (ev y):=rfl
def bHD:CH P Γ ⟨d,.call {callee:= .builtin .min,args:= #[x,y],argTypes:=tys},ty,pos,af,g⟩ ev get k=aVN k (ev x) (ev y):=rfl
def bHX{t':Nat}:CH P Γ ⟨d,.binOp op t x y t',ty,pos,af,g⟩ ev get k=ZQ P get k op t (ev x) (ev y):=rfl
def bND{op:UnOp}:CH P Γ ⟨d,.unOp op t x,ty,pos,af,g⟩ ev get k=unO k op (ev x):=rfl
def bCE:CH P Γ ⟨d,.convert s t x,ty,pos,af,g⟩ ev get k=aNF k (wH P s) (wH P t) (qG P t) (ev x):=rfl
def bGI:lN Γ fr (.tmp t)=AM.look fr t:=rfl
def a5N{v:Value}:lN Γ fr (.const v)=aA (.lit v):=rfl
def bCC{f:Nat}:lN Γ fr (.func f)=aA (.fn f []):=rfl
def bNP{x:α}{l:List (Nat×α)}:AM.look ((a,x)::l) i=if a=i then aA x else AM.look l i:=rfl
def bNO:AM.look ([]:List (Nat×α)) i=aC:=rfl
def bOA{x:α}{l:List (Nat×α)}:del ((a,x)::l) i=if a=i then del l i else(a,x)::del l i:=rfl
def bNZ:del ([]:List (Nat×α)) i=[]:=rfl
def bGX:jM fr (aA t) v=(t,v)::del fr t:=rfl
def bBR:jM fr aC v=fr:=rfl
def bNG:mE H []=H:=rfl
def bNF:mE H ((i,aA B)::u)=(i,B)::del (mE H u) i:=rfl
def bNE:mE H ((i,aC)::u)=del (mE H u) i:=rfl
def bGP:lM keep []=[]:=rfl
def bGO:lM keep ((t,v)::fr)=if keep.contains t=aB then(t,v)::lM keep fr else lM keep fr:=rfl
def bNM:qY k (aA v)=aA (nS k v):=rfl
def bNJ{t:Bool}{x y:Option AVal}:aKS k (aA (.lit (.bool t))) x y=qY k (if t=aB then x else y):=rfl
def bHB{c:List AVal}:aVC get k (aA (.rp c))=aA (nS k (.rp c)):=rfl
def bHA{r:Nat}:aVC get k (aA (.ptr i r c))=if(get i).isSome=aB then aA ⟨.ptr i r c,k,[],[i]⟩else aC:=rfl
def bHU{c:List AVal}:QY get k (aA off) (aA (.rp c))=aA (nS k (.rp (c.drop off))):=rfl
def bHT{r:Nat}:QY get k (aA off) (aA (.ptr i r c))=if(get i).isSome=aB then aA ⟨.ptr i r (c+off),k,[],[i]⟩else aC:=rfl
def bNK{cells:List AVal}:aGM P k t (aA cells)=aA ⟨.ptr k 0 0,k+1,[(k,aA (DB P t cells))],[]⟩:=rfl
def bHL{cells:List AVal}{i:Int}:YL P k t (aA (.agg cells)) (aA (.lit (.int kk i)))=match aEM P t with
 |some (m,s,ag)=>if 0<=i/\i<m then qY k (iX ag s cells (i.toNat*s))else aC
 |none=>aC:=rfl
def bNY:IL k (aA (.tup vs)) i=qY k (vs[i]?):=rfl
def bNW{f:Nat}:a4V k f (aA vs)=aA (nS k (.fn f vs)):=rfl
def bHI{f:Nat->List AVal}:AJ P get k t (aA (.rd s n f))=if gK P t=aB then aA (nS k (.lit (.int .i64 n)))else aC:=rfl
def bHH{r:Nat}:AJ P get k t (aA (.sl i r n))=if gK P t=aB/\(get i).isSome=aB then aA ⟨.lit (.int .i64 n),k,[],[i]⟩else aC:=rfl
def bHG:AJ P get k t (aA (.lit (.slice aC 0 0)))=if gK P t=aB then aA (nS k (.lit (.int .i64 0)))else aC:=rfl
def bOC{a b:Value}:ZQ P get k op t (aA (.lit a)) (aA (.lit b))=qY k ((aRL P op t a b).map .lit):=rfl
def bNC{op:UnOp}{a:Value}:unO k op (aA (.lit a))=qY k ((unV op a).map .lit):=rfl
def bOB{k1 k3:IntKind}{n:Int}{st:Bool}:aNF k (aA k1) (aA k2) st (aA (.lit (.int k3 n)))=aA (nS k (.lit (.int k2 (k2.wrap n)))):=rfl
def bNL{a b:Int}:aVS k (aA (.lit (.int kk a))) (aA (.lit (.int kk b)))=aA (nS k (.lit (.int kk (if b>a then b else a)))):=by simp[aVS]
def bNN{a b:Int}:aVN k (aA (.lit (.int kk a))) (aA (.lit (.int kk b)))=aA (nS k (.lit (.int kk (if b<a then b else a)))):=by simp[aVN]
def bIE{f:Nat->List AVal}{i:Int}:qL P get k t (aA (.rd s n f)) (aA (.lit (.int kk i)))=if DQ P t=aA s/\0<=i/\i<n then aA ⟨.rp (f i.toNat),k,[],[]⟩else aC:=rfl
def bID{id r:Nat}{i:Int}:qL P get k t (aA (.sl id r n)) (aA (.lit (.int kk i)))=match get id with
 |some B=>if DQ P t=aA B.sz/\0<=i/\i<n then aA ⟨.ptr id (r+i.toNat) 0,k,[],[id]⟩else aC
 |none=>aC:=rfl
def bIC{id r:Nat}{i:Int}:qL P get k t (aA (.ptr id r c)) (aA (.lit (.int kk i)))=match EZ P t,get id with
 |some (m,s),aA B=>if 0<=i/\i<m then aA ⟨if B.sz=s/\c=0 then .ptr id (r+i.toNat) 0 else .ptr id r (c+i.toNat*s),k,[],[id]⟩else aC
 |_,_=>aC:=rfl
def aVZ(k:Nat)(ag:Option Bool)(n:Option Nat)(cells:List AVal):Option Out:=
 match ag,n with
 |some ag,aA n=>qY k (iX ag n cells 0)
 |_,_=>aC
def bHK{cells:List AVal}:JG P get k t (aA (.rp cells))=aVZ k (kK P t) (pG P t) cells:=by
 unfold JG aVZ;cases kK P t<;>cases pG P t<;>try rfl
 simp only[nS];cases iX _ _ _ _<;>rfl
def bBZ{cells:List AVal}:aVZ k (aA ag) (aA n) cells=qY k (iX ag n cells 0):=rfl
def aVY(k:Nat)(ag:Option Bool)(n:Option Nat)(B:Option Blk)(id r c:Nat):Option Out:=
 match ag,n,B with
 |some ag,aA n,aA B=>if r=0/\c=0/\B.sz<n then(iX ag n B.rows.flatten 0).map λ v=>⟨v,k,[],[id]⟩else match B.rows[r]? with
    |some row=>(iX ag n row c).map λ v=>⟨v,k,[],[id]⟩
    |none=>aC
 |_,_,_=>aC
def bHJ{id r:Nat}:JG P get k t (aA (.ptr id r c))=aVY k (kK P t) (pG P t) (get id) id r c:=by
 unfold JG aVY;cases kK P t<;>cases pG P t<;>try rfl
 cases hg:get id with
 |none=>simp only[hg]
 |some B=>simp only[hg];all_goals(cases B.rows[r]? <;>rfl)
def bBY{id r:Nat}:aVY k (aA ag) (aA n) (aA B) id r c=if r=0/\c=0/\B.sz<n then(iX ag n B.rows.flatten 0).map λ v=>⟨v,k,[],[id]⟩else match B.rows[r]? with
 |some row=>(iX ag n row c).map λ v=>⟨v,k,[],[id]⟩
 |none=>aC:=rfl
def bIB{y:Option AVal}:kZ P get k t (aA (.lit (.slice aC 0 0))) y=match iD P t,y.bind (EA get)with
 | some (s,by',_),aA (s',m,rows,p,ids)=>if m=0 then aA ⟨.lit (.slice aC 0 0),k,[],ids⟩
   else if s'=s/\0<m/\m<=9223372036854775807/\m*by'<=140737488355328/\(rows.all λ row=>row.all one)=aB then aA ⟨.sl k 0 m,k+1,[(k,aA ⟨s,p,rows⟩)],ids⟩else aC
 |_,_=>aC:=by unfold kZ;cases iD P t<;>cases y.bind (EA get)<;>rfl
def bIA{id:Nat}{y:Option AVal}:kZ P get k t (aA (.sl id 0 n)) y=match iD P t,y.bind (EA get)with
 | some (s,by',_),aA (s',m,rows,p,ids)=>match get id with
   | some B=>if m=0 then aA ⟨.sl id 0 n,k,[],id::ids⟩
     else if s'=s/\B.sz=s/\B.rows.length=n/\id<k/\0<m/\n+m<=9223372036854775807/\(n+m)*by'<=140737488355328/\(rows.all λ row=>row.all one)=aB then
      aA ⟨.sl k 0 (n+m),k+1,[(k,aA ⟨s,B.pure&&p,B.rows++rows⟩),(id,aC)],id::ids⟩else aC
   |none=>aC
 |_,_=>aC:=by unfold kZ;cases iD P t<;>cases y.bind (EA get)<;>rfl
def bGR{row:List AVal}:iX aF n row c=row[c]? :=rfl
def bGQ{row:List AVal}:iX aB n row c=if c+n<=row.length then aA (.agg ((row.drop c).take n))else aC:=rfl
def aFQ(k:Nat)(n:Option Nat)(B:Option Blk)(id r c:Nat)(cells:Option (List AVal)):Option Out:=
 match n,cells,B with
 |some n,aA cells,aA B=>if r=0/\c=0/\B.sz<n then(if cells.length=n/\cells.all one=aB/\0<B.sz/\n=B.rows.length*B.sz then aA ⟨.junk,k,[(id,aA ⟨B.sz,cells.all clean,pI B.sz B.rows.length cells⟩)],[id]⟩else aC)else match B.rows[r]? with
    |some row=>if cells.length=n/\cells.all one=aB/\c+n<=row.length then aA ⟨.junk,k,[(id,aA ⟨B.sz,B.pure&&cells.all clean,B.rows.set r (lG row cells c)⟩)],[id]⟩else aC
    |none=>aC
 |_,_,_=>aC
def bNH{id r:Nat}{y:Option AVal}:KX P get k t (aA (.ptr id r c)) y=aFQ k (pG P t) (get id) id r c (y.bind xB):=by
 unfold KX aFQ;cases pG P t<;>cases y.bind xB<;>try rfl
 cases hg:get id with
 |none=>simp only[hg]
 |some B=>simp only[hg];all_goals(cases B.rows[r]? <;>rfl)
def bGJ{id r:Nat}{cells:List AVal}:aFQ k (aA n) (aA B) id r c (aA cells)=if r=0/\c=0/\B.sz<n then(if cells.length=n/\cells.all one=aB/\0<B.sz/\n=B.rows.length*B.sz then aA ⟨.junk,k,[(id,aA ⟨B.sz,cells.all clean,pI B.sz B.rows.length cells⟩)],[id]⟩else aC)else match B.rows[r]? with
 |some row=>if cells.length=n/\cells.all one=aB/\c+n<=row.length then aA ⟨.junk,k,[(id,aA ⟨B.sz,B.pure&&cells.all clean,B.rows.set r (lG row cells c)⟩)],[id]⟩else aC
 |none=>aC:=rfl
end
variable{x:Code}
section
variable{p:Nat->Bool}{cs:List AVal}{i r c:Nat}{v:Value}{f:Nat->List AVal}{g:FuncId}
def bOV:bdF p []=aB:=rfl
def bOU{x:AVal}:bdF p ((t,x)::fr)=(bd p x&&bdF p fr):=rfl
def bOT:oU p []=aB:=rfl
def bOS:oU p ((i,B)::H)=((p i&&(B.pure||B.rows.all λ row=>row.all (iL p)))&&oU p H):=rfl
def b_2:bd p (.lit v)=aB:=rfl
def b_3:bd p (.ptr i r c)=p i:=rfl
def b_4:bd p (.sl i r c)=p i:=rfl
def b_5:bd p (.rp cs)=aB:=rfl
def b_6:bd p (.rd i r f)=aB:=rfl
def b_7:bd p (.agg cs)=cs.all (iL p):=rfl
def b_8:bd p (.fn g cs)=cs.all (iL p):=rfl
def b_9:bd p (.tup cs)=cs.all (MG p):=rfl
def bPE:MG p (.lit v)=aB:=rfl
def bPD:MG p (.ptr i r c)=p i:=rfl
def bPC:MG p (.agg cs)=cs.all (iL p):=rfl
def bPB:iL p .junk=aB:=rfl
def bPA:iL p (.lit v)=aB:=rfl
def bOZ:iL p (.ptr i r c)=p i:=rfl
def bOY:iL p (.sl i r c)=p i:=rfl
def bOX:iL p (.rp cs)=aB:=rfl
def bOW:iL p (.rd i r f)=aB:=rfl
end
attribute [go_sem] eq_self bGZ bCA bCB bHO bHN bHM bGL bGK bGN bGM bNQ bGS bNI bGW bGV bGU bGT bCF bHY List.tail_cons List.tail_nil bHQ bHP bGY bNV bNU bNT bHR bNS bCD bBT bBU bBV aXZ bBS bHC bNX bNR bBX a5I a5P bHW a5O bHV bBW a5J a5M a8W bHS bHF bHZ bHE bHD bHX bND bCE bGI a5N bCC bNP bNO bOA bNZ bGX bBR bNG bNF bNE bNM bNJ bHB bHA bHU bHT bNK bHL bNY bNW bHI bHH bHG bOC bNC bOB bNL bNN bIE bID bIC bHK bBZ bHJ bBY bGR bGQ bNH bGJ wF nS aRL aHC NZ aKJ aFP unV dTt dFn decide_true decide_false bO lJ bVF Option.bind_none Option.isSome_some aA.injEq cH fY lY bN bV List.drop_succ_cons bKB List.drop_nil List.take_succ_cons List.take_zero iI FM gI BK iE Bool.and_self lZ MM MN Bool.not_true Bool.not_false true_and and_true and_self false_and and_false tU beq_self_eq_true eQ kG xB one clean Value.oneCell' nK qH cX aZ bA FSq lG List.set_cons_zero List.set_cons_succ DB mW bGP bGO List.contains_cons List.contains_nil Bool.or_false Bool.or_true BO BP bP if_true if_false a7W true_implies false_implies implies_true forall_const imp_self not_true_eq_false not_false_eq_true yX aEq QM qA fL fP FQ bVI SI tW aEU bIB bIA EA SH bound Option.map pI List.flatten_cons List.flatten_nil List.replicate_succ List.replicate_zero AG MS UH a2Y GN leF IA bOV bOU bOT bOS b_2 b_3 b_4 b_5 b_6 b_7 b_8 b_9 bPE bPD bPC bPB bPA bOZ bOY bOX bOW aAE kC fN inH jY
section
variable{P:Program}{Γ:dW}{nt kb:Nat}{Q:AQ}{k:Nat}{fr:Fr}{H:aS}{c:Code}{p:List Nat}
def bG{v':AVal}(h:v=v'):VLe v v':=h▸bL v
def bEO(hb:kb<=k1)(hf:leF fr fr1)(hH:IA H H1)(h:k1=k\/(bdF (kC k1) fr1=aB/\oU (kC k1) H1=aB)):WkG kb k fr H k1 fr1 H1:=
 ⟨hb,λ t v hv=>⟨v,aCQ hf t v hv,bL v⟩,λ id B hB=>⟨B,QG hH id B hB,nN B⟩,h⟩
end
def sw(a b i:Nat):Nat:=if i=a then b else if i=b then a else i
def lL(a b i:Nat):sw a b (sw a b i)=i:=by unfold sw;split<;>(try split)<;>(try split)<;>(try split)<;>omega
def aTA{b:Nat}(h:sw a b i=sw a b j):i=j:=by rw[<-lL a b i,h,lL]
def aAX{b:Nat}(h1:i≠a)(h2:i≠b):sw a b i=i:=by simp[sw,h1,h2]
def BS(a b:Nat):AVal->AVal
 | .ptr i r c=> .ptr (sw a b i) r c
 | .sl i r n=> .sl (sw a b i) r n
 | .slc i r n c=> .slc (sw a b i) r n c
 | .bfn f i r c=> .bfn f (sw a b i) r c
 | .mp i=> .mp (sw a b i)
 | .it i=> .it (sw a b i)
 | .agg _=> .junk
 | .tup _=> .junk
 | .fn f caps=>if caps.isEmpty then .fn f []else .junk
 |v=>v
def sw1(a b:Nat):AVal->AVal
 | .agg cs=> .agg (cs.map (BS a b))
 | .fn f cs=> .fn f (cs.map (BS a b))
 |v=>BS a b v
def sw2(a b:Nat):AVal->AVal
 | .tup cs=> .tup (cs.map (sw1 a b))
 |v=>sw1 a b v
def swF(a b:Nat)(fr:Fr):Fr:=fr.map λ x=>(x.1,sw2 a b x.2)
def swB(a b:Nat)(C:Blk):Blk:=if C.pure then C else⟨C.sz,aF,C.rows.map λ row=>row.map (BS a b)⟩
def swH(a b:Nat)(H:aS):aS:=H.map λ x=>(sw a b x.1,swB a b x.2)
def DD(a b:Nat):∀(H:aS) (i:Nat),look (swH a b H) i=(look H (sw a b i)).map (swB a b)
 |[],i=>rfl
 |(j,B)::r,i=>by
  simp only[swH,bN,look];by_cases h:sw a b j=i
  .have h':j=sw a b i:=by rw[<-h,lL]
   rw[iP h,iP h'];rfl
  have h':¬j=sw a b i:=λ e=>h (by rw[e,lL]);rw[iN h,iN h'];exact DD a b r i
section
variable{w:World}{G:Nat->Prop}{ρ:dH}{A:cF}{a b:Nat}
def aAZ(h:V w G ρ A v cv):V w G (λ i=>ρ (sw a b i)) (λ i=>A (sw a b i)) (BS a b v) cv:=by
 cases h with
 |nn=>exact .nn
 |dangc h1 h2=>exact .dangc (by simpa [lL]using h1) (by simpa [lL]using h2)
 |slc h1 h2 h3 h4 h5 h6 h7=>exact .slc (by simpa [lL]using h1) (by simpa [lL]using h2) h3 h4 h5 h6 h7
 |bfn h=>cases h with
  |dang h1 h2=>exact .bfn (.dang (by simpa [lL]using h1) (by simpa [lL]using h2))
  |ptr h1 h2 h3=>exact .bfn (.ptr (by simpa [lL]using h1) (by simpa [lL]using h2) h3)
 |junk=>exact .junk
 |lit=>exact .lit
 |dang h1 h2=>exact .dang (by simpa [lL]using h1) (by simpa [lL]using h2)
 |dangs h1 h2=>exact .dangs (by simpa [lL]using h1) (by simpa [lL]using h2)
 |ptr h1 h2 h3=>exact .ptr (by simpa [lL]using h1) (by simpa [lL]using h2) h3
 |dangm h1 h2=>exact .dangm (by simpa [lL]using h1) (by simpa [lL]using h2)
 |mp h1 h2 h3=>exact .mp (by simpa [lL]using h1) (by simpa [lL]using h2) h3
 |dangi h1 h2=>exact .dangi (by simpa [lL]using h1) (by simpa [lL]using h2)
 |it h1 h2 h3=>exact .it (by simpa [lL]using h1) (by simpa [lL]using h2) h3
 |sl h1 h2 h3 h4 h5 h6 h7=>exact .sl (by simpa [lL]using h1) (by simpa [lL]using h2) h3 h4 h5 h6 h7
 |sl0 h1 h2=>exact .sl0 (by simpa [lL]using h1) (by simpa [lL]using h2)
 |rp g h1 h2 h3=>exact .rp g h1 h2 h3
 |rd0=>exact .rd0
 |rd g h1 h2 h3 h4 h5 h6=>exact .rd g h1 h2 h3 h4 h5 h6
 |agg h1 h2=>exact .junk
 |tup h1 h2=>exact .junk
 |fn h1 h2=>
  rename_i f caps cs;simp only[BS];split
  .rename_i he;have:caps=[]:=by simpa using he
   subst this;exact .fn h1 (λ j v hj=>by simp at hj)
  exact .junk
def a8B(h:V w G ρ A v cv):V w G (λ i=>ρ (sw a b i)) (λ i=>A (sw a b i)) (sw1 a b v) cv:=by
 cases v with
 |agg cells=>
  cases h with
  |agg h1 h2=>refine .agg (by simpa using h1) λ j u hj=>?_;rw[aV,aK]at hj;obtain⟨u',hu',rfl⟩:=hj;exact aAZ (h2 j u' hu')
 |fn f cells=>
  cases h with
  |fn h1 h2=>refine .fn (by simpa using h1) λ j u hj=>?_;rw[aV,aK]at hj;obtain⟨u',hu',rfl⟩:=hj;exact aAZ (h2 j u' hu')
 |_=>exact aAZ h
def a8A(h:V w G ρ A v cv):V w G (λ i=>ρ (sw a b i)) (λ i=>A (sw a b i)) (sw2 a b v) cv:=by
 cases v with
 |tup cells=>
  cases h with
  |tup h1 h2=>refine .tup (by simpa using h1) λ j u hj=>?_;rw[aV,aK]at hj;obtain⟨u',hu',rfl⟩:=hj;exact a8B (h2 j u' hu')
 |_=>exact a8B h
end
section
variable{P:Program}{Γ:dW}{nt kb:Nat}{Q:AQ}{k:Nat}{fr:Fr}{H:aS}{c:Code}{p:List Nat}
def Mv(kb k:Nat)(fr:Fr)(H:aS)(k1:Nat)(fr1:Fr)(H1:aS):Prop:=
 kb<=k->kb<=k1/\∀Γ nt A0 w G ρ a,(∀i,A0 i->i<kb)->Inv Γ nt w G ρ (kI A0 kb k) a fr H->∃G' ρ',Inv Γ nt w G' ρ' (kI A0 kb k1) a fr1 H1/\Step (lX kb) w G ρ w G' ρ'
def Mv.trans{k2:Nat}{fr2:Fr}{H2:aS}(h:Mv kb k fr H k1 fr1 H1)(g:Mv kb k1 fr1 H1 k2 fr2 H2):Mv kb k fr H k2 fr2 H2:=λ hk=>by obtain⟨h1,h2⟩:=h hk;obtain⟨g1,g2⟩:=g h1;refine⟨g1,λ Γ nt A0 w G ρ a hA hi=>?_⟩;obtain⟨G',ρ',hi',hs⟩:=h2 Γ nt A0 w G ρ a hA hi;obtain⟨G2,ρ2,hi2,hs2⟩:=g2 Γ nt A0 w G' ρ' a hA hi';exact⟨G2,ρ2,hi2,hs.trans hs2 (λ _ h=>h)⟩
def yH:Mv kb k fr H k fr H:=λ hk=>⟨hk,λ _ _ _ _ G ρ _ _ hi=>⟨G,ρ,hi,lF _ _ _ _⟩⟩
def nC(h:WkG kb k fr H k1 fr1 H1):Mv kb k fr H k1 fr1 H1:=λ _=>⟨h.base,λ Γ nt A0 w G ρ a hA hi=>by obtain⟨ρ',h1,h2⟩:=h.inv hi;exact⟨G,ρ',h1,h2 _⟩⟩
def gT(id:Nat)(hB:look H id=aA B)(hp:B.pure=aB):Mv kb k fr H k (qO id B fr) (AR id B H):=λ hk=>⟨hk,λ Γ nt A0 w G ρ a hA hi=>by obtain⟨G',ρ',h1,h2⟩:=aHK hB hp hi;exact⟨G',ρ',h1,h2 _⟩⟩
def Mv.swap (a b:Nat)(ha:kb<=a/\a<k)(hb:kb<=b/\b<k):Mv kb k fr H k (swF a b fr) (swH a b H):=λ hk=>⟨hk,λ Γ nt A0 w G ρ ac hA hi=>by
 have hal:∀i,kI A0 kb k (sw a b i)->kI A0 kb k i:=λ i h=>by
  by_cases h1:i=a;.subst h1;exact .inr ha
  by_cases h2:i=b;.subst h2;exact .inr hb
  rw[aAX h1 h2]at h;exact h
 have hV:∀v u cv,V w G (λ i=>ρ (sw a b i)) (λ i=>kI A0 kb k (sw a b i)) v cv->u=v->V w G (λ i=>ρ (sw a b i)) (kI A0 kb k) u cv:=λ v u cv h e=>by subst e;exact h.mono (λ _ h=>h) (λ _ _=>rfl) (λ _ _=>rfl) hal (λ _ _=> .inr rfl)
 refine⟨G,λ i=>ρ (sw a b i),⟨⟨λ id h=>?_,λ id B A h=>?_,λ i j x s t h1 h2=>?_,hi.rel.ro,hi.rel.glob⟩,hi.size,hi.defers,λ t v hv=>?_⟩,⟨aJ _,λ _ _ _=>rfl,λ _ _=>rfl,λ _ h=>h,λ _ h=> .inl h,?_,λ id h=>?_,rfl,rfl,rfl⟩⟩;.simp only[bK,dL,DD]at h;exact hi.rel.dom _ (by simp[bK,h])
 .simp only[bK,aK,DD]at h;obtain⟨B',⟨C,hC,rfl⟩,he⟩:=h;cases he;obtain⟨h1,x,h2,h3,h4⟩:=hi.rel.blk (sw a b id) C _ (by simp only[bK,hC,bO];rfl);have hsz:(swB a b C).sz=C.sz:=by unfold swB;split<;>rfl
  refine⟨hal id h1,x,by rw[hsz];exact h2,h3,?_⟩;obtain⟨⟨Cs,ty,hCs,hrows⟩,hlen⟩:=h4;unfold swB;split
  .rename_i hp;refine⟨⟨Cs,ty,hCs,λ r row c v h5 h6=>?_⟩,hlen⟩;obtain⟨cv,h9,h10⟩:=hrows r row c v h5 h6;simp only[hp,if_true]at h10⊢
   exact⟨cv,h9,h10⟩
  rename_i hp;refine⟨⟨Cs,ty,hCs,λ r row c v h5 h6=>?_⟩,λ r row h5=>?_⟩;.rw[aV,aK]at h5;obtain⟨row0,h7,rfl⟩:=h5;rw[aV,aK]at h6;obtain⟨v0,h8,rfl⟩:=h6;obtain⟨cv,h9,h10⟩:=hrows r row0 c v0 h7 h8;simp only[hp]at h10;exact⟨cv,h9,by simp only[bP,if_false];exact hV _ _ _ (aAZ h10) rfl⟩
  rw[aV,aK]at h5;obtain⟨row0,h7,rfl⟩:=h5;simpa using hlen r row0 h7
 .exact aTA (hi.rel.inj _ _ _ _ _ h1 h2)
 .unfold swF at hv;rw[mL,aK]at hv;obtain⟨u,hu,rfl⟩:=hv;exact hV _ _ _ (a8A (hi.frm t u hu)) rfl
 .rintro x ⟨i,s,hx⟩;exact .inl ⟨_,s,hx⟩
 have h':id<kb:=h;exact .inr (by show ρ (sw a b id)=ρ id;rw[aAX oO oO])⟩
def gW(hm:Mv kb k fr H k1 fr1 H1)(h:W P Γ nt kb c Q k1 fr1 H1):W P Γ nt kb c Q k fr H:=λ A0 hA0 hk w G ρ a hi=>by obtain⟨h1,h2⟩:=hm hk;obtain⟨G',ρ',hi',hs⟩:=h2 Γ nt A0 w G ρ a hA0 hi;exact wp_mono (h A0 hA0 h1 w G' ρ' a hi') λ _ _ _ hp=>Post.trans hs hp
def upM(kb:Nat)(Q:AQ):AQ:=λ e k fr H=>∃k1 fr1 H1,Mv kb k fr H k1 fr1 H1/\Q e k1 fr1 H1
def pW(h:W P Γ nt kb c (upM kb Q) k fr H):W P Γ nt kb c Q k fr H:=λ A0 hA0 hk w G ρ a hi=>
 wp_mono (h A0 hA0 hk w G ρ a hi) λ e a' w' hp=>by obtain⟨G',ρ',k',fr',H',⟨k1,fr1,H1,hm,hQ⟩,hk',hi',hst⟩:=hp;obtain⟨h1,h2⟩:=hm hk';obtain⟨G1,ρ1,hi1,hs1⟩:=h2 Γ nt A0 w' G' ρ' a' hA0 hi';exact⟨G1,ρ1,k1,fr1,H1,hQ,h1,hi1,hst.trans hs1 (λ _ h=>h)⟩
def bJH{X:Type}(hc:gV c p= .loop x)(kx:Nat)(frx:X->Fr)(Hx:X->aS)(inv:X->Prop)(μ:X->Nat)(x0:X)(hs:Mv kb k fr H kx (frx x0) (Hx x0))(h0:inv x0)
 (round:∀x,inv x->W P Γ nt kb (gV c (0::p)) (mW (λ k' fr' H'=>∃y,inv y/\μ y<μ x/\Mv kb k' fr' H' kx (frx y) (Hx y)) Q) kx (frx x) (Hx x)):W P Γ nt kb (gV c p) Q k fr H:=by
 refine gW hs (a1H hc (λ m k' fr' H'=>∃y,inv y/\μ y<=m/\k'=kx/\fr'=frx y/\H'=Hx y) (μ x0) ⟨x0,h0,aJ _,rfl,rfl,rfl⟩ ?_);rintro m k' fr' H' ⟨y,hy,hm,rfl,rfl,rfl⟩;refine pW (mD (round y hy) (λ e k1 fr1 H1 hq=>?_))
 cases e with
 |normal=>obtain⟨z,hz,hlt,hw⟩:=hq;exact⟨_,_,_,hw,μ z,oO,z,hz,aJ _,rfl,rfl,rfl⟩
 |exit id=>exact⟨k1,fr1,H1,yH,hq⟩
 |goto l=>exact⟨k1,fr1,H1,yH,hq⟩
 |ret=>exact⟨k1,fr1,H1,yH,hq⟩
 |panic ch=>exact⟨k1,fr1,H1,yH,hq⟩
 |outgrown=>exact⟨k1,fr1,H1,yH,hq⟩
def a9E{X:Type}{y:Code}(hc:gV c p= .seq x y)(kx:Nat)(frx:X->Fr)(Hx:X->aS)(inv:X->Prop)
 (h1:W P Γ nt kb (gV c (0::p)) (mW (λ k' fr' H'=>∃z,inv z/\Mv kb k' fr' H' kx (frx z) (Hx z)) Q) k fr H) (h2:∀z,inv z->W P Γ nt kb (gV c (1::p)) Q kx (frx z) (Hx z)):W P Γ nt kb (gV c p) Q k fr H:=by
 refine iG hc (pW (mD h1 (λ e k1 fr1 H1 hq=>?_)))
 cases e with
 |normal=>obtain⟨z,hz,hw⟩:=hq;exact⟨_,_,_,hw,h2 z hz⟩
 |exit id=>exact⟨k1,fr1,H1,yH,hq⟩
 |goto l=>exact⟨k1,fr1,H1,yH,hq⟩
 |ret=>exact⟨k1,fr1,H1,yH,hq⟩
 |panic ch=>exact⟨k1,fr1,H1,yH,hq⟩
 |outgrown=>exact⟨k1,fr1,H1,yH,hq⟩
def a1D(hc:gV c p= .ret)(hm:Mv kb k fr H k1 fr1 H1)(h:Q .ret k1 fr1 H1):W P Γ nt kb (gV c p) Q k fr H:=gW hm (cB hc h)
end
def dI(id:Nat)(l:List (List AVal)):AVal:=match l with
 |[]=> .lit (.slice aC 0 0)
 |_::_=> .sl id 0 l.length
def cM(id sz:Nat)(l:List (List AVal))(H:aS):aS:=match l with
 |[]=>H
 |_::_=>(id,⟨sz,aB,l⟩)::H
def a0K{id:Nat}:dI id []= .lit (.slice aC 0 0):=rfl
variable{l:List (List AVal)}
def aRV{id:Nat}{x:List AVal}:dI id (x::l)= .sl id 0 (l.length+1):=rfl
def a0N{id:Nat}:cM id sz [] H=H:=rfl
def aRX{id:Nat}{x:List AVal}:cM id sz (x::l) H=(id,⟨sz,aB,x::l⟩)::H:=rfl
inductive Tied2 (X Y:Prop):Type|mk
inductive TiedF (f:Out->Prop):Type|mk
inductive TiedC (f:Orc->List Orc->Prop):Type|mk
inductive TiedR (all:Array Oper) (l:List Oper) (K:List Foot->Nat->Fr->aS->Prop):Type|mk
inductive TiedP (f:Out->List Orc->Prop) (X:Prop):Type|mk
def KO(g:Option Bool)(X Y:Prop)(_:Tied2 X Y):Prop:=VO g X Y
def aGD(g:Option Out)(f:Out->Prop)(_:TiedF f):Prop:=aBY g f
def aZG(cs:List Orc)(f:Orc->List Orc->Prop)(_:TiedC f):Prop:=aZH cs f
def aFZ(g:Option (Out×List Orc))(f:Out->List Orc->Prop)(X:Prop)(_:TiedP f X):Prop:=aUT g f X
def GU(P:Program)(Γ:dW)(all:Array Oper)(l:List Oper)(cs:List Orc)(k:Nat)(fr:Fr)(H:aS)(K:List Foot->Nat->Fr->aS->Prop)(_:TiedR all l K):Prop:=RunF P Γ all l cs k fr H K
section
variable{P:Program}{Γ:dW}{all:Array Oper}{r:List Oper}{cs:List Orc}{k:Nat}{fr:Fr}{H:aS}{K:List Foot->Nat->Fr->aS->Prop}{o:Oper}
def bKX{t:TiedR all [] K}:GU P Γ all [] cs k fr H K t=K [] k fr H:=rfl
def bKY{t:TiedR all (o::r) K}:GU P Γ all (o::r) cs k fr H K t=KO (nJ all fr o) (GU P Γ all r (aTQ o cs) k (jM fr o.dst (.lit undef)) H (λ tr=>K (⟨[],[],k,k⟩::tr)) .mk)
 (aFZ (HP o.dst cs) (λ out cs'=>Good P Γ o (lN Γ fr) (AM.look H) k out/\GU P Γ all r cs' out.k (jM fr o.dst out.v) (MR H out.upd) (λ tr=>K (⟨out.rds,out.upd.map (·.1),k,out.k⟩::tr)) .mk)
 (if wF o=aB then aZG cs (λ c cs'=>CallReq P Γ o (lN Γ fr) (AM.look H) k c/\GU P Γ all r cs' (c.out k).k (jM fr o.dst (c.out k).v) (c.heap k H) (λ tr=>K (⟨(c.out k).rds,(c.out k).upd.map (·.1),k,(c.out k).k⟩::tr)) .mk) .mk
 else aGD (CH P Γ o (lN Γ fr) (AM.look H) k) (λ out=>GU P Γ all r cs out.k (jM fr o.dst out.v) (YM (YI o) H out.upd) (λ tr=>K (⟨out.rds,out.upd.map (·.1),k,out.k⟩::tr)) .mk) .mk) .mk) .mk:=rfl
def bLA{f:Out->List Orc->Prop}{t:TiedP f X}:aFZ aC f X t=X:=rfl
def bKZ{x:Out×List Orc}{f:Out->List Orc->Prop}{t:TiedP f X}:aFZ (aA x) f X t=f x.1 x.2:=rfl
def bLC{out:Out}{f:Out->Prop}{t:TiedF f}:aGD (aA out) f t=f out:=rfl
def bLB{c:Prop} [Decidable c]{out:Out}{f:Out->Prop}{t:TiedF f}:aGD (if c then aA out else aC) f t=(c/\f out):=bGY
def bLD{t:Tied2 X Y}:KO (aA aB) X Y t=Y:=by simp[KO,VO]
def bLE{t:Tied2 X Y}:KO (aA aF) X Y t=X:=by simp[KO,VO]
def lR{t:Tied2 X Y}(ht:b=aB->Y)(hf:b=aF->X):KO (aA b) X Y t:=a4U ht hf
def bLF{c:Orc}{f:Orc->List Orc->Prop}{t:TiedC f}:aZG (c::cs) f t=f c cs:=rfl
end
section
variable{P:Program}{Γ:dW}{nt kb:Nat}{Q:AQ}{k:Nat}{fr:Fr}{H:aS}{c:Code}{p:List Nat}
def MK{id:Nat}{l:List Oper}(hc:gV c p= .region id l.toArray aF)(keep:List Nat)(cs:List Orc)(hd:nL nt l.toArray=aB)
 (h:∀K:List Foot->Nat->Fr->aS->Prop,(∀tr k' fr' H',(kb<=k'->Q .normal k' (lM keep fr') H')->K tr k' fr' H')->GU P Γ l.toArray l cs k fr H K .mk):W P Γ nt kb (gV c p) Q k fr H:=a9F hc keep cs hd h
def aNY{id:Nat}{l:List Oper}(hc:gV c p= .region id l.toArray aB)(keep:List Nat)(cs:List Orc)(hm:P.follows .mixedOrders=aB)(hd:nL nt l.toArray=aB)
 (h:∀K:List Foot->Nat->Fr->aS->Prop,(∀tr k' fr' H',lE l.toArray tr=aB->(kb<=k'->Q .normal k' (lM keep fr') H')->K tr k' fr' H')->GU P Γ l.toArray l cs k fr H K .mk):W P Γ nt kb (gV c p) Q k fr H:=a9G hc keep cs hm hd h
end
attribute [go_sem] bKX bLA bKZ bKY bLC bLB bLD bLE bLF a0K aRV a0N aRX
variable{b:Nat}{p:Nat->Bool}
section
variable{id j s:Nat}{l:List (List AVal)}{x:List AVal}{H H0:aS}{B:Blk}
def aRU:dI id (l++[x])= .sl id 0 (l.length+1):=by cases l<;>simp[dI]
def aRW:cM id s (l++[x]) H=(id,⟨s,aB,l++[x]⟩)::H:=by cases l<;>simp[cM]
def HZ(h:id≠j):AM.look (cM id s l H) j=AM.look H j:=by cases l<;>simp[cM,AM.look,h]
def a5U(h:id≠j):del (cM id s l H) j=cM id s l (del H j):=by cases l<;>simp[cM,del,h]
def mM(H:aS)(id s:Nat)(l:List (List AVal)):Prop:=l≠[]->AM.look H id=aA ⟨s,aB,l⟩
def SF:mM (cM id s l H) id s l=True:=by
 simp only[mM,eq_iff_iff,iff_true]
 intro h;cases l with
 |nil=>exact absurd rfl h
 |cons a r=>simp[cM,AM.look]
def GS(h:j≠id):mM ((j,B)::H) id s l=mM H id s l:=by simp[mM,AM.look,h]
def a0M:mM ((id,⟨s,aB,l⟩)::H) id s l=True:=by simp[mM,AM.look]
def a4M:IA H0 (cM id s l H)=(mM H0 id s l/\IA H0 H):=by
 cases l with
 |nil=>simp[mM,cM]
 |cons a r=>simp[mM,cM,IA]
def ON(h:p id=aB):oU p (cM id s l H)=oU p H:=by cases l<;>simp[cM,oU,h]
def aJA(h:p id=aB):bd p (dI id l)=aB:=by cases l<;>simp[dI,bd,MG,iL,h]
def a6S(h:p id=aB):iL p (dI id l)=aB:=by cases l<;>simp[dI,iL,h]
def a2I:BS a b (dI id l)=dI (sw a b id) l:=by cases l<;>simp[dI,BS]
def a2H:sw2 a b (dI id l)=dI (sw a b id) l:=by cases l<;>simp[dI,sw2,sw1,BS]
def a2D:swH a b (cM id s l H)=cM (sw a b id) s l (swH a b H):=by cases l<;>simp[cM,swH,swB]
def c_1{v:Value}:sw2 a b (.lit v)= .lit v:=rfl
def c_2{r:Nat}:sw2 a b (.ptr i r c)= .ptr (sw a b i) r c:=rfl
def c_3{r:Nat}:sw2 a b (.sl i r c)= .sl (sw a b i) r c:=rfl
def c_4:sw2 a b (.agg cs)= .agg (cs.map (BS a b)):=rfl
def c_5:sw2 a b (.rp cs)= .rp cs:=rfl
def c_6{f:Nat->List AVal}:sw2 a b (.rd i n f)= .rd i n f:=rfl
def c_7:sw2 a b (.fn g cs)= .fn g (cs.map (BS a b)):=rfl
def bOP{v:Value}:BS a b (.lit v)= .lit v:=rfl
def bOO{r:Nat}:BS a b (.ptr i r c)= .ptr (sw a b i) r c:=rfl
def bON{r:Nat}:BS a b (.sl i r c)= .sl (sw a b i) r c:=rfl
def bOM:BS a b (.rp cs)= .rp cs:=rfl
def bOL{f:Nat->List AVal}:BS a b (.rd i n f)= .rd i n f:=rfl
def aTB:swH a b ((id,B)::H)=(sw a b id,swB a b B)::swH a b H:=rfl
def a2B:swH a b []=[]:=rfl
def aTD{rows:List (List AVal)}:swB a b ⟨sz,aB,rows⟩=⟨sz,aB,rows⟩:=rfl
def a2G{rows:List (List AVal)}:swB a b ⟨sz,aF,rows⟩=⟨sz,aF,rows.map λ row=>row.map (BS a b)⟩:=rfl
def aTC:swF a b ((t,v)::fr)=(t,sw2 a b v)::swF a b fr:=rfl
def a2E:swF a b []=[]:=rfl
end
section
variable{P:Program}{Γ:dW}{nt kb:Nat}{Q:AQ}{k:Nat}{fr:Fr}{H:aS}{c:Code}{p:List Nat}
def Mv.app(a b:Nat)(ha:kb<=a/\a<k)(hb:kb<=b/\b<k)(h:WkG kb k (swF a b fr) (swH a b H) k1 fr1 H1):Mv kb k fr H k1 fr1 H1:=(Mv.swap a b ha hb).trans (nC h)
def bDN{y:Code}(hc:gV c p= .seq x y)(kx:Nat)(frx:Fr)(Hx:aS)
 (h1:W P Γ nt kb (gV c (0::p)) (mW (λ k' fr' H'=>Mv kb k' fr' H' kx frx Hx) Q) k fr H) (h2:W P Γ nt kb (gV c (1::p)) Q kx frx Hx):W P Γ nt kb (gV c p) Q k fr H:=
 a9E (X:=Unit) hc kx (λ _=>frx) (λ _=>Hx) (λ _=>True) (mD h1 λ e k1 fr1 H1 h=>by
  cases e with
  |normal=>exact⟨(),trivial,h⟩
  |_=>exact h) (λ _ _=>h2)
def sA(hb:kb<=k1)(hf:leF fr fr1)(hH:IA H H1)(h:bdF (kC k1) fr1=aB)(h':oU (kC k1) H1=aB):WkG kb k fr H k1 fr1 H1:=bEO hb hf hH (.inr ⟨h,h'⟩)
end
attribute [go_sem] aRU aRW HZ a5U SF a0M GS a4M a2I a2H a2D aTB a2B aTD a2G aTC a2E sw c_1 c_2 c_3 c_4 c_5 c_6 c_7 bOP bOO bON bOM bOL ON aJA a6S
def wL(hb:kb<=k1:=by omega)(hf:leF fr fr1:=by simp-dsimp-implicitDefEqProofs only[go_sem,aQ,Flt.row,eq_self,↓reduceIte])(hH:IA H H1:=by simp-dsimp-implicitDefEqProofs only[go_sem,aQ,Flt.row,eq_self,↓reduceIte])(h:bdF (kC k1) fr1=aB:=by simp-dsimp-implicitDefEqProofs only[go_sem,aQ,Flt.row,eq_self,↓reduceIte])(h':oU (kC k1) H1=aB:=by simp-dsimp-implicitDefEqProofs only[go_sem,aQ,Flt.row,eq_self,↓reduceIte]):WkG kb k fr H k1 fr1 H1:=sA hb hf hH h h'
def wV(u:T)(hb:kb<=k1:=by omega)(hf:T->leF fr fr1:=by intro uU;simp-dsimp-implicitDefEqProofs only[go_sem,uU,aQ,Flt.row,eq_self,↓reduceIte])(hH:T->IA H H1:=by intro uU;simp-dsimp-implicitDefEqProofs only[go_sem,uU,aQ,Flt.row,eq_self,↓reduceIte])(h:T->bdF (kC k1) fr1=aB:=by intro uU;simp-dsimp-implicitDefEqProofs only[go_sem,uU,aQ,Flt.row,eq_self,↓reduceIte])(h':T->oU (kC k1) H1=aB:=by intro uU;simp-dsimp-implicitDefEqProofs only[go_sem,uU,aQ,Flt.row,eq_self,↓reduceIte]):WkG kb k fr H k1 fr1 H1:=sA hb (hf u) (hH u) (h u) (h' u)
def FI(a b:Nat)(h:WkG kb k (swF a b fr) (swH a b H) k1 fr1 H1)(ha:kb<=a/\a<k:=by omega)(hb:kb<=b/\b<k:=by omega):Mv kb k fr H k1 fr1 H1:=Mv.app a b ha hb h
variable{p:Prop}
def sL(h:p:=by simp-dsimp-implicitDefEqProofs only[go_sem,aQ,Flt.row,eq_self,↓reduceIte]):p:=h
def s0(h:p:=by simp-dsimp-implicitDefEqProofs only[go_sem,eq_self,↓reduceIte]):p:=h
def sV(u:T)(h:T->p:=by intro uU;simp-dsimp-implicitDefEqProofs only[go_sem,uU,aQ,Flt.row,eq_self,↓reduceIte]):p:=h u
def wW(u:T)(hb:kb<=k1:=by omega)(hf:T->leF fr fr1:=by intro uU;simp-dsimp-implicitDefEqProofs (disch:=omega)only[go_sem,iO,uU,TC,ltB_iff,aQ,Flt.row,eq_self,↓reduceIte])(hH:T->IA H H1:=by intro uU;simp-dsimp-implicitDefEqProofs (disch:=omega)only[go_sem,iO,uU,TC,ltB_iff,aQ,Flt.row,eq_self,↓reduceIte])(h:T->bdF (kC k1) fr1=aB:=by intro uU;simp-dsimp-implicitDefEqProofs (disch:=omega)only[go_sem,iO,uU,TC,ltB_iff,aQ,Flt.row,eq_self,↓reduceIte])(h':T->oU (kC k1) H1=aB:=by intro uU;simp-dsimp-implicitDefEqProofs (disch:=omega)only[go_sem,iO,uU,TC,ltB_iff,aQ,Flt.row,eq_self,↓reduceIte]):WkG kb k fr H k1 fr1 H1:=sA hb (hf u) (hH u) (h u) (h' u)
def sW(u:T)(h:T->p:=by intro uU;simp-dsimp-implicitDefEqProofs (disch:=omega)only[go_sem,iO,uU,TC,ltB_iff,aQ,Flt.row,eq_self,↓reduceIte]):p:=h u
def sT{A B:Prop}(b:B)(h:B->A:=by intro b1;simp-dsimp-implicitDefEqProofs only[go_sem,eq_self,↓reduceIte];exact b1):A:=h b
instance:Coe Unit AVal:=⟨λ _=> .lit (.slice aC 0 0)⟩
instance:Coe Int AVal:=⟨λ x=> .lit (.int .i64 x)⟩
instance:Coe Nat AVal:=⟨λ x=> .lit (.int .i64 (x:Int))⟩
instance:Coe Bool AVal:=⟨λ x=> .lit (.bool x)⟩
def rows(s:Nat)(l:List (List AVal)):AVal:= .rd s l.length (λ i=>l.getD i [])
section
variable{P:Program}{Γ:dW}{nt kb:Nat}{Q:AQ}{k:Nat}{fr:Fr}{H:aS}{c:Code}{p:List Nat}
def VLe.nil (s:Nat)(f:Nat->List AVal):VLe (.lit (.slice aC 0 0)) (.rd s 0 f):=λ w G ρ A cv hv=>by cases hv;exact .rd0
def WR{id:Nat}(t:Nat)(hf:look fr t=aA (dI id l))(hH:mM H id s l):Mv kb k fr H k [(t,rows s l)] []:=by
 cases l with
 |nil=>
  refine λ hk=>nC ⟨hk,λ t' v hv=>?_,λ i B hB=>by simp[look]at hB,.inl rfl⟩ hk;simp only[look]at hv;split at hv;.rename_i he;subst he;cases hv;exact⟨_,hf,VLe.nil _ _⟩
  cases hv
 |cons x r=>
  have h1:=hH (by simp);refine Mv.trans (gT id h1 rfl) (λ hk=>nC ⟨hk,λ t' v hv=>?_,λ i B hB=>by simp[look]at hB,.inl rfl⟩ hk);simp only[look]at hv;split at hv;.rename_i he;subst he;cases hv;refine⟨_,by unfold qO;rw[mL,hf];rfl,?_⟩;simp only[dI,frz,kY,rows,eQ,aJ,and_self,if_true];exact bL _
  cases hv
def aJW(hc:gV c p= .ret){id:Nat}(t:Nat)(hf:look fr t=aA (dI id l))(hH:mM H id s l)(h:Q .ret k [(t,rows s l)] []):W P Γ nt kb (gV c p) Q k fr H:=
 a1D hc (WR t hf hH) h
end
def sh(f:Foot):Bool×Bool:=(!f.rds.isEmpty,!f.mods.isEmpty)
def aIU(ops:Array Oper)(oj:Oper)(fj:Bool×Bool)(oi:Oper)(fi:Bool×Bool):Bool:=
 lA (IQ oj) (pZ ops oi)||lA (IQ oj) (IQ oi)||lA (IQ oi) (pZ ops oj)||(fj.2&&fi.1)||(fj.2&&fi.2)||(fj.1&&fi.2)
def aYC(ops:Array Oper)(tr:List (Bool×Bool)):Bool:=
 (aR ops.size).all λ i=>match ops[i]?,tr[i]? with
   |some oi,aA fi=>(oi.after.toList.all λ e=> !Region.binds .any e||decide (e.on<i))&&
      (aR i).all λ j=>match ops[j]?,tr[j]? with
        |some oj,aA fj=> !aIU ops oj fj oi fi||aIZ ops ops.size j i
        |_,_=>aF
   |_,_=>aF
def QB{a b:List Nat}(h:lA a b=aB):(!a.isEmpty)=aB/\(!b.isEmpty)=aB:=by
 cases a with
 |nil=>simp[lA]at h
 |cons x r=>cases b with
  |nil=>simp[lA]at h
  |cons y q=>simp
def a6G{oj oi:Oper}{fj fi:Foot}(h:aIU ops oj (sh fj) oi (sh fi)=aF):nM ops oj fj oi fi=aF:=by
 simp only[aIU,gA,sh]at h;simp only[nM,gA];obtain⟨⟨⟨⟨⟨h1,h2⟩,h3⟩,h4⟩,h5⟩,h6⟩:=h;refine⟨⟨⟨⟨⟨h1,h2⟩,h3⟩,?_⟩,?_⟩,?_⟩
 .cases hm:lA fj.mods fi.rds with
  |false=>rfl
  |true=>obtain⟨a,b⟩:=QB hm;rw[a,b]at h4;cases h4
 .cases hm:lA fj.mods fi.mods with
  |false=>rfl
  |true=>obtain⟨a,b⟩:=QB hm;rw[a,b]at h5;cases h5
 cases hm:lA fj.rds fi.mods with
 |false=>rfl
 |true=>obtain⟨a,b⟩:=QB hm;rw[a,b]at h6;cases h6
def KV(h:aYC ops (tr.map sh)=aB)(hm:(tr.all λ f=>f.mods.all λ x=>decide (x<f.k'))=aB):lE ops tr=aB:=by
 simp only[aYC,aY]at h;simp only[lE,aY];intro i hi;have h1:=h i hi;rw[aV]at h1
 cases ho:ops[i]? with
 |none=>rw[ho]at h1;simp at h1
 |some oi=>
  cases ht:tr[i]? with
  |none=>rw[ho,ht]at h1;simp at h1
  |some fi=>
   rw[ho,ht]at h1;simp only[bO,aO,aY]at h1;simp only[aO,aY];refine⟨⟨h1.1,?_⟩,λ j hj=>?_⟩;.have:=aY.1 hm fi (gL ht);exact λ x hx=>aY.1 this x hx
   have h2:=h1.2 j hj;rw[aV]at h2
   cases hoj:ops[j]? with
   |none=>rw[hoj]at h2;simp at h2
   |some oj=>
    cases htj:tr[j]? with
    |none=>rw[hoj,htj]at h2;simp at h2
    |some fj=>
     rw[hoj,htj]at h2;simp only[bO,gQ,dV]at h2;simp only[gQ,dV];rcases h2 with h2|h2;.exact .inl (a6G h2)
     exact .inr h2
section
variable{P:Program}{Γ:dW}{nt kb:Nat}{Q:AQ}{k:Nat}{fr:Fr}{H:aS}{c:Code}{p:List Nat}
def vG (f:Nat)(hf:f<k):Mv kb k fr H (k+1) (swF f k fr) (swH f k H):=λ hk=>⟨oO,λ Γ nt A0 w G ρ ac hA hi=>by
 have hAk:¬kI A0 kb k k:=λ h=>by
  rcases h with h|h;.have:=hA _ h;omega
  omega
 have hal:∀i,kI A0 kb k (sw f k i)->kI A0 kb (k+1) i:=λ i h=>by
  by_cases h1:i=f;.subst h1;simp only[sw,if_true]at h;exact absurd h hAk
  by_cases h2:i=k;.subst h2;exact .inr ⟨hk,oO⟩
  rw[aAX h1 h2]at h;rcases h with h|h;.exact .inl h
  exact .inr ⟨h.1,oO⟩
 have hρk:ρ k=aC:=by
  cases hl:look H k with
  |none=>exact hi.rel.dom k (by simp[bK,hl])
  |some B=>exact absurd (hi.rel.blk k B (kI A0 kb k) (by simp only[bK,hl,bO])).1 hAk
 have hV:∀v u cv,V w G (λ i=>ρ (sw f k i)) (λ i=>kI A0 kb k (sw f k i)) v cv->u=v->V w G (λ i=>ρ (sw f k i)) (kI A0 kb (k+1)) u cv:=λ v u cv h e=>by subst e;exact h.mono (λ _ h=>h) (λ _ _=>rfl) (λ _ _=>rfl) hal (λ _ _=> .inr rfl)
 refine⟨G,λ i=>ρ (sw f k i),⟨⟨λ id h=>?_,λ id B A h=>?_,λ i j x s t h1 h2=>?_,hi.rel.ro,hi.rel.glob⟩,hi.size,hi.defers,λ t v hv=>?_⟩,⟨aJ _,λ _ _ _=>rfl,λ _ _=>rfl,λ _ h=>h,λ _ h=> .inl h,?_,λ id h=>?_,rfl,rfl,rfl⟩⟩;.simp only[bK,dL,DD]at h;exact hi.rel.dom _ (by simp[bK,h])
 .simp only[bK,aK,DD]at h;obtain⟨B',⟨C,hC,rfl⟩,he⟩:=h;cases he;obtain⟨h1,x,h2,h3,h4⟩:=hi.rel.blk (sw f k id) C _ (by simp only[bK,hC,bO];rfl);have hsz:(swB f k C).sz=C.sz:=by unfold swB;split<;>rfl
  refine⟨hal id h1,x,by rw[hsz];exact h2,h3,?_⟩;obtain⟨⟨Cs,ty,hCs,hrows⟩,hlen⟩:=h4;unfold swB;split
  .rename_i hp;refine⟨⟨Cs,ty,hCs,λ r row c v h5 h6=>?_⟩,hlen⟩;obtain⟨cv,h9,h10⟩:=hrows r row c v h5 h6;simp only[hp,if_true]at h10⊢
   exact⟨cv,h9,h10⟩
  rename_i hp;refine⟨⟨Cs,ty,hCs,λ r row c v h5 h6=>?_⟩,λ r row h5=>?_⟩;.rw[aV,aK]at h5;obtain⟨row0,h7,rfl⟩:=h5;rw[aV,aK]at h6;obtain⟨v0,h8,rfl⟩:=h6;obtain⟨cv,h9,h10⟩:=hrows r row0 c v0 h7 h8;simp only[hp]at h10;exact⟨cv,h9,by simp only[bP,if_false];exact hV _ _ _ (aAZ h10) rfl⟩
  rw[aV,aK]at h5;obtain⟨row0,h7,rfl⟩:=h5;simpa using hlen r row0 h7
 .exact aTA (hi.rel.inj _ _ _ _ _ h1 h2)
 .unfold swF at hv;rw[mL,aK]at hv;obtain⟨u,hu,rfl⟩:=hv;exact hV _ _ _ (a8A (hi.frm t u hu)) rfl
 .rintro x ⟨i,s,hx⟩;exact .inl ⟨_,s,hx⟩
 have h':id<kb:=h;by_cases h1:id=f;.subst h1;exact .inl (by show ρ (sw id k id)=aC;simp only[sw,if_true];exact hρk)
 exact .inr (by show ρ (sw f k id)=ρ id;rw[aAX h1 oO])⟩
def sU(P:Program)(Γ:dW)(nt kb:Nat)(c:Code)(Q:AQ):Nat->Nat->Fr->aS->Prop
 |0,_,_,_=>False
 |n+1,k,fr,H=>W P Γ nt kb c (mW (sU P Γ nt kb c Q n) Q) k fr H
def JQ(hc:gV c p= .loop x)(n:Nat)(h:sU P Γ nt kb (gV c (0::p)) Q n k fr H):W P Γ nt kb (gV c p) Q k fr H:=by
 refine a1H hc (λ m k fr H=>sU P Γ nt kb (gV c (0::p)) Q m k fr H) n h λ m k fr H h=>?_
 cases m with
 |zero=>exact h.elim
 |succ m=>
  refine mD h λ e k1 fr1 H1 hq=>?_
  cases e with
  |normal=>exact⟨m,oO,hq⟩
  |_=>exact hq
def JH(n:Nat)(h:sU P Γ nt kb x Q n k fr H):W P Γ nt kb (.loop x) Q k fr H:=by
 refine a0R (λ m k fr H=>sU P Γ nt kb x Q m k fr H) n h λ m k fr H h=>?_
 cases m with
 |zero=>exact h.elim
 |succ m=>
  refine mD h λ e k1 fr1 H1 hq=>?_
  cases e with
  |normal=>exact⟨m,oO,hq⟩
  |_=>exact hq
def rounds_succ{c:Code}(h:W P Γ nt kb c (mW (sU P Γ nt kb c Q n) Q) k fr H):sU P Γ nt kb c Q (n+1) k fr H:=h
def EN(keep:List Nat)(u:Fr):Fr->Fr
 |[]=>u
 |(t,v)::r=>if keep.contains t=aB/\(look u t).isSome=aF then(t,v)::EN keep u r else EN keep u r
def a3J{u:Fr}:EN keep u []=u:=rfl
def aUW{u:Fr}{r:Fr}:EN keep u ((t,v)::r)=if keep.contains t=aB/\(look u t).isSome=aF then(t,v)::EN keep u r else EN keep u r:=rfl
end
variable{p:List Nat}{c:Code}
def cD{X:Type}(hc:gV c p= .loop x)(keep:List Nat)(kx:Nat)(u:X->Fr)(Hx:X->aS)(inv:X->Prop)(μ:X->Nat)(x0:X)
 (hs:Mv kb k fr H kx (EN keep (u x0) fr) (Hx x0)) (h0:inv x0)
 (round:∀x,inv x->W P Γ nt kb (gV c (0::p)) (mW (λ k' fr' H'=>∃y,inv y/\μ y<μ x/\Mv kb k' fr' H' kx (EN keep (u y) fr) (Hx y)) Q) kx (EN keep (u x) fr) (Hx x)):W P Γ nt kb (gV c p) Q k fr H:=bJH hc kx (λ x=>EN keep (u x) fr) Hx inv μ x0 hs h0 round
def EB{X:Type}{y:Code}(hc:gV c p= .seq x y)(keep:List Nat)(kx:Nat)(u:X->Fr)(Hx:X->aS)(inv:X->Prop)
 (h1:W P Γ nt kb (gV c (0::p)) (mW (λ k' fr' H'=>∃z,inv z/\Mv kb k' fr' H' kx (EN keep (u z) fr) (Hx z)) Q) k fr H) (h2:∀z,inv z->W P Γ nt kb (gV c (1::p)) Q kx (EN keep (u z) fr) (Hx z)):W P Γ nt kb (gV c p) Q k fr H:=a9E hc kx (λ z=>EN keep (u z) fr) Hx inv h1 h2
def c_0:((0:Nat):Int)=0:=rfl
def c_S:((n+1:Nat):Int)=(n:Int)+1:=rfl
attribute [go_sem] c_0 c_S
def wrap_u32{n:Int}(h1:0<=n)(h2:n<4294967296):aT.wrap n=n:=by rw[IntKind.wrap_u32];omega
def wrap_u64{n:Int}(h1:0<=n)(h2:n<18446744073709551616):aI.wrap n=n:=by simp[IntKind.wrap,IntKind.bits,IntKind.signed];omega
def oS{n:Int}(h1:0<=n)(h2:n<256):bM.wrap n=n:=by simp[IntKind.wrap,IntKind.bits,IntKind.signed];omega
def xD(id:Nat)(l:List (List AVal)):List (Nat×Option Blk):=match l with
 |[]=>[]
 |_::_=>[(id,aC)]
def qK(id:Nat)(l:List (List AVal)):List Nat:=match l with
 |[]=>[]
 |_::_=>[id]
def aRR(k:Nat)(l rows:List (List AVal))(m:Nat):AVal:=if rows.length=m/\0<m then dI k (l++rows)else .sl k 0 (l.length+m)
def bCG{x:List AVal}:aRR k l [x] 1=dI k (l++[x]):=by simp[aRR]
def a6Y(k:Nat)(l rows:List (List AVal))(m:Nat):aRR k l rows m= .sl k 0 (l.length+m):=by
 unfold aRR;split
 .rename_i h
  cases rows with
  |nil=>simp at h;omega
  |cons a r=>
   cases l with
   |nil=>simp[dI,<-h.1]
   |cons b q=>simp[dI,<-h.1,gM,bQQ 1]
 rfl
def appR(s by' k id:Nat)(l:List (List AVal))(src:Option (Nat×Nat×List (List AVal)×Bool×List Nat)):Option Out:=
 match src with
 |some (s',m,rows,p,ids)=>if m=0 then aA ⟨dI id l,k,[],qK id l++ids⟩else if s'=s/\0<m/\l.length+m<=9223372036854775807/\(l.length+m)*by'<=140737488355328/\(rows.all λ row=>row.all one)=aB then
    aA ⟨aRR k l rows m,k+1,(k,aA ⟨s,p,l++rows⟩)::xD id l,qK id l++ids⟩else aC
 |none=>aC
def aYA{id:Nat}{rows:List (List AVal)}{p:Bool}{ids:List Nat}:appR s by' k id l (aA (s',m,rows,p,ids))=
 if m=0 then aA ⟨dI id l,k,[],qK id l++ids⟩else if s'=s/\0<m/\l.length+m<=9223372036854775807/\(l.length+m)*by'<=140737488355328/\(rows.all λ row=>row.all one)=aB then
  aA ⟨aRR k l rows m,k+1,(k,aA ⟨s,p,l++rows⟩)::xD id l,qK id l++ids⟩else aC:=rfl
def BE{z:List AVal}{id:Nat}{y:Option AVal}(hz:iD P t=aA (s,by',z))(hin:mM H0 id s l)(hid:id<k):
 kZ P (AM.look H0) k t (aA (dI id l)) y=appR s by' k id l (y.bind (EA (AM.look H0))):=by
 cases hy:y.bind (EA (AM.look H0))with
 |none=>cases l<;>simp[dI,kZ,hz,hy,appR]
 |some x=>
  obtain⟨s',m,rows,p,ids⟩:=x;rw[aYA,a6Y]
  cases l with
  |nil=>simp[dI,kZ,hz,hy,xD,qK]
  |cons b q=>have hl:=hin (by simp);simp[dI,kZ,hz,hy,hl,xD,qK,hid]
def aAS{id:Nat}(h:del H id=H):mE (cM id s l H) (xD id l)=H:=by
 cases l with
 |nil=>rfl
 |cons a r=>simp[cM,xD,mE,del,h]
def aOI{id:Nat}(hj:j≠id):mE ((j,B)::H) (xD id l)=(j,B)::mE H (xD id l):=by
 cases l with
 |nil=>rfl
 |cons a r=>simp[xD,mE,del,hj]
def a4S{id:Nat}:inH (AM.look H0) (cM id s l H)=(mM H0 id s l/\inH (AM.look H0) H):=by
 cases l with
 |nil=>simp[mM,cM]
 |cons a r=>simp[mM,cM,inH]
def a4K{id:Nat}(hs:gK P t=aB)(hin:mM H0 id s l):AJ P (AM.look H0) k t (aA (dI id l))=aA ⟨.lit (.int .i64 (l.length:Int)),k,[],qK id l⟩:=by
 cases l with
 |nil=>simp[dI,AJ,hs,nS,qK]
 |cons a r=>have hl:=hin (by simp);simp[dI,AJ,hs,hl,qK]
attribute [go_sem] a3J aUW bCG aYA aAS aOI a4S
structure Ev where
 call:FuncId->Nat->List AVal->aS->Option (Nat×AVal×aS)
 loop:Nat->Code->Nat->Fr->aS->Option (Exit×Nat×Fr×aS)
def nm0:AVal->List Nat
 | .ptr i _ _=>[i]
 | .sl i _ _=>[i]
 | .slc i _ _ _=>[i]
 | .bfn _ i _ _=>[i]
 | .mp i=>[i]
 | .it i=>[i]
 |_=>[]
def nm1:AVal->List Nat
 | .agg cs=>cs.flatMap nm0
 | .fn _ cs=>cs.flatMap nm0
 |v=>nm0 v
def nm2:AVal->List Nat
 | .tup cs=>cs.flatMap nm1
 |v=>nm1 v
def FG:List Nat->Nat->Bool
 |[],_=>aF
 |a::r,i=>tY a i||FG r i
def LR{α:Type}:List (Nat×α)->Nat->Option α
 |[],_=>aC
 | (a,x)::r,k=>match tY a k with
   |true=>aA x
   |false=>LR r k
def DI{α:Type}:∀(l:List (Nat×α)) (i:Nat),LR l i=look l i
 |[],i=>rfl
 |(a,x)::r,i=>by
  simp only[LR,look];by_cases h:a=i;.subst h;simp
  have:tY a i=aF:=by rw[dY];exact λ hb=>h (cN hb)
  rw[this,iN h];exact DI r i
def qN(H:aS):Nat->List Nat->List Nat->List Nat
 |0,_,seen=>seen
 |_+1,[],seen=>seen
 | n+1,i::r,seen=>match FG seen i with
   |true=>qN H n r seen
   | false=>match LR H i with
     | some B=>match B.pure with
       |true=>qN H n r (i::seen)
       |false=>qN H n ((B.rows.flatMap λ row=>row.flatMap nm0)++r) (i::seen)
     |none=>qN H n r seen
def xH(p:List Nat):aS->aS
 |[]=>[]
 | (i,B)::r=>match FG p i with
   |true=>(i,B)::xH p r
   |false=>xH p r
def yV(p:List Nat):∀(H:aS) (i:Nat) (B:Blk),look (xH p H) i=aA B->look H i=aA B
 |[],i,B,h=>by simp[xH,look]at h
 |(j,C)::r,i,B,h=>by
  simp only[xH]at h
  cases hp:FG p j with
  |true=>
   rw[hp]at h;simp only[look]at h⊢
   split at h;.rename_i he;rw[iP he];exact h
   rename_i he;rw[iN he];exact yV p r i B h
  |false=>
   rw[hp]at h;have h1:=yV p r i B h;simp only[look];split
   .rename_i he;subst he;exfalso
    have:∀(l:aS),look (xH p l) j=aC:=by
     intro l
     induction l with
     |nil=>rfl
     |cons y ys ih=>
      obtain⟨b,D⟩:=y;simp only[xH]
      cases hb:FG p b with
      |true=>
       simp only[look];split;.rename_i e;subst e;rw[hp]at hb;cases hb
       exact ih
      |false=>exact ih
    rw[this r]at h;cases h
   exact h1
def aTZ:AVal->AVal->Bool
 | .lit (.int k a),.lit (.int k' b)=>decide (k=k')&&decide (a=b)
 | .lit (.bool a),.lit (.bool b)=>a==b
 | .lit (.pointer aC),.lit (.pointer aC)=>aB
 |_,_=>aF
def aTY{a b:AVal}(h:aTZ a b=aB):a=b:=by
 unfold aTZ at h;split at h;.simp only[aO,dTt]at h;rw[h.1,h.2]
 .simp only[beq_iff_eq]at h;rw[h]
 .rfl
 cases h
def HK{α:Type}(f:α->α->Bool):List α->List α->Bool
 |[],[]=>aB
 |a::r,b::q=>f a b&&HK f r q
 |_,_=>aF
def CQ{α:Type}{f:α->α->Bool}(hf:∀a b,f a b=aB->a=b):∀ {l m:List α},HK f l m=aB->l=m
 |[],[],_=>rfl
 |a::r,b::q,h=>by simp only[HK,aO]at h;rw[hf _ _ h.1,CQ hf h.2]
 |[],_::_,h=>by simp[HK]at h
 |_::_,[],h=>by simp[HK]at h
def aUC(B C:Blk):Bool:=(B.pure&&C.pure)&&(tY B.sz C.sz&&HK (HK aTZ) B.rows C.rows)
def aUB{C:Blk}(h:aUC B C=aB):B=C/\B.pure=aB:=by simp only[aUC,aO]at h;obtain⟨⟨h1,h2⟩,h3,h4⟩:=h;refine⟨?_,h1⟩;cases B;cases C;simp only at h1 h2 h3 h4;rw[h1,h2,cN h3,CQ (λ a b h=>CQ (λ _ _=>aTY) h) h4]
def aWT(Hc Hout:aS)(i:Nat):Bool:=
 match LR Hc i with
 | some B=>match LR Hout i with
   |some C=>aUC B C
   |none=>aF
 |none=>aF
def EM(Hc Hout:aS):aS->List Nat
 |[]=>[]
 | (i,_)::r=>match aWT Hc Hout i with
   |true=>i::EM Hc Hout r
   |false=>EM Hc Hout r
def CR{Hc Hout:aS}{id:Nat}:∀ {H:aS},id∈EM Hc Hout H->∃B,look Hc id=aA B/\look Hout id=aA B/\B.pure=aB
 |[],h=>by simp[EM]at h
 |(i,B)::r,h=>by
  simp only[EM]at h;split at h
  .rename_i hs;rcases fO.1 h with rfl|h
   .unfold aWT at hs;rw[DI,DI]at hs;split at hs
    .rename_i B' hB;split at hs;.rename_i C hC;obtain⟨rfl,hp⟩:=aUB hs;exact⟨B',hB,hC,hp⟩
     cases hs
    cases hs
   exact CR h
  exact CR h
def ZG(same:List Nat):List (Nat×Option Blk)->List (Nat×Option Blk)
 |[]=>[]
 | (i,B)::r=>match FG same i with
   |true=>ZG same r
   |false=>(i,B)::ZG same r
def hasN_iff{l:List Nat}:FG l i=aB↔i∈l:=by
 induction l with
 |nil=>simp[FG]
 |cons a r ih=>
  simp only[FG,gQ,ih,fO];constructor
  .rintro(h|h);.exact .inl (cN h).symm
   exact .inr h
  rintro(h|h);.exact .inl (by rw[h];simp)
  exact .inr h
def OW{H:mP}{A:cF}{same:List Nat}{id:Nat}:∀(u:List (Nat×Option Blk)),jT H A (ZG same u) id=if FG same id=aB then H id else jT H A u id
 |[]=>by simp[ZG,jT]
 |(i,B)::r=>by
  have ih:=OW (H:=H) (A:=A) (same:=same) (id:=id) r;simp only[ZG]
  cases hs:FG same i with
  |true=>
   rw[ih];by_cases hi:FG same id=aB;.simp only[hi,if_true]
   simp only[hi];have:id≠i:=λ e=>hi (e▸hs);cases B<;>simp[jT,this]
  |false=>
   by_cases he:id=i;.subst he;cases B<;>simp[jT,hs]
   cases B<;>simp[jT,he,ih]
def aQL{ev:Operand->Option AVal}{get:Nat->Option Blk}{same:List Nat}(hs:∀id,id∈same->∃B,look Hc id=aA B/\get id=aA B/\look Hout id=aA B/\B.pure=aB)(h:Good P Γ o ev get k (jY v k' Hc Hout)):Good P Γ o ev get k ⟨v,k',ZG same (jY v k' Hc Hout).upd,Hc.map (·.1)⟩:=by
 refine⟨?_,h.rds,h.le⟩;intro w G ρ H A a hr hA hf hrd hop next Q hn
 refine h.ok w G ρ H A a hr hA hf hrd hop next Q λ w' G' ρ' cv hrel hv hst=>hn w' G' ρ' cv ?_ hv hst
 have hold:∀id,FG same id=aB->∃B A',H id=aA (B,A')/\jT H (λ i=>A i\/(k<=i/\i<k')) (jY v k' Hc Hout).upd id=aA (B,λ i=>A i\/(k<=i/\i<k'))/\B.pure=aB/\A' id:=λ id hid=>by obtain⟨B,h1,h2,h3,h4⟩:=hs id (hasN_iff.1 hid);obtain⟨B',A',h5,h6,h7⟩:=hrd id (by simp only[jY,dM];exact⟨(id,B),HY h1,rfl⟩);rw[h2]at h5;cases h5;refine⟨B,A',h6,?_,h4,(hr.blk id B A' h6).1⟩;have hm:=GA Hc Hout id;rw[h3]at hm;rw[nP];have hm':vZ (jY v k' Hc Hout).upd id=aA (aA B):=hm;rw[hm'];rfl
 refine⟨λ id hid=>?_,λ id B A1 hid=>?_,hrel.inj,hrel.ro,hrel.glob⟩
 .change jT H (λ i=>A i\/(k<=i/\i<k')) (ZG same (jY v k' Hc Hout).upd) id=aC at hid;rw[OW]at hid;by_cases hi:FG same id=aB;.obtain⟨B,A',h1,_⟩:=hold id hi;rw[iP hi,h1]at hid;cases hid
  rw[iN hi]at hid;exact hrel.dom id hid
 change jT H (λ i=>A i\/(k<=i/\i<k')) (ZG same (jY v k' Hc Hout).upd) id=aA (B,A1)at hid;rw[OW]at hid;by_cases hi:FG same id=aB
 .obtain⟨B',A',h1,h2,h3,h4⟩:=hold id hi;rw[iP hi,h1]at hid;cases hid;obtain⟨_,b,h6,h7,h8⟩:=hrel.blk id B _ h2;refine⟨h4,b,h6,h7,⟨?_,h8.len⟩⟩;have h9:=h8.ex;simp only[h3,if_true]at h9⊢
  exact h9
 rw[iN hi]at hid;exact hrel.blk id B A1 hid
def YW(e:Ev)(P:Program)(o:Oper)(ev:Operand->Option AVal)(H:aS)(k:Nat):Option Out:=
 match o.op with
 | .call {callee:= .value f,args:=args,argTypes:=_}=>match ev f,qH ev args.toList with
   | some (.fn g caps),aA vs=>
     match aX P g&&((vs++caps).all (bd (FG (qN H 100000 ((vs++caps).flatMap nm2) [])))&&oU (fN (xH (qN H 100000 ((vs++caps).flatMap nm2) []) H)) (xH (qN H 100000 ((vs++caps).flatMap nm2) []) H))&&((vs++caps).all (bd (fN (xH (qN H 100000 ((vs++caps).flatMap nm2) []) H))))with
     | true=>match e.call g k (vs++caps) (xH (qN H 100000 ((vs++caps).flatMap nm2) []) H)with
       | some (k',v,Hout)=>match Nat.ble k k' with
         |true=>aA ⟨v,k',ZG (EM (xH (qN H 100000 ((vs++caps).flatMap nm2) []) H) Hout (xH (qN H 100000 ((vs++caps).flatMap nm2) []) H)) (jY v k' (xH (qN H 100000 ((vs++caps).flatMap nm2) []) H) Hout).upd,(xH (qN H 100000 ((vs++caps).flatMap nm2) []) H).map (·.1)⟩
         |false=>aC
       |none=>aC
     |false=>aC
   |_,_=>aC
 |_=>aC
def VU(e:Ev)(P:Program)(Γ:dW)(all:Array Oper):List Oper->Nat->Fr->aS->Option (List Foot×Nat×Fr×aS)
 |[],k,fr,H=>aA ([],k,fr,H)
 | o::r,k,fr,H=>match nJ all fr o with
   |none=>aC
   | some aF=>match VU e P Γ all r k (jM fr o.dst (.lit undef)) H with
     |none=>aC
     |some (tr,x)=>aA (⟨[],[],k,k⟩::tr,x)
   | some aB=>match(match wF o with|true=>YW e P o (lN Γ fr) H k|false=>CH P Γ o (lN Γ fr) (look H) k)with
     |none=>aC
     | some out=>match VU e P Γ all r out.k (jM fr o.dst out.v) (mE H out.upd)with
       |none=>aC
       |some (tr,x)=>aA (⟨out.rds,out.upd.map (·.1),k,out.k⟩::tr,x)
def lD(e:Ev)(P:Program)(Γ:dW)(nt:Nat):Code->Nat->Fr->aS->Option (Exit×Nat×Fr×aS)
 | .skip,k,fr,H=>aA (.normal,k,fr,H)
 | .ret,k,fr,H=>aA (.ret,k,fr,H)
 | .exit id,k,fr,H=>aA (.exit id,k,fr,H)
 | .seq x y,k,fr,H=>match lD e P Γ nt x k fr H with
   |some (.normal,k1,fr1,H1)=>lD e P Γ nt y k1 fr1 H1
   |r=>r
 | .cond c x y,k,fr,H=>match lN Γ fr c with
   |some (.lit (.bool aB))=>lD e P Γ nt x k fr H
   |some (.lit (.bool aF))=>lD e P Γ nt y k fr H
   |_=>aC
 | .block id c,k,fr,H=>match lD e P Γ nt c k fr H with
   | some (.exit id',k1,fr1,H1)=>match tY id' id with
     |true=>aA (.normal,k1,fr1,H1)
     |false=>aA (.exit id',k1,fr1,H1)
   |r=>r
 | .loop c,k,fr,H=>match lD e P Γ nt c k fr H with
   |some (.normal,k1,fr1,H1)=>e.loop nt c k1 fr1 H1
   |r=>r
 | .region _ ops d,k,fr,H=>match nL nt ops with
   |false=>aC
   | true=>match VU e P Γ ops ops.toList k fr H with
     |none=>aC
     | some (tr,k1,fr1,H1)=>match(!d)||(P.follows .mixedOrders&&lE ops tr)with
       |true=>aA (.normal,k1,fr1,H1)
       |false=>aC
 |_,_,_,_=>aC
def aHX(e:Ev)(P:Program)(Γ:dW)(nt:Nat)(c:Code)(k:Nat)(fr:Fr)(H:aS):Option (Exit×Nat×Fr×aS):=
 match lD e P Γ nt c k fr H with
 |some (.normal,k1,fr1,H1)=>e.loop nt c k1 fr1 H1
 |r=>r
def aCJ(k:Nat):aS->List Nat
 |[]=>[]
 | (i,_)::r=>match Nat.blt i k with
   |true=>i::aCJ k r
   |false=>aCJ k r
def aHZ(e:Ev)(P:Program)(Γ:dW)(f:FuncId)(k:Nat)(args:List AVal)(H:aS):Option (Nat×AVal×aS):=
 match P.funcs[f]? with
 |none=>aC
 | some fn=>match fn.body with
   |none=>aC
   | some c=>match Nat.ble args.length fn.ntmps with
     |false=>aC
     | true=>match lD e P Γ fn.ntmps c k (tU 0 args) H with
       | some (.normal,k1,fr1,H1)=>match MS P fn fr1 H1 with
         |some r=>aA (k1,r,xH (qN H1 100000 (nm2 r++aCJ k H1) []) H1)
         |none=>aC
       | some (.ret,k1,fr1,H1)=>match MS P fn fr1 H1 with
         |some r=>aA (k1,r,xH (qN H1 100000 (nm2 r++aCJ k H1) []) H1)
         |none=>aC
       |_=>aC
def ev(P:Program)(Γ:dW):Nat->Ev
 |0=>⟨λ _ _ _ _=>aC,λ _ _ _ _ _=>aC⟩
 |n+1=>⟨λ f k args H=>aHZ (ev P Γ n) P Γ f k args H,λ nt c k fr H=>aHX (ev P Γ n) P Γ nt c k fr H⟩
section
variable{P:Program}{Γ:dW}{nt kb:Nat}{k:Nat}{fr:Fr}{H:aS}{e:Ev}
def isQ(ex:Exit)(k:Nat)(fr:Fr)(H:aS):AQ:=λ e1 k1 fr1 H1=>e1=ex/\k1=k/\fr1=fr/\H1=H
structure EvOk (P:Program) (Γ:dW) (e:Ev):Prop where
 call:∀f k args H k' v H',e.call f k args H=aA (k',v,H')->Tr P Γ f k args H (λ k1 r1 H1=>k1=k'/\r1=v/\H1=H')
 loop:∀nt c k fr H ex k' fr' H',e.loop nt c k fr H=aA (ex,k',fr',H')->∀kb,∃n,sU P Γ nt kb c (isQ ex k' fr' H') n k fr H
def LZ(he:EvOk P Γ e){out:Out}(h:YW e P o (lN Γ fr) H k=aA out):Good P Γ o (lN Γ fr) (look H) k out:=by
 unfold YW at h;split at h
 .rename_i f args ty ho;split at h
  .rename_i g caps vs hf ha;generalize hHc:xH (qN H 100000 ((vs++caps).flatMap nm2) []) H=Hc at h;split at h
   .rename_i hc;simp only[aO]at hc;split at h
    .rename_i k' v Hout hcall;split at h
     .rename_i hle;cases h;have hin:∀id B,look Hc id=aA B->look H id=aA B:=λ id B hB=>by subst hHc;exact yV _ _ _ _ hB
      refine aQL (λ id hid=>?_) (OL ho hc.1.1 hf ha hc.2 hc.1.2.2 hin (he.call _ _ _ _ _ _ _ hcall) (rU hle));obtain⟨B,h1,h2,h3⟩:=CR hid;exact⟨B,h1,hin id B h1,h2,h3⟩
     cases h
    cases h
   cases h
  cases h
 cases h
def VT(he:EvOk P Γ e):∀(l:List Oper) (k:Nat) (fr:Fr) (H:aS) (tr:List Foot) (k':Nat) (fr':Fr) (H':aS) (K:List Foot->Nat->Fr->aS->Prop),VU e P Γ all l k fr H=aA (tr,k',fr',H')->K tr k' fr' H'->Run P Γ all l k fr H K:=by
 intro l
 induction l with
 |nil=>intro k fr H tr k' fr' H' K h hK;simp only[VU]at h;cases h;exact hK
 |cons o r ih=>
  intro k fr H tr k' fr' H' K h hK;simp only[VU]at h;split at h;.cases h
  .rename_i hg;split at h;.cases h
   rename_i tr1 x hx;obtain⟨k1,fr1,H1⟩:=x;cases h;exact .inl ⟨hg,ih _ _ _ _ _ _ _ _ hx hK⟩
  rename_i hg;split at h;.cases h
  rename_i out ho;split at h;.cases h
  rename_i tr1 x hx;obtain⟨k1,fr1,H1⟩:=x;cases h;refine .inr ⟨hg,out,?_,ih _ _ _ _ _ _ _ _ hx hK⟩;split at ho;.exact LZ he ho
  exact tV ho
def KT(he:EvOk P Γ e):∀(c:Code) (k:Nat) (fr:Fr) (H:aS) (ex:Exit) (k':Nat) (fr':Fr) (H':aS),lD e P Γ nt c k fr H=aA (ex,k',fr',H')->W P Γ nt kb c (isQ ex k' fr' H') k fr H:=by
 intro c
 induction c with
 |skip=>intro k fr H ex k' fr' H' h;simp only[lD]at h;cases h;exact aJL ⟨rfl,rfl,rfl,rfl⟩
 |ret=>intro k fr H ex k' fr' H' h;simp only[lD]at h;cases h;exact a0Q ⟨rfl,rfl,rfl,rfl⟩
 |exit id=>intro k fr H ex k' fr' H' h;simp only[lD]at h;cases h;exact aJM ⟨rfl,rfl,rfl,rfl⟩
 |seq x y ihx ihy=>
  intro k fr H ex k' fr' H' h;simp only[lD]at h
  cases hx:lD e P Γ nt x k fr H with
  |none=>rw[hx]at h;cases h
  |some r=>
   obtain⟨e1,k1,fr1,H1⟩:=r;rw[hx]at h;refine a0P (mD (ihx _ _ _ _ _ _ _ hx) ?_);rintro e2 k2 fr2 H2 ⟨rfl,rfl,rfl,rfl⟩
   cases e2 with
   |normal=>exact ihy _ _ _ _ _ _ _ h
   |exit id=>cases h;exact⟨rfl,rfl,rfl,rfl⟩
   |goto l=>cases h;exact⟨rfl,rfl,rfl,rfl⟩
   |ret=>cases h;exact⟨rfl,rfl,rfl,rfl⟩
   |panic ch=>cases h;exact⟨rfl,rfl,rfl,rfl⟩
   |outgrown=>cases h;exact⟨rfl,rfl,rfl,rfl⟩
 |cond c x y ihx ihy=>
  intro k fr H ex k' fr' H' h;simp only[lD]at h;split at h;.rename_i hc;exact SK aB hc (λ _=>ihx _ _ _ _ _ _ _ h) (λ hh=>by cases hh)
  .rename_i hc;exact SK aF hc (λ hh=>by cases hh) (λ _=>ihy _ _ _ _ _ _ _ h)
  cases h
 |block id c ih=>
  intro k fr H ex k' fr' H' h;simp only[lD]at h
  cases hx:lD e P Γ nt c k fr H with
  |none=>rw[hx]at h;cases h
  |some r=>
   obtain⟨e1,k1,fr1,H1⟩:=r;rw[hx]at h;refine ZW (mD (ih _ _ _ _ _ _ _ hx) ?_);rintro e2 k2 fr2 H2 ⟨rfl,rfl,rfl,rfl⟩
   cases e2 with
   |normal=>cases h;exact⟨rfl,rfl,rfl,rfl⟩
   |exit id'=>
    simp only[GN];by_cases hid:id'=id;.subst hid;simp only[Nat.beq_refl]at h;cases h;rw[iP rfl];exact⟨rfl,rfl,rfl,rfl⟩
    have hb:tY id' id=aF:=by rw[dY];exact λ hb=>hid (cN hb)
    simp only[hb]at h;cases h;rw[iN hid];exact⟨rfl,rfl,rfl,rfl⟩
   |goto l=>cases h;exact⟨rfl,rfl,rfl,rfl⟩
   |ret=>cases h;exact⟨rfl,rfl,rfl,rfl⟩
   |panic ch=>cases h;exact⟨rfl,rfl,rfl,rfl⟩
   |outgrown=>cases h;exact⟨rfl,rfl,rfl,rfl⟩
 |loop c ih=>
  intro k fr H ex k' fr' H' h;simp only[lD]at h
  cases hx:lD e P Γ nt c k fr H with
  |none=>rw[hx]at h;cases h
  |some r=>
   obtain⟨e1,k1,fr1,H1⟩:=r;rw[hx]at h
   cases e1 with
   |normal=>obtain⟨n,hn⟩:=he.loop _ _ _ _ _ _ _ _ _ h kb;refine JH (n+1) (mD (ih _ _ _ _ _ _ _ hx) ?_);rintro e2 k2 fr2 H2 ⟨rfl,rfl,rfl,rfl⟩;exact hn
   |_=>cases h;refine JH 1 (mD (ih _ _ _ _ _ _ _ hx) ?_);rintro e2 k2 fr2 H2 ⟨rfl,rfl,rfl,rfl⟩;exact⟨rfl,rfl,rfl,rfl⟩
 |region id ops d=>
  intro k fr H ex k' fr' H' h;simp only[lD]at h;split at h;.cases h
  rename_i hd;split at h;.cases h
  rename_i tr k1 fr1 H1 hx;split at h
  .rename_i hdr;cases h
   cases d with
   |false=>exact SJ hd (VT he _ _ _ _ _ _ _ _ _ hx (λ _=>⟨rfl,rfl,rfl,rfl⟩))
   |true=>simp only[Bool.not_true,BP,aO]at hdr;exact aJN hdr.1 hd (VT he _ _ _ _ _ _ _ _ _ hx ⟨hdr.2,λ _=>⟨rfl,rfl,rfl,rfl⟩⟩)
  cases h
 |_=>intro k fr H ex k' fr' H' h;simp[lD]at h
def aQV(he:EvOk P Γ e){ex:Exit}{fr':Fr}(h:aHX e P Γ nt c k fr H=aA (ex,k',fr',H')):∃n,sU P Γ nt kb c (isQ ex k' fr' H') n k fr H:=by
 unfold aHX at h
 cases hx:lD e P Γ nt c k fr H with
 |none=>rw[hx]at h;cases h
 |some r=>
  obtain⟨e1,k1,fr1,H1⟩:=r;rw[hx]at h
  cases e1 with
  |normal=>obtain⟨n,hn⟩:=he.loop _ _ _ _ _ _ _ _ _ h kb;refine⟨n+1,mD (KT he c _ _ _ _ _ _ _ hx) ?_⟩;rintro e2 k2 fr2 H2 ⟨rfl,rfl,rfl,rfl⟩;exact hn
  |_=>cases h;refine⟨1,mD (KT he c _ _ _ _ _ _ _ hx) ?_⟩;rintro e2 k2 fr2 H2 ⟨rfl,rfl,rfl,rfl⟩;exact⟨rfl,rfl,rfl,rfl⟩
def aQW(he:EvOk P Γ e){f:FuncId}(h:aHZ e P Γ f k args H=aA (k',v,H')):Tr P Γ f k args H (λ k1 r1 H1=>k1=k'/\r1=v/\H1=H'):=by
 unfold aHZ at h;split at h;.cases h
 rename_i fn hfn;split at h;.cases h
 rename_i c hc;split at h;.cases h
 rename_i hn
 have main:∀ex k1 fr1 H1 r,(ex= .normal\/ex= .ret)->lD e P Γ fn.ntmps c k (tU 0 args) H=aA (ex,k1,fr1,H1)->MS P fn fr1 H1=aA r→
  aA (k1,r,xH (qN H1 100000 (nm2 r++aCJ k H1) []) H1)=aA (k',v,H')->Tr P Γ f k args H (λ k1 r1 H1=>k1=k'/\r1=v/\H1=H'):=by
  intro ex k1 fr1 H1 r hex hev hr hq
  cases hq
  refine(OO (Q:=λ k2 r2 H2=>k2=k'/\r2=v/\H2=H1) hfn hc (rU hn) (mD (KT he c _ _ _ _ _ _ _ hev) ?_)).weaken ?_
  · rintro e2 k2 fr2 H2 ⟨rfl,rfl,rfl,rfl⟩
    rcases hex with rfl|rfl
    · exact⟨_,hr,rfl,rfl,rfl⟩
    · exact⟨_,hr,rfl,rfl,rfl⟩
  · rintro k2 r2 H2 hk ⟨rfl,rfl,rfl⟩
    exact⟨_,_,_,hk,bL _,λ id B hB=>⟨B,yV _ _ _ _ hB,nN B⟩,.inl rfl,rfl,rfl,rfl⟩
 split at h
 .rename_i k1 fr1 H1 hev;split at h;.rename_i r hr;exact main _ _ _ _ _ (.inl rfl) hev hr h
  cases h
 .rename_i k1 fr1 H1 hev;split at h;.rename_i r hr;exact main _ _ _ _ _ (.inr rfl) hev hr h
  cases h
 cases h
def aXS:∀n,EvOk P Γ (ev P Γ n)
 |0=>⟨λ _ _ _ _ _ _ _ h=>(by simp[ev]at h),λ _ _ _ _ _ _ _ _ _ h=>(by simp[ev]at h)⟩
 |n+1=>⟨λ _ _ _ _ _ _ _ h=>aQW (aXS n) h,λ _ _ _ _ _ _ _ _ _ h _=>aQV (aXS n) h⟩
def bJF(n:Nat){f:FuncId}(h:(ev P Γ n).call f k args H=aA (k',v,H')):Tr P Γ f k args H (λ k1 r1 H1=>k1=k'/\r1=v/\H1=H'):=(aXS n).call _ _ _ _ _ _ _ h
end
def aAB(n:Nat){f:FuncId}(ha:args.all (bd λ _=>aF)=aB)(hv:bd (λ _=>aF) v=aB)
 (h:(ev P Γ n).call f 0 args []=aA (k',v,[])):Pure P Γ f args v:=λ k=>by
 have hT:=bJF n h
 intro A hA w G ρ cargs hr hvs
 have hrel:∀A1 w1 G1 ρ1 A2,HRel Γ w1 G1 ρ1 (bK [] A1)->HRel Γ w1 G1 ρ1 (bK [] A2):=λ A1 w1 G1 ρ1 A2 h=>
  ⟨λ id _=>h.dom id rfl,λ id B A' hid=>by simp[bK,look]at hid,h.inj,h.ro,h.glob⟩
 have hno:∀w1 G1 ρ1 A1 A2 u cu,V w1 G1 ρ1 A1 u cu->bd (λ _=>aF) u=aB->V w1 G1 ρ1 A2 u cu:=λ w1 G1 ρ1 A1 A2 u cu h hb=>
  (aEX h hb).mono (λ _ h=>h) (λ _ _=>rfl) (λ _ _=>rfl) (λ i hi=>by simp at hi) (λ _ _=> .inr rfl)
 refine(hT cQ (λ i hi=>hi.elim) w G ρ cargs (hrel _ _ _ _ _ hr) ⟨hvs.1,λ j u hj=>hno _ _ _ _ _ _ _ (hvs.2 j u hj) (iR ha hj)⟩).mono ?_
 rintro e w' ⟨cv,G',ρ',k1,r,H1,rfl,⟨rfl,rfl,rfl⟩,hk1,hrel1,hv1,hst⟩
 exact⟨cv,G',ρ',k,_,[],rfl,⟨rfl,rfl,rfl⟩,aJ _,hrel _ _ _ _ _ hrel1,hno _ _ _ _ _ _ _ hv1 hv,
  ⟨hst.size,hst.keep,hst.shape,hst.g,hst.g',hst.own,λ id _=> .inl (hrel1.dom id rfl),hst.os,hst.tape,hst.output⟩⟩
section
variable{P:Program}{get:Nat->Option Blk}{k t:Nat}{op:BinOp}{z:AVal}
def bOH:ZQ P get k op t (aA (.agg cs)) (aA z)=match yX op with|some neg=>aEq P get k t neg (.agg cs) z|none=>aC:=by cases z<;>rfl
def bOG{r c:Nat}:ZQ P get k op t (aA (.ptr i r c)) (aA z)=match yX op with|some neg=>aEq P get k t neg (.ptr i r c) z|none=>aC:=by cases z<;>rfl
def bOF:ZQ P get k op t (aA (.rp cs)) (aA z)=match yX op with|some neg=>aEq P get k t neg (.rp cs) z|none=>aC:=by cases z<;>rfl
def bOE{r:Nat}:ZQ P get k op t (aA (.sl i r n)) (aA z)=match yX op with|some neg=>aEq P get k t neg (.sl i r n) z|none=>aC:=by cases z<;>rfl
def bOD{f:Nat->List AVal}:ZQ P get k op t (aA (.rd i n f)) (aA z)=match yX op with|some neg=>aEq P get k t neg (.rd i n f) z|none=>aC:=by cases z<;>rfl
def a5K{v:Value}:nY (.lit v::r)=(nY r).map (v:: ·):=by simp only[nY];cases nY r<;>rfl
def a5L:nY []=aA []:=rfl
end
section
variable{P:Program}{Γ:dW}{nt kb:Nat}{Q:AQ}{k:Nat}{fr:Fr}{H:aS}{c:Code}{p:List Nat}
def qM{id:Nat}{l:List Oper}(hc:gV c p= .region id l.toArray aF)(keep:List Nat)(_hn:(l.all λ o=> !wF o&& !aKR o)=aB)(hd:nL nt l.toArray=aB)
 (h:∀K:List Foot->Nat->Fr->aS->Prop,(∀tr k' fr' H',(kb<=k'->Q .normal k' (lM keep fr') H')->K tr k' fr' H')->GU P Γ l.toArray l [] k fr H K .mk):W P Γ nt kb (gV c p) Q k fr H:=a9F hc keep [] hd h
def bDL{id:Nat}{l:List Oper}(hc:gV c p= .region id l.toArray aB)(keep:List Nat)(_hn:(l.all λ o=> !wF o&& !aKR o)=aB)(hm:P.follows .mixedOrders=aB)(hd:nL nt l.toArray=aB)
 (h:∀K:List Foot->Nat->Fr->aS->Prop,(∀tr k' fr' H',lE l.toArray tr=aB->(kb<=k'->Q .normal k' (lM keep fr') H')->K tr k' fr' H')->GU P Γ l.toArray l [] k fr H K .mk):W P Γ nt kb (gV c p) Q k fr H:=a9G hc keep [] hm hd h
end
attribute [go_sem] bOH bOG bOF bOE bOD a5K a5L SE vC MA sZ
def VLes:List AVal->List AVal->Prop
 |[],[]=>True
 |u::us,v::vs=>VLe u v/\VLes us vs
 |_,_=>False
def VLes.nil:VLes [] []:=trivial
def VLes.cons{u:AVal}(h:VLe u v)(hr:VLes us vs):VLes (u::us) (v::vs):=⟨h,hr⟩
def VLes.spec:∀ {us vs:List AVal},VLes us vs->us.length=vs.length/\∀(j:Nat) u v,us[j]? =aA u->vs[j]? =aA v->VLe u v
 |[],[],_=>⟨rfl,λ j u v h=>by simp at h⟩
 |u::us,v::vs,⟨h1,h2⟩=>by
  obtain⟨h3,h4⟩:=VLes.spec h2;refine⟨by simp[h3],λ j a b ha hb=>?_⟩
  cases j with
  |zero=>cases ha;cases hb;exact h1
  |succ j=>exact h4 j a b (by simpa using ha) (by simpa using hb)
 |[],_::_,h=>h.elim
 |_::_,[],h=>h.elim
def zV:∀(us:List AVal),VLes us us
 |[]=>trivial
 |u::us=>⟨bL u,zV us⟩
def BH(h:VLes us vs):VLe (.agg us) (.agg vs):=by obtain⟨h1,h2⟩:=h.spec;exact VLe.agg h1 h2
def VLe.copy (s n:Nat)(f:Nat->List AVal):VLe (.rd s n (λ j=>((aR n).map f).getD (0+j) [])) (.rd s n f):=VLe.rd λ i hi=>by simp[aU,hi]
def xF (s n:Nat)(f:Nat->List AVal):VLe (.rd s n (λ j=>((aR n).map f).getD j [])) (.rd s n f):=VLe.rd λ i hi=>by simp[aU,hi]
def yC(l:List (Nat×α))(i j:Nat)(x:α):look ((i,x)::del l i) j=if i=j then aA x else look l j:=by
 simp only[look];split;.rfl
 rename_i h
 induction l with
 |nil=>rfl
 |cons y ys ih=>
  obtain⟨a,b⟩:=y;simp only[del];split;.rename_i he;subst he;simp only[look,iN h];exact ih
  simp only[look];split;.rfl
  exact ih
def Mv.row(id:Nat){p:Bool}(r':List AVal)(hH:look H id=aA ⟨s,p,l++[r]⟩)(hr:VLes r r')(hc:((l++[r']).all λ row=>row.all clean)=aB):
 Mv kb k fr H k fr ((id,⟨s,aB,l++[r']⟩)::del H id):=λ hk=>nC ⟨hk,λ t v h=>⟨v,h,bL v⟩,λ i B hB=>by
 rw[yC]at hB
 split at hB
 · rename_i he
   subst he
   cases hB
   obtain⟨h1,h2⟩:=hr.spec
   refine⟨_,hH,rfl,λ q row' hq=>?_,λ _=> .inr hc⟩
   rw[dQ]at hq
   split at hq
   · rename_i hlt
     exact⟨row',by rw[gN hlt];exact hq,rfl,λ c u v hu hv=>by rw[hu]at hv;cases hv;exact bL _⟩
   · rename_i hge
     have hq0:q-l.length=0:=by have:=(aL.1 hq).1;simp at this;exact this
     rw[hq0]at hq
     cases hq
     exact⟨r,by rw[iY oO,hq0];rfl,h1,λ c u v hu hv=>h2 c u v hu hv⟩
 · exact⟨B,hB,nN B⟩,.inl rfl⟩ hk
def aRT{f:Nat->List AVal}(h:∀i,(f i).all clean=aB):(((aR n).map f).all λ row=>row.all clean)=aB:=by simp only[List.all_map,aY,Function.comp];intro i _ v hv;exact aY.1 (h i) v hv
def aHJ{id:Nat}(h:clean v=aB):kY id B v=v:=by cases v<;>simp_all [clean,kY]
def kW{id:Nat}{B:Blk}:∀ {l:List (List AVal)},(l.all λ row=>row.all clean)=aB->l.map (λ row=>row.map (kY id B))=l
 |[],_=>rfl
 |r::q,h=>by
  simp only[gI,aO]at h;rw[bN,kW h.2];congr 1
  have:∀ {m:List AVal},m.all clean=aB->m.map (kY id B)=m:=by
   intro m hm
   induction m with
   |nil=>rfl
   |cons a b ih=>simp only[gI,aO]at hm;rw[bN,aHJ hm.1,ih hm.2]
  exact this h.1
def CB(id:Nat):Nat->Bool:=λ i=>decide (i≠id)
def aMN{id:Nat}(h:MG (CB id) v=aB):frz id B v=v:=by
 have h0:∀u,iL (CB id) u=aB->kY id B u=u:=λ u hu=>by
  cases u with
  |ptr i r c=>simp only[iL,CB,dTt]at hu;simp[kY,hu]
  |sl i r c=>simp only[iL,CB,dTt]at hu;simp[kY,hu]
  |_=>rfl
 have hl:∀(cs:List AVal),cs.all (iL (CB id))=aB->cs.map (kY id B)=cs:=λ cs=>by
  induction cs with
  |nil=>intro _;rfl
  |cons a b ih=>intro hm;simp only[gI,aO]at hm;rw[bN,h0 _ hm.1,ih hm.2]
 cases v with
 |agg cs=>simp only[frz];rw[hl cs h]
 |fn f cs=>simp only[frz];rw[hl cs h]
 |ptr i r c=>exact h0 (.ptr i r c) h
 |sl i r c=>exact h0 (.sl i r c) h
 |_=>rfl
def ID(fr:Fr)(id:Nat):Fr->Prop
 |[]=>True
 |(t,v)::r=>look fr t=aA v/\MG (CB id) v=aB/\ID fr id r
def QK(H:aS)(id:Nat):aS->Prop
 |[]=>True
 |(i,B)::r=>i≠id/\look H i=aA B/\B.pure=aB/\QK H id r
def nZ{fr:Fr}{id:Nat}:∀ {fr1:Fr},ID fr id fr1->∀t v,look fr1 t=aA v->look fr t=aA v/\MG (CB id) v=aB
 |[],_,t,v,h=>by simp[look]at h
 |(t',v')::r,⟨h1,h2,h3⟩,t,v,h=>by
  simp only[look]at h;split at h;.rename_i he;subst he;cases h;exact⟨h1,h2⟩
  exact nZ h3 t v h
def qF{H:aS}{id:Nat}:∀ {H1:aS},QK H id H1->∀i B,look H1 i=aA B->i≠id/\look H i=aA B/\B.pure=aB
 |[],_,t,v,h=>by simp[look]at h
 |(t',v')::r,⟨h1,h2,h3,h4⟩,t,v,h=>by
  simp only[look]at h;split at h;.rename_i he;subst he;cases h;exact⟨h1,h2,h3⟩
  exact qF h4 t v h
def aFB{id:Nat}(t:Nat)(v:AVal)(H1:aS)(hf:look fr t=aA (dI id l))(hH:mM H id s l)(hv:VLe (rows s l) v)(h1:ID fr id (del fr t))(h2:QK H id H1):
 Mv kb k fr H k ((t,v)::del fr t) H1:=by
 have hvle:∀u u',VLe u u'->VLe u' v->VLe u v:=λ u u' a b w G ρ A cv h=>b w G ρ A cv (a w G ρ A cv h)
 cases l with
 |nil=>
  refine λ hk=>nC ⟨hk,λ t' u hu=>?_,λ i B hB=>⟨B,(qF h2 i B hB).2.1,nN B⟩,.inl rfl⟩ hk;simp only[look]at hu;split at hu;.rename_i he;subst he;cases hu;exact⟨_,hf,hvle _ _ (VLe.nil s _) hv⟩
  exact⟨u,(nZ h1 t' u hu).1,bL u⟩
 |cons x r=>
  have h3:=hH (by simp);refine Mv.trans (gT id h3 rfl) (λ hk=>nC ⟨hk,λ t' u hu=>?_,λ i B hB=>?_,.inl rfl⟩ hk)
  .simp only[look]at hu;split at hu;.rename_i he;subst he;cases hu;refine⟨_,by unfold qO;rw[mL,hf];rfl,?_⟩;simp only[dI,frz,kY,eQ,aJ,and_self,if_true];exact hv
   obtain⟨h4,h5⟩:=nZ h1 t' u hu;refine⟨u,?_,bL u⟩;unfold qO;rw[mL,h4,bO,aMN h5]
  obtain⟨h4,h5,h6⟩:=qF h2 i B hB;refine⟨B,?_,nN B⟩;unfold AR;rw[mL,iK,iN h4,h5];simp[MW,h6]
attribute [go_sem] ID QK CB
def jR{id:Nat}{m:List (List AVal)}:tB (λ row=>tB (kY id B) row) (l++m)=tB (λ row=>tB (kY id B) row) l++tB (λ row=>tB (kY id B) row) m:=aQ
def PN{f:Nat->List AVal}:(aR (n+1)).map f=(aR n).map f++[f n]:=by rw[List.range_succ,aQ];rfl
end Go.AM
end
section
namespace Go.AM
variable{Q:AQ}{ops:Array Oper}{c:Code}{fr:Fr}{l:List (List AVal)}{L:List (List Nat×List Nat)}{cs:List AVal}{tr:List Foot}{i k kb n nt r s sz:Nat}{p:Nat->Bool}{g:Nat->Nat}{P:Program}{v:Value}{H:aS}{Γ:dW}
def shG(g:Nat->Nat)(f:Foot):List Nat×List Nat:=(f.rds.map g,f.mods.map g)
def BB(ops:Array Oper)(oj:Oper)(fj:List Nat×List Nat)(oi:Oper)(fi:List Nat×List Nat):Bool:=
 lA (IQ oj) (pZ ops oi)||lA (IQ oj) (IQ oi)||lA (IQ oi) (pZ ops oj)||lA fj.2 fi.1||lA fj.2 fi.2||lA fj.1 fi.2
def FT(ops:Array Oper)(tr:List (List Nat×List Nat)):Bool:=
 (aR ops.size).all λ i=>match ops[i]?,tr[i]? with
   |some oi,aA fi=>(oi.after.toList.all λ e=> !Region.binds .any e||decide (e.on<i))&&
      (aR i).all λ j=>match ops[j]?,tr[j]? with
        |some oj,aA fj=> !BB ops oj fj oi fi||aIZ ops ops.size j i
        |_,_=>aF
   |_,_=>aF
def KG{a b:List Nat}(h:lA (a.map g) (b.map g)=aF):lA a b=aF:=by
 cases hm:lA a b with
 |false=>rfl
 |true=>
  unfold lA at hm h;obtain⟨x,hx,hb⟩:=aOB.1 hm
  have:((a.map g).any λ y=>(b.map g).contains y)=aB:=aOB.2 ⟨g x,dM.2 ⟨x,hx,rfl⟩,by
   simp only[bQS]at hb⊢
   exact dM.2 ⟨x,hb,rfl⟩⟩
  rw[this]at h;cases h
def ZK{oj oi:Oper}{fj fi:Foot}(h:BB ops oj (shG g fj) oi (shG g fi)=aF):nM ops oj fj oi fi=aF:=by simp only[BB,gA,shG]at h;simp only[nM,gA];obtain⟨⟨⟨⟨⟨h1,h2⟩,h3⟩,h4⟩,h5⟩,h6⟩:=h;exact⟨⟨⟨⟨⟨h1,h2⟩,h3⟩,KG h4⟩,KG h5⟩,KG h6⟩
def IR(g:Nat->Nat)(hL:tr.map (shG g)=L)(h:FT ops L=aB)(hm:(tr.all λ f=>f.mods.all λ x=>decide (x<f.k'))=aB):lE ops tr=aB:=by
 subst hL;simp only[FT,aY]at h;simp only[lE,aY];intro i hi;have h1:=h i hi;rw[aV]at h1
 cases ho:ops[i]? with
 |none=>rw[ho]at h1;simp at h1
 |some oi=>
  cases ht:tr[i]? with
  |none=>rw[ho,ht]at h1;simp at h1
  |some fi=>
   rw[ho,ht]at h1;simp only[bO,aO,aY]at h1;simp only[aO,aY];refine⟨⟨h1.1,?_⟩,λ j hj=>?_⟩;.have:=aY.1 hm fi (gL ht);exact λ x hx=>aY.1 this x hx
   have h2:=h1.2 j hj;rw[aV]at h2
   cases hoj:ops[j]? with
   |none=>rw[hoj]at h2;simp at h2
   |some oj=>
    cases htj:tr[j]? with
    |none=>rw[hoj,htj]at h2;simp at h2
    |some fj=>
     rw[hoj,htj]at h2;simp only[bO,gQ,dV]at h2;simp only[gQ,dV];rcases h2 with h2|h2;.exact .inl (ZK h2)
     exact .inr h2
def aAD{p:List Nat}{x y:Code}(hc:gV c p= .seq x y)(keep:List Nat)(kx:Nat)(u:Fr)(Hx:aS)
 (h1:W P Γ nt kb (gV c (0::p)) (mW (λ k' fr' H'=>Mv kb k' fr' H' kx (EN keep u fr) Hx) Q) k fr H) (h2:W P Γ nt kb (gV c (1::p)) Q kx (EN keep u fr) Hx):W P Γ nt kb (gV c p) Q k fr H:=bDN hc kx _ Hx h1 h2
def lO(keep:List Nat)(kx:Nat)(u:Fr)(Hx:aS)
 (h1:W P Γ nt kb c (λ e k' fr' H'=>e= .normal/\Mv kb k' fr' H' kx (EN keep u fr) Hx) k fr H) (h2:Q .normal kx (EN keep u fr) Hx):W P Γ nt kb c Q k fr H:=
 pW (mD h1 λ e k' fr' H' h=>by obtain⟨rfl,hm⟩:=h;exact⟨_,_,_,hm,h2⟩)
section
variable{id j s:Nat}{l:List (List AVal)}{H H0:aS}{B:Blk}{u:List (Nat×Option Blk)}
def MJ(H:aS)(id:Nat)(l:List (List AVal)):Prop:=l≠[]->(AM.look H id).isSome=aB
def xC:MJ (cM id s l H) id l=True:=by
 simp only[MJ,eq_iff_iff,iff_true]
 intro h;cases l with
 |nil=>exact absurd rfl h
 |cons a r=>simp[cM,AM.look]
def aJI(h:j≠id):MJ ((j,B)::H) id l=MJ H id l:=by simp[MJ,AM.look,h]
def a0A(h:MJ H0 id l):iL (fN H0) (dI id l)=aB:=by
 cases l with
 |nil=>rfl
 |cons a r=>simp only[dI,iL,fN];exact h (by simp)
def JD(h:MJ H0 id l):bd (fN H0) (dI id l)=aB:=by
 cases l with
 |nil=>rfl
 |cons a r=>simp only[dI,bd,MG,iL,fN];exact h (by simp)
def aZX(h:MJ H0 id l):oU (fN H0) (cM id s l H)=oU (fN H0) H:=by
 cases l with
 |nil=>rfl
 |cons a r=>have h':=h (by simp);simp[cM,oU,fN,h']
def aOG(h:del (mE H u) id=mE H u):mE H (tB (λ x=>(x.1,aA x.2)) (cM id s l [])++u)=cM id s l (mE H u):=by
 cases l with
 |nil=>rfl
 |cons a r=>simp[cM,mE,h]
def aOH:mE H (tB (λ x=>(x.1,aC)) (cM id s l []))=mE H (xD id l):=by
 cases l with
 |nil=>rfl
 |cons a r=>rfl
def a4X:tB (λ x=>x.1) (cM id s l [])=qK id l:=by cases l<;>rfl
def aXE:tB (λ x:Nat×Option Blk=>x.1) (tB (λ x:Nat×Blk=>(x.1,aA x.2)) (cM id s l []))=qK id l:=by cases l<;>rfl
def aXF:tB (λ x:Nat×Option Blk=>x.1) (tB (λ x:Nat×Blk=>(x.1,(aC:Option Blk))) (cM id s l []))=qK id l:=by cases l<;>rfl
end
def a4W{a b:List (Nat×Option Blk)}:tB (λ x:Nat×Option Blk=>x.1) (a++b)=tB (λ x=>x.1) a++tB (λ x=>x.1) b:=aQ
def aJH{id:Nat}(h:p id=aB):(qK id l).all p=aB:=by cases l<;>simp[qK,h]
section
variable{j:Nat}{B C:Blk}{H:aS}
def aXG:AR j B []=[]:=rfl
def a4Z:AR j B ((j,C)::H)=AR j B H:=by simp[AR,del]
def a4Y(h:i≠j):AR j B ((i,C)::H)=(i,MW j B C)::AR j B H:=by simp[AR,del,h]
def aXI{id:Nat}(h:id≠j):AR j B (cM id s l H)=cM id s l (AR j B H):=by
 cases l with
 |nil=>rfl
 |cons a r=>simp[cM,AR,del,h,MW]
def aQM{rows:List (List AVal)}:MW j B ⟨sz,aB,rows⟩=⟨sz,aB,rows⟩:=rfl
def aXJ{rows:List (List AVal)}:MW j B ⟨sz,aF,rows⟩=⟨sz,aF,rows.map λ row=>row.map (kY j B)⟩:=rfl
def aXL{id:Nat}(h:id≠j):kY j B (dI id l)=dI id l:=by cases l<;>simp[dI,kY,h]
def frz_acc{id:Nat}(h:id≠j):frz j B (dI id l)=dI id l:=by cases l<;>simp[dI,frz,kY,h]
def z_1:kY j B (.lit v)= .lit v:=rfl
def z_2:kY j B (.sl i r n)=if i=j/\r+n<=B.rows.length then .rd B.sz n (λ q=>B.rows.getD (r+q) [])else .sl i r n:=rfl
def z_3{c:Nat}:kY j B (.ptr i r c)=if i=j/\r<B.rows.length then .rp ((B.rows.getD r []).drop c)else .ptr i r c:=rfl
def z_4{f:Nat->List AVal}:kY j B (.rd s n f)= .rd s n f:=rfl
def z_5:kY j B (.rp cs)= .rp cs:=rfl
def y_1:frz j B (.lit v)= .lit v:=rfl
def y_2:frz j B (.sl i r n)=kY j B (.sl i r n):=rfl
def y_3{c:Nat}:frz j B (.ptr i r c)=kY j B (.ptr i r c):=rfl
def y_4{f:Nat->List AVal}:frz j B (.rd s n f)= .rd s n f:=rfl
def y_5:frz j B (.rp cs)= .rp cs:=rfl
def y_7{f:FuncId}:frz j B (.fn f cs)= .fn f (cs.map (kY j B)):=rfl
def y_8:frz j B (.agg cs)= .agg (cs.map (kY j B)):=rfl
end
attribute [go_sem] aXG a4Z a4Y aXI aQM aXJ aXL frz_acc z_1 z_2 z_3 z_4 z_5 y_1 y_2 y_3 y_4 y_5 y_7 y_8 a4W aJH List.all_append
attribute [go_sem] xC aJI a0A JD aZX aOG aOH a4X aXE aXF
def Mv.pure(id:Nat){p:Bool}{rows:List (List AVal)}(hH:look H id=aA ⟨s,p,rows⟩)(hc:(rows.all λ row=>row.all clean)=aB):
 Mv kb k fr H k fr ((id,⟨s,aB,rows⟩)::del H id):=λ hk=>nC ⟨hk,λ t v h=>⟨v,h,bL v⟩,λ i B hB=>by
 rw[yC]at hB
 split at hB
 · rename_i he
   subst he
   cases hB
   exact⟨_,hH,rfl,λ q row hq=>⟨row,hq,rfl,λ c u v hu hv=>by rw[hu]at hv;cases hv;exact bL _⟩,λ _=> .inr hc⟩
 · exact⟨B,hB,nN B⟩,.inl rfl⟩ hk
def dB{L:Nat}(h:L<k):(∀c,(k+c=L)=False)/\(∀c,(L=k+c)=False)/\((k=L)=False)/\((L=k)=False)/\(∀c,(L<k+c)=True)/\((L<k)=True):=
 ⟨λ c=>by simp;omega,λ c=>by simp;omega,by simp;omega,by simp;omega,λ c=>by simp;omega,by simp[h]⟩
def jG{L F:Nat}(h:L≠F):((L=F)=False)/\((F=L)=False):=⟨eq_false h,eq_false (λ e=>h e.symm)⟩
def nf:(∀(p:Prop) [Decidable p],(decide p=aB)=p)/\(∀(p:Prop) [Decidable p],decide p=aF↔¬p)/\(∀(α:Type) [BEq α] [LawfulBEq α] (a b:α),(a !=b)=aB↔a≠b)/\(∀(α:Type) [BEq α] [LawfulBEq α] (a b:α),(a==b)=aB↔a=b)/\(∀(α:Type) [BEq α] [LawfulBEq α] (a:α),(a !=a)=aF)/\(∀(α:Type) [BEq α] [LawfulBEq α] (a:α),(a==a)=aB)/\(∀(α:Type) (a b:α),(a≠b)=¬(a=b))/\(∀b:Bool,((!b)=aB)=(b=aF))/\(∀b:Bool,((!b)=aF)=(b=aB))/\(∀b:Bool,(!!b)=b)/\(∀(α:Type) [BEq α] [LawfulBEq α] (a b:α),(a !=b)=aF↔a=b)/\(∀(α:Type) [BEq α] [LawfulBEq α] (a b:α),(a==b)=aF↔a≠b)/\((aF=aB)=False)/\((aB=aF)=False)/\(∀a b:Int,¬a<b↔b<=a)/\(∀a b:Int,¬a<=b↔b<a)/\((!aB)=aF)/\((!aF)=aB):=
 ⟨λ _ _=>dTt,λ _ _=>dFn,λ _ _ _ _ _=>bne_iff_ne,λ _ _ _ _ _=>beq_iff_eq,λ _ _ _ _=>bne_self_eq_false _,λ _ _ _ _=>beq_self_eq_true _,λ _ _ _=>rfl,λ b=>by cases b<;>simp,λ b=>by cases b<;>simp,Bool.not_not,λ _ _ _ _ _=>bne_eq_false_iff_eq,λ _ _ _ _ _=>beq_eq_false_iff_ne,bP,a7W,λ _ _=>Int.not_lt,λ _ _=>Int.not_le,rfl,rfl⟩
def nfb:(∀(p:Prop) [Decidable p],(decide p=aB)=p)/\(∀(p:Prop) [Decidable p],decide p=aF↔¬p)/\(∀b:Bool,((!b)=aB)=(b=aF))/\(∀b:Bool,((!b)=aF)=(b=aB))/\(∀b:Bool,(!!b)=b)/\((!aB)=aF)/\((!aF)=aB):=
 ⟨λ _ _=>dTt,λ _ _=>dFn,λ b=>by cases b<;>simp,λ b=>by cases b<;>simp,Bool.not_not,rfl,rfl⟩
def nfe:(∀(α:Type) [BEq α] [LawfulBEq α] (a b:α),(a==b)=aB↔a=b)/\(∀(α:Type) [BEq α] [LawfulBEq α] (a b:α),(a==b)=aF↔a≠b)/\(∀(α:Type) [BEq α] [LawfulBEq α] (a b:α),(a !=b)=aB↔a≠b)/\(∀(α:Type) [BEq α] [LawfulBEq α] (a b:α),(a !=b)=aF↔a=b)/\(∀(α:Type) (a b:α),(a≠b)=¬(a=b))/\((aF=aB)=False)/\((aB=aF)=False):=
 ⟨λ _ _ _ _ _=>beq_iff_eq,λ _ _ _ _ _=>beq_eq_false_iff_ne,λ _ _ _ _ _=>bne_iff_ne,λ _ _ _ _ _=>bne_eq_false_iff_eq,λ _ _ _=>rfl,bP,a7W⟩
attribute [go_sem] List.getD_cons_zero List.getD_cons_succ List.length_range aJ sZ bW dG bT ne_eq gM List.range_zero Nat.lt_add_right_iff_pos Nat.add_lt_add_iff_left Nat.add_le_add_iff_left Nat.le_add_right Nat.left_eq_add Nat.add_eq_left Nat.add_left_cancel_iff Nat.lt_add_one reduceCtorEq Nat.reduceEqDiff aAC Nat.reduceSub Nat.reduceMul Nat.reduceLeDiff Nat.reduceLT Nat.reduceBEq Int.reduceLT Int.reduceLE Int.reduceEq Int.reduceToNat Int.reduceNeg Int.reduceBEq Int.reduceAdd Int.reduceSub Int.reduceMul Nat.reduceMod Nat.reduceDiv
end Go.AM
def Go.kRf {p:Prop}(h:p:=by kernel_rfl):p:=h
def Go.cSo {α:Type _}{a b:α}(h:a=b:=by kernel_rfl):aA a=aA b:=congrArg aA h
end
