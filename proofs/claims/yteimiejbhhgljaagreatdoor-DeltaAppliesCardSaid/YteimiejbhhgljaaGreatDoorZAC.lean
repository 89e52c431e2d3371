import Derived.Test.YteimiejbhhgljaaGreatDoorZAB
import Derived.Laws.StructEq
set_option linter.unusedVariables false
set_option linter.unusedSimpArgs false
set_option maxHeartbeats 0
set_option maxRecDepth 100000
open Array renaming eq_empty_of_size_eq_zero->lC,getD_eq_getD_getElem?->aD,getElem?_eq_some_iff->cZ,getElem?_toList->bA,toArray_toList->bLI
open Bool renaming and_eq_true->aC,false_eq_true->aO,not_eq_true->aHU,or_eq_true->bH,true_eq_false->bM
open Go.IntKind renaming i64->aN
open List renaming all_eq_true->aW,cons_append->dQ,getD_eq_getElem?_getD->bD,getElem?_drop->hU,getElem?_eq_getElem->aE,getElem?_eq_some_iff->aG,getElem?_map->aQ,getElem?_take->lB,getElem?_toArray->cH,getElem_mem->bKH,map->jL,map_append->aH,map_cons->bG,map_map->jD,map_nil->aV,mem_cons->jK,mem_cons_of_mem->fP,range->aM,range_succ->CI,replicate->eI
open Nat renaming add_assoc->fS,add_mul->cX,add_sub_cancel->rN,add_sub_cancel_left->iW,le_refl->aF,le_succ->PH,lt_irrefl->tC,mul_one->bAM,pos_of_ne_zero->a0R,sub_self->PG,zero_add->dV,zero_le->aJ
open Option renaming bind_eq_some_iff->bX,isSome_iff_exists->fK,map_eq_none_iff->dG,map_eq_some_iff->aB,map_none->oC,map_some->cB,some->mB
open Go.Result renaming andThen_ok->bI
open Go.Sem renaming run_bind->bO,run_pure->dP
section
namespace Go.AM
section
variable{P:Program}{Γ:List (Nat×List AVal)}{o:Oper}{ev:Operand->Option AVal}{get:Nat->Option Blk}{k:Nat}
def bound(ev:Operand->Option AVal)(x:Option Operand)(d:Int):Option Int:=
 match x with
 |none=>some d
 | some y=>match ev y with
   |some (.lit (.int _ i))=>some i
   |_=>none
theorem pY{t s:Nat}(ht:CD P t=some s)(lo hi:Option Value)(base:Option Addr)(len cap:Nat)(l h:Int)(hl:lo=none/\l=0\/∃kk,lo=some (.int kk l))(hh:hi=none/\h=len\/∃kk,hi=some (.int kk h))
 (h0:0<=l) (h1:l<=h) (h2:h<=len) (h3:len<=cap) (w:World):
 (Instr.sliceAt t (.slice base len cap) lo hi none).run P w= .ok (.slice (if cap=l.toNat then base else base.map (·.add (l.toNat*s))) (h.toNat-l.toNat) (cap-l.toNat)) w:=by
 obtain⟨e,i,hu,hi',rfl⟩:=MU ht
 have hb:(Instr.sliceBounds true len cap lo hi none).run P w= .ok (l.toNat,h.toNat,cap) w:=by
  have q1:(0:Int)<=h/\h<=(cap:Int):=⟨oO,oO⟩;have q3:(0:Int)<=l/\l<=(h.toNat:Int):=⟨h0,oO⟩;rcases hl with⟨rfl,rfl⟩|⟨kl,rfl⟩<;>rcases hh with⟨rfl,rfl⟩|⟨kh,rfl⟩;.simp[Instr.sliceBounds]
  .simp[Instr.sliceBounds,Instr.sliceBound,asIntOf,q1]
  .have q2:(0:Int)<=l/\l<=(len:Int):=⟨h0,h1⟩;simp[Instr.sliceBounds,Instr.sliceBound,asIntOf,q2]
  simp only[Instr.sliceBounds,Instr.sliceBound,asIntOf,bO,dP,bI,q1,and_self,if_true,q3]
 simp only[Instr.sliceAt,underlying,bO,run_program,bI,hu,dP,Instr.slice,hb,sizeOf,typeInfo,hi']
theorem nC{x:Option Operand}{d i:Int}(h:bound ev x d=some i){a:Act}{w:World}{G:Nat->Prop}{ρ:cM}{A:bU}(hv:∀y,x=some y->∀v,ev y=some v->V w G ρ A v (a.eval y)):
 x.map a.eval=none/\i=d\/∃kk,x.map a.eval=some (.int kk i):=by
 cases x with
 |none=>cases h;exact .inl ⟨rfl,rfl⟩
 |some y=>
  simp only[bound]at h;split at h;.rename_i kk j hy;cases h;have:=gV (hv y rfl _ hy);exact .inr ⟨kk,by simp[this]⟩
  cases h
theorem WN{t s n:Nat}{x:Operand}{lo hi:Option Operand}{f:Nat->List AVal}{l h:Int}(ho:o.op= .slice t x lo hi none)(ht:CD P t=some s)(hx:ev x=some (.rd s n f))(hl:bound ev lo 0=some l)(hh:bound ev hi n=some h)
 (h0:0<=l) (h1:l<=h) (h2:h<=n):OpOk P Γ o ev get k ⟨.rd s (h.toNat-l.toNat) (λ i=>f (l.toNat+i)),k,[],[]⟩:=by
 refine cE λ w G ρ H A a hr _ hop=>?_;have hvx:=hop x (by simp[ho,Op.operands]) _ hx;have el:=nC (w:=w) (G:=G) (ρ:=ρ) (A:=A) (a:=a) hl (λ y hy v hv=>hop y (by simp[ho,Op.operands,hy]) v hv);have eh:=nC (w:=w) (G:=G) (ρ:=ρ) (A:=A) (a:=a) hh (λ y hy v hv=>hop y (by simp[ho,Op.operands,hy]) v hv);generalize hev:a.eval x=cv at hvx
 cases hvx with
 |rd0=>rename_i base cap;have hrun:=pY ht (lo.map a.eval) (hi.map a.eval) base 0 cap l h el eh h0 h1 oO oO w;have e0:h.toNat-l.toNat=0:=oO;refine⟨_,by simp only[execOp,ho,hev,oC,bO,hrun,bI,dP];rfl,?_⟩;rw[e0];exact .rd0
 |rd g hb hcap hn hlen hc hv=>
  rename_i b off cap;have hrun:=pY ht (lo.map a.eval) (hi.map a.eval) (some ⟨b,off,none⟩) n cap l h el eh h0 h1 h2 hcap w;refine⟨_,by simp only[execOp,ho,hev,oC,bO,hrun,bI,dP];rfl,?_⟩;by_cases hcl:cap=l.toNat;.have e0:h.toNat-l.toNat=0:=oO;rw[e0];exact .rd0
  rw[if_neg hcl,cB,Addr.add_mid];refine .rd (λ i j=>g (l.toNat+i) j) hb oO oO (λ i hi'=>hlen _ oO) (λ i j v hi' hj=>?_) (λ i j v hi' hj=>hv _ j v oO hj);have:=hc (l.toNat+i) j v oO hj;rw[<-this];congr 2;rw[cX];omega
theorem WM{t s n id r:Nat}{x:Operand}{lo hi:Option Operand}{B:Blk}{l h:Int}(ho:o.op= .slice t x lo hi none)(ht:CD P t=some s)(hx:ev x=some (.sl id r n))(hB:get id=some B)(hs:B.sz=s)
 (hl:bound ev lo 0=some l) (hh:bound ev hi n=some h) (h0:0<=l) (h1:l<=h) (h2:h<=n):OpOk P Γ o ev get k ⟨.sl id (r+l.toNat) (h.toNat-l.toNat),k,[],[id]⟩:=by
 refine cE λ w G ρ H A a hr hrd hop=>?_;have hvx:=hop x (by simp[ho,Op.operands]) _ hx;have el:=nC (w:=w) (G:=G) (ρ:=ρ) (A:=A) (a:=a) hl (λ y hy v hv=>hop y (by simp[ho,Op.operands,hy]) v hv);have eh:=nC (w:=w) (G:=G) (ρ:=ρ) (A:=A) (a:=a) hh (λ y hy v hv=>hop y (by simp[ho,Op.operands,hy]) v hv);obtain⟨B',A',h3,hH,_⟩:=hrd id (by simp);rw[hB]at h3;cases h3;obtain⟨_,b,hb,_⟩:=hr.blk id B A' hH;generalize hev:a.eval x=cv at hvx
 cases hvx with
 |dangs _ hn=>rw[hb]at hn;cases hn
 |sl0 ha hρ=>have hrun:=pY ht (lo.map a.eval) (hi.map a.eval) none 0 0 l h el eh h0 h1 h2 (aF _) w;have e1:l.toNat=0:=oO;have e2:h.toNat=0:=oO;refine⟨_,by simp only[execOp,ho,hev,oC,bO,hrun,bI,dP];rfl,?_⟩;rw[e1,e2];exact .sl0 ha hρ
 |sl ha hρ hsh hm hn hc hoff=>
  rw[hb]at hρ;cases hρ;rename_i ty m cap off;have hrun:=pY ht (lo.map a.eval) (hi.map a.eval) (some ⟨b,off,none⟩) n cap l h el eh h0 h1 h2 hn w;refine⟨_,by simp only[execOp,ho,hev,oC,bO,hrun,bI,dP];rfl,?_⟩;have hm':(r+l.toNat+(cap-l.toNat))*B.sz<=m:=by have:r+l.toNat+(cap-l.toNat)=r+cap:=oO;rw[this];exact hm
  by_cases hcl:cap=l.toNat;.rw[if_pos hcl];exact .sl ha hb hsh hm' oO oO (.inl oO)
  rw[if_neg hcl,cB,Addr.add_mid];refine .sl ha hb hsh hm' oO oO (.inr ?_);rcases hoff with h4|h4;.omega
  rw[h4,<-hs,cX]
def dN(get:Nat->Option Blk):AVal->Bool
 | .ptr id _ _=>(get id).isSome
 | .rp _=>true
 | .sl id _ n=>(get id).isSome&&decide (0<n)
 | .rd _ n _=>decide (0<n)
 | .fn _ _=>true
 | .nn=>true
 |_=>false
def pD:AVal->Bool
 | .lit (.pointer none)=>true
 | .lit (.slice none _ _)=>true
 | .lit .nilFunc=>true
 | .lit .nilIface=>true
 |_=>false
def yE(P:Program)(t:TypeId):Option Nat:=
 match P.underlying t with
 |some (.pointer _)=>some 0
 |some (.slice _)=>some 1
 |some (.func ..)=>some 2
 |some (.interface _)=>some 4
 |_=>none
def dR:AVal->Nat
 | .ptr .. =>0
 | .rp _=>0
 | .lit (.pointer _)=>0
 | .sl .. =>1
 | .rd .. =>1
 | .lit (.slice ..)=>1
 | .fn .. =>2
 | .lit .nilFunc=>2
 | .nn=>4
 | .lit .nilIface=>4
 |_=>3
def CK:AVal->List Nat
 | .ptr id _ _=>[id]
 | .sl id _ _=>[id]
 |_=>[]
theorem YT{t e:Nat}(he:P.underlying t=some (.pointer e))(d:Nat)(p:Addr)(w:World):(Op.equalIn (d+1) t (.pointer (some p)) (.pointer none)).run P w= .ok false w/\(Op.equalIn (d+1) t (.pointer none) (.pointer (some p))).run P w= .ok false w:=by constructor<;>simp[Op.equalIn,run_underlying he]
theorem UD{t e:Nat}(he:P.underlying t=some (.pointer e))(d:Nat)(w:World):(Op.equalIn (d+1) t (.pointer none) (.pointer none)).run P w= .ok true w:=by simp[Op.equalIn,run_underlying he]
theorem YS{t e:Nat}(he:P.underlying t=some (.slice e))(d:Nat)(m c m' c':Nat)(w:World):(Op.equalIn (d+1) t (.slice none m c) (.slice none m' c')).run P w= .ok true w:=by simp[Op.equalIn,run_underlying he]
theorem aDC{t e:Nat}(he:P.underlying t=some (.slice e))(d:Nat)(p:Addr)(m c m' c':Nat)(w:World):(Op.equalIn (d+1) t (.slice (some p) m c) (.slice none m' c')).run P w= .ok false w/\(Op.equalIn (d+1) t (.slice none m' c') (.slice (some p) m c)).run P w= .ok false w:=by constructor<;>simp[Op.equalIn,run_underlying he]
theorem aDE{t:Nat}{ps rs:Array TypeId}{vr:Bool}(he:P.underlying t=some (.func ps rs vr))(d:Nat)(fn:Fn)(fi cc:Array Value)(w:World):(Op.equalIn (d+1) t (.func fn fi cc) .nilFunc).run P w= .ok false w/\(Op.equalIn (d+1) t .nilFunc (.func fn fi cc)).run P w= .ok false w:=by constructor<;>simp[Op.equalIn,run_underlying he]
theorem aDD{t:Nat}{ms:Array (String×TypeId)}(he:P.underlying t=some (.interface ms))(d:Nat)(tt:TypeId)(v:Value)(w:World):(Op.equalIn (d+1) t (.iface tt v) .nilIface).run P w= .ok false w/\(Op.equalIn (d+1) t .nilIface (.iface tt v)).run P w= .ok false w:=by constructor<;>simp[Op.equalIn,run_underlying he]
theorem gG{t:Nat}{x y:Value}(h1:¬(x= .nilIface/\y= .nilIface))(h2:∀a b,¬(x= .agg a/\y= .agg b))(op:BinOp)(p q:Operand)(w:World):(eqGuard op t p q x y).run P w= .ok () w:=by unfold eqGuard;cases op<;>first|rfl|(cases x<;>cases y<;>first|rfl|exact absurd ⟨rfl,rfl⟩ h1|exact absurd ⟨rfl,rfl⟩ (h2 _ _))
def ZY(P:Program)(w:World)(t:TypeId)(cv cz:Value):Prop:=
 (∀op x y,(eqGuard op t x y cv cz).run P w= .ok () w)/\(∀op x y,(eqGuard op t x y cz cv).run P w= .ok () w)∧
   (binOp .eql t cv cz).run P w= .ok (.bool false) w/\(binOp .neq t cv cz).run P w= .ok (.bool true) w/\(binOp .eql t cz cv).run P w= .ok (.bool false) w/\(binOp .neq t cz cv).run P w= .ok (.bool true) w
theorem yM{t:Nat}{x y:Value}{w:World}{b:Bool}(hp:(∀k n,x≠ .int k n)/\(∀k n,y≠ .int k n)/\(∀s,x≠ .string s)/\(∀k n,x≠ .float k n)/\(∀k n m,x≠ .complex k n m))(h:(Op.equal t x y).run P w= .ok b w):
 (binOp .eql t x y).run P w= .ok (.bool b) w/\(binOp .neq t x y).run P w= .ok (.bool (!b)) w:=by
 obtain⟨h1,h2,h3,h4,h5⟩:=hp;constructor;.cases x<;>first|exact absurd rfl (h1 _ _)|exact absurd rfl (h3 _)|exact absurd rfl (h4 _ _)|exact absurd rfl (h5 _ _ _)|simp[binOp,h]
 cases x<;>first|exact absurd rfl (h1 _ _)|exact absurd rfl (h3 _)|exact absurd rfl (h4 _ _)|exact absurd rfl (h5 _ _ _)|simp[binOp,h]
theorem QF{t e:Nat}(he:P.underlying t=some (.pointer e))(p:Addr)(w:World):ZY P w t (.pointer (some p)) (.pointer none):=by have h:=YT he 9999 p w;have e1:=yM (P:=P) (x:= .pointer (some p)) (y:= .pointer none) (w:=w) (t:=t) (by simp) h.1;have e2:=yM (P:=P) (x:= .pointer none) (y:= .pointer (some p)) (w:=w) (t:=t) (by simp) h.2;exact⟨λ op x y=>gG (by simp) (by simp) op x y w,λ op x y=>gG (by simp) (by simp) op x y w,e1.1,e1.2,e2.1,e2.2⟩
theorem EE{t e:Nat}(he:P.underlying t=some (.slice e))(p:Addr)(m c m' c':Nat)(w:World):ZY P w t (.slice (some p) m c) (.slice none m' c'):=by have h:=aDC he 9999 p m c m' c' w;have e1:=yM (P:=P) (x:= .slice (some p) m c) (y:= .slice none m' c') (w:=w) (t:=t) (by simp) h.1;have e2:=yM (P:=P) (x:= .slice none m' c') (y:= .slice (some p) m c) (w:=w) (t:=t) (by simp) h.2;exact⟨λ op x y=>gG (by simp) (by simp) op x y w,λ op x y=>gG (by simp) (by simp) op x y w,e1.1,e1.2,e2.1,e2.2⟩
theorem aPK{t:Nat}{ps rs:Array TypeId}{vr:Bool}(he:P.underlying t=some (.func ps rs vr))(fn:Fn)(fi cc:Array Value)(w:World):ZY P w t (.func fn fi cc) .nilFunc:=by have h:=aDE he 9999 fn fi cc w;have e1:=yM (P:=P) (x:= .func fn fi cc) (y:= .nilFunc) (w:=w) (t:=t) (by simp) h.1;have e2:=yM (P:=P) (x:= .nilFunc) (y:= .func fn fi cc) (w:=w) (t:=t) (by simp) h.2;exact⟨λ op x y=>gG (by simp) (by simp) op x y w,λ op x y=>gG (by simp) (by simp) op x y w,e1.1,e1.2,e2.1,e2.2⟩
theorem aPJ{t:Nat}{ms:Array (String×TypeId)}(he:P.underlying t=some (.interface ms))(tt:TypeId)(v:Value)(w:World):ZY P w t (.iface tt v) .nilIface:=by have h:=aDD he 9999 tt v w;have e1:=yM (P:=P) (x:= .iface tt v) (y:= .nilIface) (w:=w) (t:=t) (by simp) h.1;have e2:=yM (P:=P) (x:= .nilIface) (y:= .iface tt v) (w:=w) (t:=t) (by simp) h.2;exact⟨λ op x y=>gG (by simp) (by simp) op x y w,λ op x y=>gG (by simp) (by simp) op x y w,e1.1,e1.2,e2.1,e2.2⟩
theorem RL{t kd:Nat}(ht:yE P t=some kd){v z:AVal}{w:World}{G:Nat->Prop}{ρ:cM}{A:bU}{H:lP}(hr:HRel Γ w G ρ H)(hrd:∀id,id∈CK v->∃B A',get id=some B/\H id=some (B,A')/\∀i,A' i->A i)
 {cv cz:Value} (hv:V w G ρ A v cv) (hz:V w G ρ A z cz) (hn:dN get v=true) (hzz:pD z=true) (hk1:dR v=kd) (hk2:dR z=kd):ZY P w t cv cz:=by
 have hlit:z= .lit cz:=by
  cases z with
  |lit u=>cases hz;rfl
  |_=>simp[pD]at hzz
 subst hlit;clear hz;have hown:∀id,id∈CK v->ρ id≠none:=λ id hid hn'=>by obtain⟨B,A',_,hH,_⟩:=hrd id hid;obtain⟨_,b,hb,_⟩:=hr.blk _ B A' hH;rw[hb]at hn';cases hn'
 unfold yE at ht;split at ht
 .rename_i e he;cases ht
  have hcz:cz= .pointer none:=by
   cases cz with
   |pointer a=>cases a with
    |none=>rfl
    |some=>simp[pD]at hzz
   |slice a m c=>simp[dR]at hk2
   |nilFunc=>simp[dR]at hk2
   |nilIface=>simp[dR]at hk2
   |_=>simp[pD]at hzz
  subst hcz
  cases hv with
  |dang _ hn'=>exact absurd hn' (hown _ (by simp[CK]))
  |ptr=>exact QF he _ w
  |rp=>exact QF he _ w
  |junk=>simp[dN]at hn
  |lit=>simp[dN]at hn
  |agg=>simp[dN]at hn
  |tup=>simp[dN]at hn
  |dangs=>simp[dR]at hk1
  |sl=>simp[dR]at hk1
  |sl0=>simp[dR]at hk1
  |rd0=>simp[dR]at hk1
  |rd=>simp[dR]at hk1
  |fn=>simp[dR]at hk1
  |nn=>simp[dR]at hk1
  |dangc=>simp[dN]at hn
  |slc=>simp[dN]at hn
  |bfn=>simp[dN]at hn
  |dangm=>simp[dN]at hn
  |mp=>simp[dN]at hn
  |dangi=>simp[dN]at hn
  |it=>simp[dN]at hn
 .rename_i e he;cases ht
  obtain⟨m,c,hcz⟩:∃m c,cz= .slice none m c:=by
   cases cz with
   |slice a m c=>cases a with
    |none=>exact⟨m,c,rfl⟩
    |some=>simp[pD]at hzz
   |pointer a=>simp[dR]at hk2
   |nilFunc=>simp[dR]at hk2
   |nilIface=>simp[dR]at hk2
   |_=>simp[pD]at hzz
  subst hcz
  cases hv with
  |dangs _ hn'=>exact absurd hn' (hown _ (by simp[CK]))
  |sl=>exact EE he _ _ _ _ _ w
  |sl0=>simp[dN]at hn
  |rd=>exact EE he _ _ _ _ _ w
  |rd0=>simp[dN]at hn
  |junk=>simp[dN]at hn
  |lit=>simp[dN]at hn
  |agg=>simp[dN]at hn
  |tup=>simp[dN]at hn
  |dang=>simp[dR]at hk1
  |ptr=>simp[dR]at hk1
  |rp=>simp[dR]at hk1
  |fn=>simp[dR]at hk1
  |nn=>simp[dR]at hk1
  |dangc=>simp[dN]at hn
  |slc=>simp[dN]at hn
  |bfn=>simp[dN]at hn
  |dangm=>simp[dN]at hn
  |mp=>simp[dN]at hn
  |dangi=>simp[dN]at hn
  |it=>simp[dN]at hn
 .rename_i ps rs vr he;cases ht
  have hcz:cz= .nilFunc:=by
   cases cz with
   |nilFunc=>rfl
   |pointer a=>simp[dR]at hk2
   |slice a m c=>simp[dR]at hk2
   |nilIface=>simp[dR]at hk2
   |_=>simp[pD]at hzz
  subst hcz
  cases hv with
  |fn=>exact aPK he _ _ _ w
  |nn=>simp[dR]at hk1
  |dangc=>simp[dN]at hn
  |slc=>simp[dN]at hn
  |bfn=>simp[dN]at hn
  |dangm=>simp[dN]at hn
  |mp=>simp[dN]at hn
  |dangi=>simp[dN]at hn
  |it=>simp[dN]at hn
  |junk=>simp[dN]at hn
  |lit=>simp[dN]at hn
  |agg=>simp[dN]at hn
  |tup=>simp[dN]at hn
  |dang=>simp[dR]at hk1
  |dangs=>simp[dR]at hk1
  |ptr=>simp[dR]at hk1
  |sl=>simp[dR]at hk1
  |sl0=>simp[dR]at hk1
  |rp=>simp[dR]at hk1
  |rd0=>simp[dR]at hk1
  |rd=>simp[dR]at hk1
 .rename_i ms he;cases ht
  have hcz:cz= .nilIface:=by
   cases cz with
   |nilIface=>rfl
   |nilFunc=>simp[dR]at hk2
   |pointer a=>simp[dR]at hk2
   |slice a m c=>simp[dR]at hk2
   |_=>simp[pD]at hzz
  subst hcz
  cases hv with
  |nn=>exact aPJ he _ _ w
  |dangc=>simp[dN]at hn
  |slc=>simp[dN]at hn
  |bfn=>simp[dN]at hn
  |dangm=>simp[dN]at hn
  |mp=>simp[dN]at hn
  |dangi=>simp[dN]at hn
  |it=>simp[dN]at hn
  |fn=>simp[dR]at hk1
  |junk=>simp[dN]at hn
  |lit=>simp[dN]at hn
  |agg=>simp[dN]at hn
  |tup=>simp[dN]at hn
  |dang=>simp[dR]at hk1
  |dangs=>simp[dR]at hk1
  |ptr=>simp[dR]at hk1
  |sl=>simp[dR]at hk1
  |sl0=>simp[dR]at hk1
  |rp=>simp[dR]at hk1
  |rd0=>simp[dR]at hk1
  |rd=>simp[dR]at hk1
 cases ht
theorem YU{t ty kd:Nat}{x y:Operand}{v z:AVal}{neg:Bool}(ho:o.op= .binOp (if neg then .neq else .eql) t x y ty)(ht:yE P t=some kd)(hxy:(ev x=some v/\ev y=some z)\/(ev x=some z/\ev y=some v))
 (hn:dN get v=true) (hzz:pD z=true) (hk1:dR v=kd) (hk2:dR z=kd):OpOk P Γ o ev get k ⟨.lit (.bool neg),k,[],CK v⟩:=by
 refine cE λ w G ρ H A a hr hrd hop=>⟨.bool neg,?_,.lit⟩;have hmx:x∈o.op.operands:=by cases neg<;>simp[ho,Op.operands]
 have hmy:y∈o.op.operands:=by cases neg<;>simp[ho,Op.operands]
 rcases hxy with⟨hx,hy⟩|⟨hx,hy⟩;.obtain⟨h3,_,h5,h6,_,_⟩:=RL (P:=P) ht hr hrd (hop x hmx v hx) (hop y hmy z hy) hn hzz hk1 hk2;cases neg<;>simp[execOp,ho,h3,h5,h6]
 obtain⟨_,h4,_,_,h7,h8⟩:=RL (P:=P) ht hr hrd (hop y hmy v hy) (hop x hmx z hx) hn hzz hk1 hk2;cases neg<;>simp[execOp,ho,h4,h7,h8]
def DV(P:Program)(t:TypeId):Option Nat:=
 match P.underlying t with
 |some (.int _)=>some 0
 |some .bool=>some 1
 |some .string=>some 2
 |_=>none
def sI(P:Program)(t:TypeId):Option (List (Nat×Nat)):=
 match P.underlying t with
 |some (.struct fs)=>if P.stoodInHeld t||P.eqGuardType P.depth t||fs.any (·.name== "_")then none else fs.toList.mapM λ f=>(DV P f.type).map λ g=>(f.offset,g)
 |_=>none
def IJ:Nat->Value->Value->Option Bool
 |0,.int k a,.int k' b=>if k=k' then some (a==b)else none
 |1,.bool a,.bool b=>some (a==b)
 |2,.string a,.string b=>some (a==b)
 |_,_,_=>none
def sX(xs ys:List Value):List (Nat×Nat)->Option Bool
 |[]=>some true
 | (off,g)::r=>match xs[off]?,ys[off]? with
   | some a,some b=>match IJ g a b,sX xs ys r with
     |some p,some q=>some (p&&q)
     |_,_=>none
   |_,_=>none
theorem HE{t g d:Nat}(ht:DV P t=some g){a b:Value}{p:Bool}(h:IJ g a b=some p)(w:World):(Op.equalIn (d+1) t a b).run P w= .ok p w:=by
 unfold DV at ht;split at ht;.rename_i kk hu;cases ht;cases a<;>cases b<;>simp[IJ]at h;obtain⟨rfl,rfl⟩:=h;simp[Op.equalIn,run_underlying hu]
 .rename_i hu;cases ht;cases a<;>cases b<;>simp[IJ]at h;subst h;simp[Op.equalIn,run_underlying hu]
 .rename_i hu;cases ht;cases a<;>cases b<;>simp[IJ]at h;subst h;simp[Op.equalIn,run_underlying hu]
 cases ht
theorem DU{t g:Nat}(ht:DV P t=some g){cs:Array Value}{off:Nat}{u:Value}(h:cs[off]? =some u)(w:World):(part t cs off).run P w= .ok u w:=by
 have:∃d,P.underlying t=some d/\d.isRow=false:=by
  unfold DV at ht;split at ht;.exact⟨_,‹_›,rfl⟩
  .exact⟨_,‹_›,rfl⟩
  .exact⟨_,‹_›,rfl⟩
  cases ht
 obtain⟨d,hd,hdr⟩:=this;have hagg:(isAgg t).run P w= .ok false w:=by unfold isAgg;rw[bO,run_underlying hd w];cases d<;>simp_all
 simp[part,hagg,h]
theorem EV{d:Nat}(xs ys:List Value):∀(fs:List Field) (offs:List (Nat×Nat)) (p:Bool),(∀f∈fs,f.name≠ "_")->(fs.mapM λ f=>(DV P f.type).map λ g=>(f.offset,g))=some offs->sX xs ys offs=some p→
 ∀w,(Op.eqFields (d+1) xs.toArray ys.toArray fs).run P w= .ok p w:=by
 intro fs
 induction fs with
 |nil=>intro offs p _ hm he w;simp at hm;subst hm;simp[sX]at he;subst he;simp[Op.eqFields]
 |cons f fs ih=>
  intro offs p hn hm he w;rw[List.mapM_cons]at hm;simp only[Option.bind_eq_bind,bX,aB]at hm;obtain⟨x,⟨g,hg,rfl⟩,offs',hm',hp⟩:=hm;cases hp;simp only[sX]at he;split at he
  .rename_i a b ha hb;split at he;.rename_i p1 q1 h1 h2;cases he;have r1:=DU hg (cs:=xs.toArray) (by rw[cH];exact ha) w;have r2:=DU hg (cs:=ys.toArray) (by rw[cH];exact hb) w;have r3:=HE (d:=d) hg h1 w;have r4:=ih offs' q1 (λ f hf=>hn f (fP _ hf)) hm' h2 w;simp only[Op.eqFields,if_pos (hn f (by simp)),bO,r1,r2,r3,bI];cases p1<;>simp[r4]
   cases he
  cases he
theorem aRZ{t ty:Nat}{x y:Operand}{xc yc:List AVal}{xs ys:List Value}{offs:List (Nat×Nat)}{p neg:Bool}(ho:o.op= .binOp (if neg then .neq else .eql) t x y ty)(ht:sI P t=some offs)
 (hx:ev x=some (.agg xc)) (hy:ev y=some (.agg yc)) (hxs:mY xc=some xs) (hys:mY yc=some ys) (he:sX xs ys offs=some p):OpOk P Γ o ev get k ⟨.lit (.bool (if neg then !p else p)),k,[],[]⟩:=by
 refine cE λ w G ρ H A a hr hrd hop=>⟨.bool (if neg then !p else p),?_,.lit⟩;have hmx:x∈o.op.operands:=by cases neg<;>simp[ho,Op.operands]
 have hmy:y∈o.op.operands:=by cases neg<;>simp[ho,Op.operands]
 have ex:a.eval x= .agg xs.toArray:=JC (hop x hmx _ hx) (by simp[PQ,hxs]);have ey:a.eval y= .agg ys.toArray:=JC (hop y hmy _ hy) (by simp[PQ,hys]);unfold sI at ht;split at ht
 .rename_i fs hu;split at ht;.cases ht
  rename_i hc;simp only[bH,not_or,aHU]at hc;obtain⟨⟨h1,h2⟩,h3⟩:=hc;have hfs:P.fieldsOf t=fs:=by simp[Program.fieldsOf,hu]
  have hnm:∀f∈fs.toList,f.name≠ "_":=λ f hf he=>by have:=Array.any_eq_false'.1 h3 f (by simpa using hf);simp[he]at this
  have hrun:=EV (P:=P) (d:=9998) xs ys fs.toList offs p hnm ht he w;have hstr:=run_equalIn_struct (P:=P) w 9999 t xs.toArray ys.toArray (by rw[hfs];exact hu) h1;rw[hfs,hrun]at hstr;have hg:=λ op=>run_eqGuard_agg (P:=P) w op t x y xs.toArray ys.toArray h2;cases neg;.simp only[execOp,ho,ex,ey,aO,if_false,bO,hg,bI,run_eql_struct,hstr,dP]
  simp only[execOp,ho,ex,ey,if_true,bO,hg,bI,run_neq_struct,hstr,dP]
 cases ht
theorem HX{rows:List (List AVal)}(h:(rows.all λ row=>row.all one)=true):aFH rows:=λ _ _ _ _ h1 h2=>gP (gP h h1) h2
inductive SrcA (get:Nat->Option Blk):AVal->Nat->Nat->List (List AVal)->Bool->List Nat->Prop
 |rd {s m f}:SrcA get (.rd s m f) s m ((aM m).map f) true []
 |sl {id r m B}:get id=some B->r+m<=B.rows.length->SrcA get (.sl id r m) B.sz m ((B.rows.drop r).take m) B.pure [id]
 |nil:SrcA get (.lit (.slice none 0 0)) 0 0 [] true []
theorem SrcA.src {v:AVal}{s m:Nat}{rows:List (List AVal)}{p:Bool}{ids:List Nat}(h:SrcA get v s m rows p ids){w:World}{G:Nat->Prop}{ρ:cM}{H:lP}{A:bU}{cv:Value}(hr:HRel Γ w G ρ H)
 (hrd:∀id,id∈ids->∃B A',get id=some B/\H id=some (B,A')/\∀i,A' i->A i) (hv:V w G ρ A v cv):Src w G ρ A s m rows p cv:=by
 cases h with
 |nil=>exact⟨rfl,λ r row h=>by simp at h,λ h=>oO⟩
 |rd=>
  rename_i f
  cases hv with
  |rd0=>exact⟨by simp,λ r row h=>by simp at h,λ h=>oO⟩
  |rd g hb hcap hn hl hc hvv=>
   have hget:∀(r:Nat) row,((aM m).map f)[r]? =some row->r<m/\row=f r:=λ r row h=>by rw[aQ]at h;simp only[aB]at h;obtain⟨i,hi,rfl⟩:=h;obtain⟨hlt,he⟩:=aG.1 hi;simp at he hlt;subst he;exact⟨hlt,rfl⟩
   refine⟨by simp,λ r row h=>?_,λ _=>⟨_,_,_,rfl,g,λ r row c v h1 h2=>?_⟩⟩;.obtain⟨h1,rfl⟩:=hget r row h;exact hl r h1
   obtain⟨h3,rfl⟩:=hget r row h1;exact⟨hc r c v h3 h2,by simp only[if_true];exact hvv r c v h3 h2⟩
 |sl hB hle=>
  rename_i id r B;obtain⟨B',A',h1,hH,hAA⟩:=hrd id (by simp);rw[hB]at h1;cases h1;obtain⟨_,b,hb,_,hBR⟩:=hr.blk id B A' hH;have hlen:=hBR.len
  have hget:∀(q:Nat) row,((B.rows.drop r).take m)[q]? =some row->B.rows[r+q]? =some row:=λ q row h=>by
   rw[lB]at h;split at h;.rw[hU]at h;exact h
   cases h
  cases hv with
  |dangs _ hn=>rw[hb]at hn;cases hn
  |sl0=>exact⟨by simp,λ q row h=>hlen _ row (hget q row h),λ hm0=>absurd hm0 (tC _)⟩
  |sl ha hρ hsh hm hn hc hoff=>
   rw[hb]at hρ;cases hρ;obtain⟨⟨C,ty,hC,hrows⟩,_⟩:=hBR.old hsh;refine⟨by simp;omega,λ q row h=>hlen _ row (hget q row h),λ hm0=>⟨_,_,_,rfl,λ q c=>C.getD ((r+q)*B.sz+c) undef,λ q row c v h1 h2=>?_⟩⟩;have hoff':=hoff.resolve_left oO;subst hoff';obtain⟨cu,h3,h4⟩:=hrows _ row c v (hget q row h1) h2;have e:C.getD ((r+q)*B.sz+c) undef=cu:=by rw[aD,h3];rfl
   show w.cell? ⟨b,r*B.sz+q*B.sz+c,none⟩=some (C.getD ((r+q)*B.sz+c) undef)/\V w G (if B.pure then bR else ρ) (if B.pure then cF else A) v (C.getD ((r+q)*B.sz+c) undef);rw[e];refine⟨?_,?_⟩;.rw[cell_of_row w b _ C ty (0,0) hC,<-h3];congr 1;rw[cX]
   by_cases hp:B.pure=true;.simp only[hp,if_true]at h4⊢;exact h4
   simp only[hp]at h4⊢;exact h4.mono (λ _ h=>h) (λ _ _=>rfl) (λ _ _=>rfl) hAA (λ _ _=> .inr rfl)
theorem HW(w:World)(t ty e:TypeId)(i:TypeInfo)(ht:P.underlying t=some (.slice e))(hi:P.info? e=some i)(base q:Option Addr)(n cap c:Nat)(h:n<=cap):
 (Builtin.append_ #[t,t] ty #[.slice base n cap,.slice q 0 c]).run P w= .ok (.slice base n cap) w:=by cases base<;>cases q<;>simp[Builtin.append_,run_underlying ht,sizeOf,typeInfo,hi,Builtin.lenOf,h,Builtin.firstCells,loadCells,loadCellsFrom,storeCells]
theorem DK{t s s' by':Nat}{x y:Operand}{u v:AVal}{zrow:List AVal}{rows:List (List AVal)}{p:Bool}{ids xF:List Nat}(ho:o.op= .call {callee:= .builtin .append,args:= #[x,y],argTypes:= #[t,t]})(hz:iB P t=some (s,by',zrow))
 (hx:ev x=some u) (hy:ev y=some v) (hu:(u= .lit (.slice none 0 0)/\xF=[])\/(∃s1 n f,u= .rd s1 n f/\xF=[])\/(∃id r n,u= .sl id r n/\xF=[id]/\(get id).isSome=true)) (hs:SrcA get v s' 0 rows p ids):
 OpOk P Γ o ev get k ⟨u,k,[],xF++ids⟩:=by
 refine cE λ w G ρ H A a hr hrd hop=>?_;have hvx:=hop x (by simp[ho,Op.operands,Call.operands]) _ hx;have hvy:=hop y (by simp[ho,Op.operands,Call.operands]) _ hy
 have hxs:∃base n cap,a.eval x= .slice base n cap/\n<=cap:=by
  generalize a.eval x=cv at hvx;rcases hu with⟨rfl,_⟩|⟨s1,n,f,rfl,_⟩|⟨id,r,n,rfl,he,hg⟩;.cases hvx;exact⟨_,_,_,rfl,aF _⟩
  .cases hvx with
   |rd0=>exact⟨_,_,_,rfl,aJ _⟩
   |rd _ _ hcap=>exact⟨_,_,_,rfl,hcap⟩
  obtain⟨B',A',h2,hH,_⟩:=hrd id (by simp[he]);obtain⟨_,b,hb,_⟩:=hr.blk id B' A' hH
  cases hvx with
  |dangs _ hn=>rw[hb]at hn;cases hn
  |sl _ _ _ _ h5=>exact⟨_,_,_,rfl,h5⟩
  |sl0=>exact⟨_,_,_,rfl,aF _⟩
 have hys:∃q c,a.eval y= .slice q 0 c:=by
  generalize a.eval y=cv at hvy
  cases hs with
  |nil=>cases hvy;exact⟨_,_,rfl⟩
  |rd=>cases hvy with
   |rd0=>exact⟨_,_,rfl⟩
   |rd=>exact⟨_,_,rfl⟩
  |sl hB hle=>
   rename_i id r B;obtain⟨B',A',h2,hH,_⟩:=hrd id (by simp);obtain⟨_,b,hb,_⟩:=hr.blk id B' A' hH
   cases hvy with
   |dangs _ hn=>rw[hb]at hn;cases hn
   |sl=>exact⟨_,_,rfl⟩
   |sl0=>exact⟨_,_,rfl⟩
 obtain⟨base,n,cap,ex,hcap⟩:=hxs;obtain⟨q,c,ey⟩:=hys;unfold iB at hz;split at hz
 .rename_i e he;split at hz;.rename_i i hi;rw[ex]at hvx;refine⟨.slice base n cap,?_,hvx⟩;have:=HW (P:=P) w t o.type e i he hi base q n cap c hcap;simp only[execOp,ho,resolve,invoke,builtin,List.map_toArray,bG,aV,ex,ey,bO,dP,bI,this]
  cases hz
 cases hz
theorem OZ{t s by' m:Nat}{x y:Operand}{v:AVal}{zrow:List AVal}{rows:List (List AVal)}{p:Bool}{ids:List Nat}(ho:o.op= .call {callee:= .builtin .append,args:= #[x,y],argTypes:= #[t,t]})(hz:iB P t=some (s,by',zrow))
 (hx:ev x=some (.lit (.slice none 0 0))) (hy:ev y=some v) (hs:SrcA get v s m rows p ids) (hm:0<m) (hlen:m<=9223372036854775807) (hby:m*by'<=140737488355328) (hone:(rows.all λ row=>row.all one)=true):
 OpOk P Γ o ev get k ⟨.sl k 0 m,k+1,[(k,some ⟨s,p,rows⟩)],ids⟩:=by
 have:=IP (P:=P) (Γ:=Γ) (o:=o) (ev:=ev) (get:=get) (k:=k) (n:=0) (olds:=[]) (pd:=true) (idd:=none) (rds:=ids) ho hz hm oO (by rw[dV];exact hby) (HX hone) (λ id h=>by cases h)
  (λ w G ρ H A a hr hrd hop=> .inl ⟨rfl,rfl,rfl,gV (hop x (by simp[ho,Op.operands,Call.operands]) _ hx)⟩) (λ w G ρ H A a hr hrd hop=>hs.src hr hrd (hop y (by simp[ho,Op.operands,Call.operands]) _ hy))
 simpa using this
theorem VD{t s by' m n id:Nat}{x y:Operand}{v:AVal}{B:Blk}{zrow:List AVal}{rows:List (List AVal)}{p:Bool}{ids:List Nat}(ho:o.op= .call {callee:= .builtin .append,args:= #[x,y],argTypes:= #[t,t]})(hz:iB P t=some (s,by',zrow))
 (hx:ev x=some (.sl id 0 n)) (hB:get id=some B) (hBs:B.sz=s) (hBn:B.rows.length=n) (hk:id<k) (hy:ev y=some v) (hs:SrcA get v s m rows p ids) (hm:0<m) (hlen:n+m<=9223372036854775807) (hby:(n+m)*by'<=140737488355328) (hone:(rows.all λ row=>row.all one)=true):
 OpOk P Γ o ev get k ⟨.sl k 0 (n+m),k+1,[(k,some ⟨s,B.pure&&p,B.rows++rows⟩),(id,none)],id::ids⟩:=by
 have:=IP (P:=P) (Γ:=Γ) (o:=o) (ev:=ev) (get:=get) (k:=k) (n:=n) (olds:=B.rows) (pd:=B.pure) (idd:=some id) (rds:=id::ids) ho hz hm hlen hby (HX hone) (λ id' h=>by cases h;exact hk)
  (λ w G ρ H A a hr hrd hop=>by obtain⟨B',A',h1,h2,h3⟩:=hrd id (by simp);rw[hB]at h1;cases h1;exact .inr ⟨id,B,A',rfl,h2,h3,hBs,rfl,rfl,hBn,hop x (by simp[ho,Op.operands,Call.operands]) _ hx⟩)
  (λ w G ρ H A a hr hrd hop=>hs.src hr (λ i hi=>hrd i (fP _ hi)) (hop y (by simp[ho,Op.operands,Call.operands]) _ hy))
 simpa using this
end
def VLe(v v':AVal):Prop:=∀w G ρ A cv,V w G ρ A v cv->V w G ρ A v' cv
theorem aK (v:AVal):VLe v v:=λ _ _ _ _ _ h=>h
theorem VLe.junk (v:AVal):VLe v .junk:=λ _ _ _ _ _ _=> .junk
theorem VLe.rd {sz n:Nat}{f g:Nat->List AVal}(h:∀i,i<n->f i=g i):VLe (.rd sz n f) (.rd sz n g):=λ w G ρ A cv hv=>by
 cases hv with
 |rd0=>exact .rd0
 |rd gg hb hcap hn hl hc hvv=>exact .rd gg hb hcap hn (λ i hi=>by rw[<-h i hi];exact hl i hi) (λ i j v hi hj=>hc i j v hi (by rw[h i hi];exact hj)) (λ i j v hi hj=>hvv i j v hi (by rw[h i hi];exact hj))
theorem VLe.agg {cs ds:List AVal}(hl:cs.length=ds.length)(h:∀(j:Nat) u v,cs[j]? =some u->ds[j]? =some v->VLe u v):VLe (.agg cs) (.agg ds):=λ w G ρ A cv hv=>by
 cases hv with
 |agg h1 h2=>refine .agg oO λ j v hj=>?_;have hlt:=(aG.1 hj).1;have hu:cs[j]? =some cs[j]:=aE oO;exact h j _ v hu hj _ _ _ _ _ (h2 j _ hu)
structure BLe (B B':Blk):Prop where
 sz:B'.sz=B.sz
 rows:∀(r:Nat) row',B'.rows[r]? =some row'->∃row,B.rows[r]? =some row/\row.length=row'.length/\∀(c:Nat) u v,row[c]? =some u->row'[c]? =some v->VLe u v
 pure:B'.pure=true->B.pure=true\/(B'.rows.all λ row=>row.all clean)=true
theorem pE (B:Blk):BLe B B:=⟨rfl,λ r row h=>⟨row,h,rfl,λ c u v h1 h2=>by rw[h1]at h2;cases h2;exact aK _⟩,λ h=> .inl h⟩
section
variable{P:Program}{Γ:List (Nat×List AVal)}{nt kb:Nat}{Q Q':AQ}{k:Nat}{fr:Fr}{H:aS}
structure WkG (kb k:Nat) (fr:Fr) (H:aS) (k1:Nat) (fr1:Fr) (H1:aS):Prop where
 base:kb<=k1
 frm:∀t v,look fr1 t=some v->∃u,look fr t=some u/\VLe u v
 heap:∀id B,look H1 id=some B->∃C,look H id=some C/\BLe C B
 bound:k1=k\/(bdF (kW k1) fr1=true/\rG (kW k1) H1=true)
theorem BRel.le {w:World}{G:Nat->Prop}{ρ:cM}{A:bU}{B B':Blk}{b:Nat}(h:BRel w G ρ A B b)(hl:BLe B B'):BRel w G ρ A B' b:=by
 obtain⟨⟨C,ty,hC,hrows⟩,hlen⟩:=h;refine⟨⟨C,ty,hC,λ r row' c v h1 h2=>?_⟩,λ r row' h1=>?_⟩
 .obtain⟨row,h3,h4,h5⟩:=hl.rows r row' h1;have hlt:=(aG.1 h2).1;have hu:row[c]? =some row[c]:=aE oO;obtain⟨cv,h6,h7⟩:=hrows r row c _ h3 hu;refine⟨cv,by rw[hl.sz];exact h6,?_⟩;have h8:=h5 c _ v hu h2 _ _ _ _ _ h7;by_cases hp':B'.pure=true
  .simp only[hp',if_true];rcases hl.pure hp' with hp|hp;.simp only[hp,if_true]at h8;exact h8
   exact FB h8 (gP (gP hp h1) h2)
  simp only[hp'];by_cases hp:B.pure=true;.simp only[hp,if_true]at h8;exact h8.weaken
  simp only[hp]at h8;exact h8
 obtain⟨row,h3,h4,_⟩:=hl.rows r row' h1;rw[hl.sz,<-h4];exact hlen r row h3
theorem WkG.inv {A0:bU}{w:World}{G:Nat->Prop}{ρ:cM}{a:Act}{k1:Nat}{fr1:Fr}{H1:aS}(hw:WkG kb k fr H k1 fr1 H1)(hi:Inv Γ nt w G ρ (jA A0 kb k) a fr H):
 ∃ρ',Inv Γ nt w G ρ' (jA A0 kb k1) a fr1 H1/\∀A,Step A w G ρ w G ρ':=by
 let ρ':cM:=λ id=>match look H1 id with|some _=>ρ id|none=>none
 have hρ:∀id,ρ' id=none\/ρ' id=ρ id:=λ id=>by
  simp only[ρ'];split;.exact .inr rfl
  exact .inl rfl
 have hsome:∀id x,ρ' id=some x->ρ id=some x/\∃B,look H1 id=some B:=λ id x h=>by
  simp only[ρ']at h;split at h;.rename_i B hB;exact⟨h,B,hB⟩
  cases h
 have hV:∀v cv,V w G ρ (jA A0 kb k) v cv->V w G ρ' (jA A0 kb k) v cv:=λ v cv h=>
  h.mono (λ _ h=>h) (λ _ _=>rfl) (λ _ _=>rfl) (λ _ h=>h) (λ id _=>hρ id)
 have hlow:∀i,jA A0 kb k i->i<k1->jA A0 kb k1 i:=λ i h1 h2=>by
  rcases h1 with h1|h1;.exact .inl h1
  exact .inr ⟨h1.1,h2⟩
 have hVl:∀v cv,V w G ρ' (λ i=>jA A0 kb k i/\kW k1 i=true) v cv->V w G ρ' (jA A0 kb k1) v cv:=λ v cv h=>
  h.mono (λ _ h=>h) (λ _ _=>rfl) (λ _ _=>rfl) (λ i h=>hlow i h.1 (of_decide_eq_true h.2)) (λ _ _=> .inr rfl)
 refine⟨ρ',⟨⟨?_,?_,?_,hi.rel.ro,hi.rel.glob⟩,hi.size,hi.defers,?_⟩,λ A=>⟨aF _,λ _ _ _=>rfl,λ _ _=>rfl,λ _ h=>h,λ _ h=> .inl h,?_,λ id _=>hρ id,rfl,rfl,rfl⟩⟩;.intro id h;simp only[bK,dG]at h;simp only[ρ',h]
 .intro id B A h;simp only[bK,aB]at h;obtain⟨B',hB,he⟩:=h;cases he;obtain⟨C0,hl,hle⟩:=hw.heap id B hB;obtain⟨hlt,b,hb,hg,hBR0⟩:=hi.rel.blk id C0 (jA A0 kb k) (by simp[bK,hl]);have hBR:=hBR0.le hle;refine⟨?_,b,by simp only[ρ',hB,hb,hle.sz],hg,?_⟩
  .rcases hw.bound with rfl|⟨_,hh⟩;.exact hlt
   have:=rQ hh hB;simp only[aC]at this;exact hlow _ hlt (of_decide_eq_true this.1)
  obtain⟨⟨C,ty,hC,hrows⟩,hlen⟩:=hBR;refine⟨⟨C,ty,hC,λ r row c v hr hc=>?_⟩,hlen⟩;obtain⟨cv,h1,h2⟩:=hrows r row c v hr hc;refine⟨cv,h1,?_⟩;by_cases hp:B.pure=true;.simp only[hp,if_true]at h2⊢;exact h2
  simp only[hp]at h2⊢
  have h3:=hV v cv h2;rcases hw.bound with rfl|⟨_,hh⟩;.exact h3
  have:=rQ hh hB;simp only[aC,bH]at this;have h5:=this.2.resolve_left hp;have h4:=gP (gP h5 hr) hc;exact hVl _ _ (SE h3 h4)
 .intro i j b s t h1 h2;exact hi.rel.inj i j b s t (hsome _ _ h1).1 (hsome _ _ h2).1
 .intro t v h;obtain⟨u,hu,hle⟩:=hw.frm t v h;have h1:=hV _ _ (hle _ _ _ _ _ (hi.frm t u hu));rcases hw.bound with rfl|⟨hf,_⟩;.exact h1
  exact hVl _ _ (aEV h1 (rQ hf h))
 rintro b ⟨id,s,hb⟩;exact .inl ⟨id,s,(hsome _ _ hb).1⟩
def upG(kb:Nat)(Q:AQ):AQ:=λ e k fr H=>∃k1 fr1 H1,WkG kb k fr H k1 fr1 H1/\Q e k1 fr1 H1
theorem a1W{c:Code}(h:W P Γ nt kb c (upG kb Q) k fr H):W P Γ nt kb c Q k fr H:=λ A0 hA0 hk w G ρ a hi=>
 wp_mono (h A0 hA0 hk w G ρ a hi) λ e a' w' hp=>by obtain⟨G',ρ',k',fr',H',⟨k1,fr1,H1,hw,hQ⟩,hk',hi',hst⟩:=hp;obtain⟨ρ1,hi1,hs1⟩:=hw.inv hi';exact⟨G',ρ1,k1,fr1,H1,hQ,hw.base,hi1,hst.trans (hs1 (kN kb)) (λ _ h=>h)⟩
def jE(id:Nat)(B:Blk):AVal->AVal
 | .sl i r n=>if i=id/\r+n<=B.rows.length then .rd B.sz n (λ j=>B.rows.getD (r+j) [])else .sl i r n
 | .ptr i r c=>if i=id/\r<B.rows.length then .rp ((B.rows.getD r []).drop c)else .ptr i r c
 |v=>v
def VW(id:Nat)(B:Blk):AVal->AVal
 | .agg cs=> .agg (cs.map (jE id B))
 | .fn f cs=> .fn f (cs.map (jE id B))
 |v=>jE id B v
def kX(id:Nat)(B:Blk)(fr:Fr):Fr:=fr.map λ x=>(x.1,VW id B x.2)
def IX(id:Nat)(B:Blk)(C:Blk):Blk:=if C.pure then C else⟨C.sz,false,C.rows.map λ row=>row.map (jE id B)⟩
def yK(id:Nat)(B:Blk)(H:aS):aS:=(del H id).map λ x=>(x.1,IX id B x.2)
theorem kJ{α β:Type}(f:α->β):∀(l:List (Nat×α)) (i:Nat),look (l.map λ x=>(x.1,f x.2)) i=(look l i).map f
 |[],i=>rfl
 |(a,x)::r,i=>by
  simp only[bG,look];by_cases h:a=i;.rw[if_pos h,if_pos h];rfl
  rw[if_neg h,if_neg h];exact kJ f r i
theorem TV{w:World}{G G':Nat->Prop}{ρ:cM}{A A':bU}{id b:Nat}{B:Blk}(hG:∀x,G x->G' x)(hGb:G' b)(hρ:ρ id=some (b,B.sz))(hB:BRel w G ρ A B b)(hp:B.pure=true){v:AVal}{cv:Value}(hv:V w G ρ A' v cv):
 V w G' (dT ρ id none) A' (jE id B v) cv:=by
 have base:∀u cu,V w G ρ A' u cu->V w G' (dT ρ id none) A' u cu:=λ u cu h=>
  h.mono hG (λ _ _=>rfl) (λ _ _=>rfl) (λ _ h=>h) (λ i _=>by
   simp only[dT];split;.exact .inl rfl
   exact .inr rfl)
 cases hv with
 |nn=>simp only[jE];exact .nn
 |dangc ha hr=>exact base _ _ (.dangc ha hr)
 |slc h1 h2 h3 h4 h5 h6 h7=>exact base _ _ (.slc h1 h2 h3 h4 h5 h6 h7)
 |bfn h=>exact base _ _ (.bfn h)
 |sl ha hr hsh hm hn hc hoff=>
  rename_i i r n b' s ty m cap off;simp only[jE];split
  .rename_i hcond;obtain⟨rfl,hle⟩:=hcond;rw[hρ]at hr;cases hr;by_cases hn0:n=0;.subst hn0;exact .rd0
   have hoff':=hoff.resolve_left oO;subst hoff';obtain⟨⟨C,ty',hC,hrows⟩,hlen⟩:=hB.old hsh;have hrow:∀j,j<n->B.rows[r+j]? =some (B.rows.getD (r+j) []):=λ j hj=>by rw[bD,aE oO];rfl
   refine .rd (λ j c=>C.getD ((r+j)*B.sz+c) undef) hGb hn oO (λ j hj=>hlen _ _ (hrow j hj)) (λ j c v hj hc'=>?_) (λ j c v hj hc'=>?_)
   .obtain⟨cu,h1,_⟩:=hrows _ _ c v (hrow j hj) hc';rw[cell_of_row w b _ C ty' (0,0) hC];have e:r*B.sz+j*B.sz+c=(r+j)*B.sz+c:=by rw[cX]
    rw[e,h1,aD,h1];rfl
   obtain⟨cu,h1,h2⟩:=hrows _ _ c v (hrow j hj) hc';simp only[hp,if_true]at h2;have e:C.getD ((r+j)*B.sz+c) undef=cu:=by rw[aD,h1];rfl
   rw[e];exact h2.mono hG (λ _ _=>rfl) (λ _ _=>rfl) (λ _ h=>h) (λ _ h=>h.elim)
  exact base _ _ (.sl ha hr hsh hm hn hc hoff)
 |sl0 ha hr=>
  simp only[jE];split;.exact .rd0
  exact base _ _ (.sl0 ha hr)
 |dangs ha hr=>
  rename_i i r n x m c;simp only[jE];split;.rename_i hcond;obtain⟨rfl,_⟩:=hcond;rw[hρ]at hr;cases hr
  exact base _ _ (.dangs ha hr)
 |junk=>exact base _ _ .junk
 |lit=>exact base _ _ .lit
 |dang ha hr=>
  rename_i i r c x;simp only[jE];split;.rename_i hcond;obtain⟨rfl,_⟩:=hcond;rw[hρ]at hr;cases hr
  exact base _ _ (.dang ha hr)
 |dangm ha hr=>exact base _ _ (.dangm ha hr)
 |mp ha hr hs=>exact base _ _ (.mp ha hr hs)
 |dangi ha hr=>exact base _ _ (.dangi ha hr)
 |it ha hr hs=>exact base _ _ (.it ha hr hs)
 |ptr ha hr hsh=>
  rename_i i r c b' s _ _;simp only[jE];split
  .rename_i hcond;obtain⟨rfl,hlt⟩:=hcond;rw[hρ]at hr;cases hr;obtain⟨⟨C,ty',hC,hrows⟩,hlen⟩:=hB.old hsh;have hrow:B.rows[r]? =some (B.rows.getD r []):=by rw[bD,aE hlt];rfl
   refine .rp (λ j=>C.getD (r*B.sz+(c+j)) undef) hGb (λ j v hj=>?_) (λ j v hj=>?_);.rw[hU]at hj;obtain⟨cu,h1,_⟩:=hrows _ _ _ v hrow hj;rw[cell_of_row w b _ C ty' (0,0) hC,fS,h1,aD,h1];rfl
   rw[hU]at hj;obtain⟨cu,h1,h2⟩:=hrows _ _ _ v hrow hj;simp only[hp,if_true]at h2;have e:C.getD (r*B.sz+(c+j)) undef=cu:=by rw[aD,h1];rfl
   rw[e];exact h2.mono hG (λ _ _=>rfl) (λ _ _=>rfl) (λ _ h=>h) (λ _ h=>h.elim)
  exact base _ _ (.ptr ha hr hsh)
 |rp g h1 h2 h3=>exact base _ _ (.rp g h1 h2 h3)
 |rd0=>exact base _ _ .rd0
 |rd g h1 h2 h3 h4 h5 h6=>exact base _ _ (.rd g h1 h2 h3 h4 h5 h6)
 |agg h1 h2=>exact base _ _ (.agg h1 h2)
 |tup h1 h2=>exact base _ _ (.tup h1 h2)
 |fn h1 h2=>exact base _ _ (.fn h1 h2)
theorem a7K{w:World}{G G':Nat->Prop}{ρ:cM}{A A':bU}{id b:Nat}{B:Blk}(hG:∀x,G x->G' x)(hGb:G' b)(hρ:ρ id=some (b,B.sz))(hB:BRel w G ρ A B b)(hp:B.pure=true){v:AVal}{cv:Value}(hv:V w G ρ A' v cv):
 V w G' (dT ρ id none) A' (VW id B v) cv:=by
 cases v with
 |agg cells=>
  cases hv with
  |agg h1 h2=>refine .agg (by simpa using h1) λ j u hj=>?_;rw[aQ]at hj;simp only[aB]at hj;obtain⟨u',hu',rfl⟩:=hj;exact TV hG hGb hρ hB hp (h2 j u' hu')
 |fn f cells=>
  cases hv with
  |fn h1 h2=>refine .fn (by simpa using h1) λ j u hj=>?_;rw[aQ]at hj;simp only[aB]at hj;obtain⟨u',hu',rfl⟩:=hj;exact TV hG hGb hρ hB hp (h2 j u' hu')
 |_=>exact TV hG hGb hρ hB hp hv
theorem aCL{A:bU}{w:World}{G:Nat->Prop}{ρ:cM}{a:Act}{id:Nat}{B:Blk}(hB:look H id=some B)(hp:B.pure=true)(hi:Inv Γ nt w G ρ A a fr H):
 ∃G' ρ',Inv Γ nt w G' ρ' A a (kX id B fr) (yK id B H)/\∀S,Step S w G ρ w G' ρ':=by
 obtain⟨hA,b,hb,hg,hBR⟩:=hi.rel.blk id B A (by simp[bK,hB]);let G':Nat->Prop:=λ x=>G x\/x=b
 have hst:∀S:bU,Step S w G ρ w G' (dT ρ id none):=λ S=>by
  refine⟨aF _,λ _ _ _=>rfl,λ _ _=>rfl,λ _ h=> .inl h,λ x h=>?_,?_,λ i _=>?_,rfl,rfl,rfl⟩
  .rcases h with h|h;.exact .inl h
   exact .inr (.inl (h▸⟨id,_,hb⟩))
  .rintro x ⟨i,s,hx⟩;simp only[dT]at hx;split at hx;.cases hx
   exact .inl ⟨i,s,hx⟩
  simp only[dT];split;.exact .inl rfl
  exact .inr rfl
 have hV:∀A' v cv,V w G ρ A' v cv->V w G' (dT ρ id none) A' (VW id B v) cv:=λ A' v cv h=>a7K (λ _ h=> .inl h) (.inr rfl) hb hBR hp h;have hV0:∀A' v cv,V w G ρ A' v cv->V w G' (dT ρ id none) A' (jE id B v) cv:=λ A' v cv h=>TV (λ _ h=> .inl h) (.inr rfl) hb hBR hp h;refine⟨G',dT ρ id none,⟨?_,hi.size,hi.defers,λ t v hv=>?_⟩,hst⟩
 .refine hi.rel.after (hst (λ _=>True)) _ (λ i hi'=>?_) (λ i C A1 hi'=>?_) (λ i j c s t h1 h2=>?_) (λ x hx=>?_)
  .simp only[bK,dG,yK]at hi';rw[kJ,dG,gI]at hi';simp only[dT];split at hi';.rename_i he;rw[if_pos he]
   rename_i he;rw[if_neg he];exact hi.rel.dom i (by simp[bK,hi'])
  .simp only[bK,aB,yK]at hi';obtain⟨C',hC',he⟩:=hi';cases he;rw[kJ,aB]at hC';obtain⟨D,hD,rfl⟩:=hC';rw[gI]at hD;split at hD;.cases hD
   rename_i hne;obtain⟨h1,b',h2,h3,h4⟩:=hi.rel.blk i D A (by simp[bK,hD]);have hbne:b'≠b:=λ he=>hne (hi.rel.inj i id _ _ _ h2 (he▸hb));have hg':¬G' b':=λ h=>h.elim h3 hbne;have hsz:(IX id B D).sz=D.sz:=by unfold IX;split<;>rfl
   refine⟨h1,.inr ⟨b',by simp only[dT,hne,if_false,h2,hsz],hg',?_⟩⟩;unfold IX;split;.rename_i hpd;exact h4.step hi.rel (hst (λ _=>True)) (λ _ _=>trivial) (λ _ h=>h) rfl
   rename_i hpd;obtain⟨⟨C,ty,hC,hrows⟩,hlen⟩:=h4;have hgr:∀(r:Nat) row,(D.rows.map λ row=>row.map (jE id B))[r]? =some row->∃row0,D.rows[r]? =some row0/\row=row0.map (jE id B):=λ r row h=>by rw[aQ]at h;simp only[aB]at h;obtain⟨row0,h5,rfl⟩:=h;exact⟨row0,h5,rfl⟩
   refine⟨⟨C,ty,hC,λ r row c v h5 h6=>?_⟩,λ r row h5=>?_⟩;.obtain⟨row0,h7,rfl⟩:=hgr r row h5;rw[aQ]at h6;simp only[aB]at h6;obtain⟨v0,h8,rfl⟩:=h6;obtain⟨cv,h9,h10⟩:=hrows r row0 c v0 h7 h8;simp only[hpd]at h10;exact⟨cv,h9,by simp only[aO,if_false];exact hV0 _ _ _ h10⟩
   obtain⟨row0,h7,rfl⟩:=hgr r row h5;simpa using hlen r row0 h7
  .simp only[dT]at h1 h2;split at h1;.cases h1
   split at h2;.cases h2
   exact hi.rel.inj i j c s t h1 h2
  rcases hx with hx|rfl;.exact hi.rel.ro x hx
  exact hi.rel.owned_lt ⟨id,_,hb⟩
 unfold kX at hv;rw[kJ,aB]at hv;obtain⟨u,hu,rfl⟩:=hv;exact hV _ _ _ (hi.frm t u hu)
theorem Tr.weaken {f:FuncId}{args:List AVal}{H:aS}{Q Q':Nat->AVal->aS->Prop}(h:Tr P Γ f k args H Q')
 (hq:∀k' r H',k<=k'->Q' k' r H'->∃k1 r1 H1,k<=k1/\VLe r r1/\(∀id B,look H1 id=some B->∃C,look H' id=some C/\BLe C B)/\(k1=k'\/(bd (kW k1) r1=true/\rG (kW k1) H1=true))/\Q k1 r1 H1):Tr P Γ f k args H Q:=by
 intro A hA w G ρ cargs h1 h2;refine(h A hA w G ρ cargs h1 h2).mono ?_;rintro e w' ⟨cv,G',ρ',k',r,H',rfl,hQ,hk,hrel,hv,hst⟩;obtain⟨k1,r1,H1,hk1,hle,hH,hb,hQ1⟩:=hq k' r H' hk hQ
 have hi:Inv Γ 1 w' G' ρ' (jA A k k') {tmps:= #[cv],defers:=[]} [(0,r)] H':=⟨hrel,rfl,rfl,λ t v hv'=>by
  simp only[look]at hv';split at hv';.rename_i he;subst he;cases hv';exact hv
  cases hv'⟩
 have hw:WkG k k' [(0,r)] H' k1 [(0,r1)] H1:=⟨hk1,λ t v hv'=>by
  simp only[look]at hv'⊢
  split at hv';.rename_i he;cases hv';exact⟨r,by rw[if_pos he],hle⟩
  exact absurd hv' (by simp),hH,hb.imp id (λ h=>⟨by simp[bdF,h.1],h.2⟩)⟩
 obtain⟨ρ1,hi1,hs1⟩:=hw.inv hi;exact⟨cv,G',ρ1,k1,r1,H1,rfl,hQ1,hk1,hi1.rel,hi1.frm 0 r1 (by simp[look]),hst.trans (hs1 (kN k)) (λ _ h=>h)⟩
def Pure(P:Program)(Γ:List (Nat×List AVal))(f:FuncId)(args:List AVal)(r:AVal):Prop:=∀k,Tr P Γ f k args [] (λ k1 r1 H1=>k1=k/\r1=r/\H1=[])
theorem aMG{f:FuncId}{fn:Func}{c:Code}{args:List AVal}{r:AVal}(hf:P.funcs[f]? =some fn)(hb:fn.body=some c)(hn:args.length<=fn.ntmps)(hr:bd (λ _=>false) r=true)
 (h:∀k,W P Γ fn.ntmps k c (yD P fn (λ _ r1 _=>VLe r1 r)) k (uX 0 args) []):Pure P Γ f args r:=λ k=>by
 refine(JZ hf hb hn (h k)).weaken λ k' r1 H' hk hle=>⟨k,r,[],aF _,hle,λ id B hB=>by simp[look]at hB,.inr ⟨?_,rfl⟩,rfl,rfl,rfl⟩
 have mono0:∀v,iC (λ _=>false) v=true->iC (kW k) v=true:=λ v hv=>by cases v<;>simp_all [iC]
 have mono1:∀v,JX (λ _=>false) v=true->JX (kW k) v=true:=λ v hv=>by
  cases v with
  |agg cs=>exact aW.2 λ x hx=>mono0 x (aW.1 hv x hx)
  |fn f cs=>exact aW.2 λ x hx=>mono0 x (aW.1 hv x hx)
  |_=>simp_all [JX,iC]
 cases r with
 |tup cs=>exact aW.2 λ x hx=>mono1 x (aW.1 hr x hx)
 |agg cs=>exact mono1 (.agg cs) hr
 |fn f cs=>exact mono1 (.fn f cs) hr
 |_=>simp_all [bd,JX,iC]
end
def fJ(P:Program)(t:TypeId):Bool:=match P.underlying t with|some (.struct _)=>true|_=>false
def aED(P:Program)(t:TypeId):Option (Nat×Nat×Bool):=
 match P.underlying t with
 | some (.array n e)=>match oK P e,iS P e with
   |some s,some ag=>some (n,s,ag)
   |_,_=>none
 |_=>none
def pF(k:Nat)(v:AVal):Out:=⟨v,k,[],[]⟩
def pK(P:Program)(get:Nat->Option Blk)(k t:Nat)(x y:Option AVal):Option Out:=
 match x,y with
 |some (.rd s n f),some (.lit (.int _ i))=>if CD P t=some s/\0<=i/\i<n then some ⟨.rp (f i.toNat),k,[],[]⟩else none
 | some (.sl id r n),some (.lit (.int _ i))=>match get id with
   |some B=>if CD P t=some B.sz/\0<=i/\i<n then some ⟨.ptr id (r+i.toNat) 0,k,[],[id]⟩else none
   |none=>none
 | some (.rp cells),some (.lit (.int _ i))=>match BT P t with
   |some (m,s)=>if 0<=i/\i<m then some ⟨.rp (cells.drop (i.toNat*s)),k,[],[]⟩else none
   |none=>none
 | some (.ptr id r c),some (.lit (.int _ i))=>match BT P t,get id with
   |some (m,s),some B=>if 0<=i/\i<m then some ⟨if B.sz=s/\c=0 then .ptr id (r+i.toNat) 0 else .ptr id r (c+i.toNat*s),k,[],[id]⟩else none
   |_,_=>none
 |_,_=>none
def FJ(P:Program)(get:Nat->Option Blk)(k t:Nat)(x:Option AVal):Option Out:=
 match iS P t,oK P t,x with
 |some ag,some n,some (.rp cells)=>(gD ag n cells 0).map (pF k)
 | some ag,some n,some (.ptr id r c)=>match get id with
   | some B=>if r=0/\c=0/\B.sz<n then(gD ag n B.rows.flatten 0).map λ v=>⟨v,k,[],[id]⟩else match B.rows[r]? with
     |some row=>(gD ag n row c).map λ v=>⟨v,k,[],[id]⟩
     |none=>none
   |none=>none
 |_,_,_=>none
def HL(P:Program)(get:Nat->Option Blk)(k t:Nat)(x y:Option AVal):Option Out:=
 match oK P t,x,y.bind uZ with
 | some n,some (.ptr id r c),some cells=>match get id with
   | some B=>if r=0/\c=0/\B.sz<n then(if cells.length=n/\cells.all one=true/\0<B.sz/\n=B.rows.length*B.sz then some ⟨.junk,k,[(id,some ⟨B.sz,cells.all clean,oP B.sz B.rows.length cells⟩)],[id]⟩else none)else match B.rows[r]? with
     |some row=>if cells.length=n/\cells.all one=true/\c+n<=row.length then some ⟨.junk,k,[(id,some ⟨B.sz,B.pure&&cells.all clean,B.rows.set r (kZ row cells c)⟩)],[id]⟩else none
     |none=>none
   |none=>none
 |_,_,_=>none
def NX(P:Program)(k t:Nat)(parts:Option (List (Nat×AVal))):Option Out:=
 match gS P t,parts with
 | some cells,some vs=>
   if fJ P t then match gT P t with
    |some pl=>(CM (pl[·]?) cells vs).map λ cs=>pF k (.agg cs)
    |none=>none
   else match aED P t with
    |some (_,s,_)=>(CM (λ i=>some (i*s,s)) cells vs).map λ cs=>pF k (.agg cs)
    |none=>none
 |_,_=>none
def rY(P:Program)(k t len:Nat)(parts:Option (List (Nat×AVal))):Option Out:=
 match iB P t,parts with
 | some (s,_,zrow),some vs=>match CM (λ i=>some (i*s,s)) (eI len zrow).flatten vs with
   |some cells=>if len*s<=16777216/\cells.length=len*s then some ⟨.sl k 0 len,k+1,[(k,some ⟨s,cells.all clean,oP s len cells⟩)],[]⟩else none
   |none=>none
 |_,_=>none
def ZU(P:Program)(k t:Nat)(x y:Option AVal):Option Out:=
 match iB P t,x,y with
 | some (s,by',zrow),some (.lit (.int _ l)),some (.lit (.int _ c))=>
   if 0<=l/\l<=c/\(by':Int)*c<=281474976710656/\c<=9223372036854775807 then some ⟨.sl k 0 l.toNat,k+1,[(k,some ⟨s,true,eI l.toNat zrow⟩)],[]⟩else none
 |_,_,_=>none
def xW(get:Nat->Option Blk):AVal->Option (Nat×Nat×List (List AVal)×Bool×List Nat)
 | .rd s m f=>some (s,m,(aM m).map f,true,[])
 | .sl id r m=>match get id with
   |some B=>if r+m<=B.rows.length then some (B.sz,m,(B.rows.drop r).take m,B.pure,[id])else none
   |none=>none
 | .lit (.slice none 0 0)=>some (0,0,[],true,[])
 |_=>none
def iP(P:Program)(get:Nat->Option Blk)(k t:Nat)(x y:Option AVal):Option Out:=
 match iB P t,x,y.bind (xW get)with
 | some (s,by',_),some (.lit (.slice none 0 0)),some (s',m,rows,p,ids)=>
   if m=0 then some ⟨.lit (.slice none 0 0),k,[],ids⟩
   else if s'=s/\0<m/\m<=9223372036854775807/\m*by'<=140737488355328/\(rows.all λ row=>row.all one)=true then some ⟨.sl k 0 m,k+1,[(k,some ⟨s,p,rows⟩)],ids⟩else none
 | some (s,by',_),some (.sl id 0 n),some (s',m,rows,p,ids)=>match get id with
   | some B=>
     if m=0 then some ⟨.sl id 0 n,k,[],id::ids⟩
     else if s'=s/\B.sz=s/\B.rows.length=n/\id<k/\0<m/\n+m<=9223372036854775807/\(n+m)*by'<=140737488355328/\(rows.all λ row=>row.all one)=true then
      some ⟨.sl k 0 (n+m),k+1,[(k,some ⟨s,B.pure&&p,B.rows++rows⟩),(id,none)],id::ids⟩else none
   |none=>none
 |some _,some (.rd s1 n f),some (_,m,_,_,ids)=>if m=0 then some ⟨.rd s1 n f,k,[],ids⟩else none
 |_,_,_=>none
def aCD(op:BinOp)(k:IntKind)(a b:Int):Option Value:=
 match op with
 | .add=>some (.int k (k.wrap (a+b)))
 | .sub=>some (.int k (k.wrap (a-b)))
 | .mul=>some (.int k (k.wrap (a*b)))
 | .quo=>if b=0 then none else some (.int k (k.wrap (a.tdiv b)))
 | .rem=>if b=0 then none else some (.int k (a.tmod b))
 | .and=>some (.int k (k.wrap (BitVec.ofInt k.bits a&&&BitVec.ofInt k.bits b).toNat))
 | .or=>some (.int k (k.wrap (BitVec.ofInt k.bits a|||BitVec.ofInt k.bits b).toNat))
 | .xor=>some (.int k (k.wrap (BitVec.ofInt k.bits a^^^BitVec.ofInt k.bits b).toNat))
 | .andNot=>some (.int k (k.wrap (BitVec.ofInt k.bits a&&& ~~~(BitVec.ofInt k.bits b)).toNat))
 | .eql=>some (.bool (a==b))
 | .neq=>some (.bool (a !=b))
 | .lss=>some (.bool (decide (a<b)))
 | .leq=>some (.bool (decide (a<=b)))
 | .gtr=>some (.bool (decide (b<a)))
 | .geq=>some (.bool (decide (b<=a)))
 |_=>none
def aFG(op:BinOp)(k:IntKind)(a b:Int):Option Value:=
 match op with
 | .shl=>if b<0 then none else some (.int k (k.wrap (a*2^min b.toNat k.bits)))
 | .shr=>if b<0 then none else some (.int k (a.fdiv (2^min b.toNat k.bits)))
 |_=>none
def aAT(op:BinOp)(x y:ByteArray):Option Value:=
 match op with
 | .add=>if((x.size+y.size:Nat):Int)>9223372036854775807 then none else some (.string (x++y))
 | .eql=>some (.bool (x.toList==y.toList))
 | .neq=>some (.bool !(x.toList==y.toList))
 | .lss=>some (.bool (Op.bytesLess x.toList y.toList))
 | .leq=>some (.bool (Op.bytesLess x.toList y.toList||x.toList==y.toList))
 | .gtr=>some (.bool !(Op.bytesLess x.toList y.toList||x.toList==y.toList))
 | .geq=>some (.bool !Op.bytesLess x.toList y.toList)
 |_=>none
def JO:BinOp->Bool
 | .shl=>true
 | .shr=>true
 |_=>false
def aLN(P:Program)(op:BinOp)(t:TypeId)(a b:Value):Option Value:=
 match a,b with
 | .int k x,.int k' y=>if JO op then aFG op k x y else if k=k' then aCD op k x y else none
 | .string x,.string y=>aAT op x y
 | .bool x,.bool y=>if DV P t=some 1 then(match op with| .eql=>some (.bool (x==y))| .neq=>some (.bool !(x==y))|_=>none)else none
 | .pointer none,.pointer none=>if yE P t=some 0 then(match op with| .eql=>some (.bool true)| .neq=>some (.bool false)|_=>none)else none
 | .slice none _ _,.slice none _ _=>if yE P t=some 1 then(match op with| .eql=>some (.bool true)| .neq=>some (.bool false)|_=>none)else none
 |_,_=>none
def xE(P:Program)(t:TypeId):Option IntKind:=match P.underlying t with|some (.int k)=>some k|_=>none
def pG(P:Program)(t:TypeId):Bool:=match P.underlying t with|some .string=>true|_=>false
def unV(op:UnOp)(a:Value):Option Value:=
 match op,a with
 | .not,.bool b=>some (.bool !b)
 | .neg,.int k n=>some (.int k (k.wrap (0-n)))
 |_,_=>none
def NW(P:Program)(ev:Operand->Option AVal)(get:Nat->Option Blk)(k t:Nat)(x:Operand)(lo hi:Option Operand):Option Out:=
 match ev x with
 | some (.rd s n f)=>match bound ev lo 0,bound ev hi n with
   |some l,some h=>if CD P t=some s/\0<=l/\l<=h/\h<=n then some ⟨.rd s (h.toNat-l.toNat) (λ i=>f (l.toNat+i)),k,[],[]⟩else none
   |_,_=>none
 | some (.sl id r n)=>match get id,bound ev lo 0,bound ev hi n with
   |some B,some l,some h=>if CD P t=some B.sz/\0<=l/\l<=h/\h<=n then some ⟨.sl id (r+l.toNat) (h.toNat-l.toNat),k,[],[id]⟩else none
   |_,_,_=>none
 | some (.lit (.string str))=>match bound ev lo 0,bound ev hi str.size with
   |some l,some h=>if pG P t=true/\0<=l/\l<=h/\h<=str.size then some (pF k (.lit (.string (str.extract l.toNat h.toNat))))else none
   |_,_=>none
 | some (.ptr id r c)=>match get id,BT P t,lo,hi with
   |some B,some (n,s),none,none=>if r=0/\c=0/\B.sz=s/\B.rows.length=n/\0<s/\n<=281474976710656 then some ⟨.sl id 0 n,k,[],[id]⟩else none
   |_,_,_,_=>none
 |_=>none
def MD:AVal->Bool
 | .agg _=>true
 |_=>false
def NV:AVal->List AVal
 | .agg cs=>cs
 |_=>[]
def aEq(P:Program)(get:Nat->Option Blk)(k t:Nat)(neg:Bool)(v z:AVal):Option Out:=
 if MD v&&MD z then
  match sI P t,mY (NV v),mY (NV z)with
  |some offs,some xs,some ys=>(sX xs ys offs).map λ p=>pF k (.lit (.bool (if neg then !p else p)))
  |_,_,_=>none
 else if pD z&&dN get v then
  if yE P t=some (dR v)/\yE P t=some (dR z)then some ⟨.lit (.bool neg),k,[],CK v⟩else none
 else if pD v&&dN get z then
  if yE P t=some (dR v)/\yE P t=some (dR z)then some ⟨.lit (.bool neg),k,[],CK z⟩else none
 else none
def AG:BinOp->Option Bool
 | .eql=>some false
 | .neq=>some true
 |_=>none
def pO(k:Nat):Option AVal->Option Out
 |some v=>some (pF k v)
 |none=>none
def aFK(k:Nat)(c x y:Option AVal):Option Out:=
 match c with
 |some (.lit (.bool t))=>pO k (if t=true then x else y)
 |_=>none
def aPI(get:Nat->Option Blk)(k:Nat):Option AVal->Option Out
 |some (.rp c)=>some (pF k (.rp c))
 |some (.ptr i r c)=>if(get i).isSome=true then some ⟨.ptr i r c,k,[],[i]⟩else none
 |_=>none
def MR(get:Nat->Option Blk)(k:Nat)(off:Option Nat)(x:Option AVal):Option Out:=
 match off,x with
 |some off,some (.rp cells)=>some (pF k (.rp (cells.drop off)))
 |some off,some (.ptr i r c)=>if(get i).isSome=true then some ⟨.ptr i r (c+off),k,[],[i]⟩else none
 |_,_=>none
def aBS(P:Program)(k t:Nat):Option (List AVal)->Option Out
 |some cells=>some ⟨.ptr k 0 0,k+1,[(k,some (AA P t cells))],[]⟩
 |none=>none
def JS(k:Nat)(fa:Option (Nat×Nat×Bool))(x:Option AVal):Option Out:=
 match fa,x with
 |some (off,n,ag),some (.agg cells)=>pO k (gD ag n cells off)
 |_,_=>none
def TP(P:Program)(k t:Nat)(x y:Option AVal):Option Out:=
 match x,y with
 | some (.agg cells),some (.lit (.int _ i))=>match aED P t with
   |some (m,s,ag)=>if 0<=i/\i<m then pO k (gD ag s cells (i.toNat*s))else none
   |none=>none
 |some (.lit (.string str)),some (.lit (.int _ i))=>if pG P t=true/\0<=i/\i<str.size then some (pF k (.lit (.int .u8 ((str.data.toList.getD i.toNat 0).toNat))))else none
 |_,_=>none
def ET(k:Nat)(x:Option AVal)(i:Nat):Option Out:=
 match x with
 |some (.tup vs)=>pO k (vs[i]?)
 |_=>none
def aXZ(k:Nat)(f:FuncId):Option (List AVal)->Option Out
 |some vs=>some (pF k (.fn f vs))
 |none=>none
def bEV(k:Nat)(f:FuncId):Option AVal->Option Out
 |some (.ptr i r c)=>some (pF k (.bfn f i r c))
 |_=>none
def AF(P:Program)(get:Nat->Option Blk)(k t:Nat)(x:Option AVal):Option Out:=
 match x with
 |some (.rd _ n _)=>if fN P t=true then some (pF k (.lit (.int .i64 n)))else none
 |some (.sl id _ n)=>if fN P t=true/\(get id).isSome=true then some ⟨.lit (.int .i64 n),k,[],[id]⟩else none
 |some (.lit (.string str))=>if pG P t=true then some (pF k (.lit (.int .i64 str.size)))else none
 |some (.lit (.slice none 0 0))=>if fN P t=true then some (pF k (.lit (.int .i64 0)))else none
 |_=>none
def aEA(P:Program)(get:Nat->Option Blk)(k:Nat)(op:BinOp)(t:TypeId)(x y:Option AVal):Option Out:=
 match x,y with
 |some (.lit a),some (.lit b)=>pO k ((aLN P op t a b).map .lit)
 | some v,some z=>match AG op with
   |some neg=>aEq P get k t neg v z
   |none=>none
 |_,_=>none
def unO(k:Nat)(op:UnOp)(x:Option AVal):Option Out:=
 match x with
 |some (.lit a)=>pO k ((unV op a).map .lit)
 |_=>none
def aHF(k:Nat)(src dst:Option IntKind)(st:Bool)(x:Option AVal):Option Out:=
 match src,dst,x with
 |some _,some k',some (.lit (.int _ n))=>some (pF k (.lit (.int k' (k'.wrap n))))
 |some _,none,some (.lit (.int _ n))=>if st=true then some (pF k (.lit (.string (Utf8.encode n))))else none
 |_,_,_=>none
def aPS(k:Nat)(x y:Option AVal):Option Out:=
 match x,y with
 |some (.lit (.int k1 a)),some (.lit (.int k2 b))=>if k1=k2 then some (pF k (.lit (.int k1 (if b>a then b else a))))else none
 |_,_=>none
def a6Z(k:Nat)(x y:Option AVal):Option Out:=
 match x,y with
 |some (.lit (.int k1 a)),some (.lit (.int k2 b))=>if k1=k2 then some (pF k (.lit (.int k1 (if b<a then b else a))))else none
 |_,_=>none
def aHK(args:Array Operand)(f:Operand->Option Out):Option Out:=
 match args.toList with
 |[x]=>f x
 |_=>none
def RU(args:Array Operand)(f:Operand->Operand->Option Out):Option Out:=
 match args.toList with
 |[x,y]=>f x y
 |_=>none
def BV(P:Program)(_Γ:List (Nat×List AVal))(o:Oper)(ev:Operand->Option AVal)(get:Nat->Option Blk)(k:Nat):Option Out:=
 match o.op with
 | .move x=>pO k (ev x)
 | .assign x=>pO k (ev x)
 | .pick c x y=>aFK k (ev c) (ev x) (ev y)
 | .nilCheck x=>aPI get k (ev x)
 | .fieldAddr s x f=>MR get k (bT P s f) (ev x)
 | .indexAddr t x y=>pK P get k t (ev x) (ev y)
 | .load t x=>FJ P get k t (ev x)
 | .store t x y=>HL P get k t (ev x) (ev y)
 | .alloc t=>aBS P k t (gS P t)
 | .box t x=>aBS P k t ((ev x).bind uZ)
 | .build t parts=>NX P k t (mL ev parts.toList)
 | .buildSlice t len parts=>rY P k t len (mL ev parts.toList)
 | .makeSlice t x y=>ZU P k t (ev x) (ev y)
 | .slice t x lo hi none=>NW P ev get k t x lo hi
 | .field s x f=>JS k (fieldAt P s f) (ev x)
 | .index t x y=>TP P k t (ev x) (ev y)
 | .extract x i=>ET k (ev x) i
 | .makeFunc (.func f) first caps=>if first.size=0 then aXZ k f (rF ev caps.toList)else if caps.size=0 then aHK first λ x=>bEV k f (ev x)else none
 | .call {callee:= .builtin .len,args:=args,argTypes:=ty}=>if ty.size=0 then none else aHK args λ x=>AF P get k (ty.toList.headD 0) (ev x)
 | .call {callee:= .builtin .append,args:=args,argTypes:=ty}=>RU args λ x y=>if ty.toList=[ty.toList.headD 0,ty.toList.headD 0]then iP P get k (ty.toList.headD 0) (ev x) (ev y)else none
 | .call {callee:= .builtin .max,args:=args,argTypes:=_}=>RU args λ x y=>aPS k (ev x) (ev y)
 | .call {callee:= .builtin .min,args:=args,argTypes:=_}=>RU args λ x y=>a6Z k (ev x) (ev y)
 | .binOp op t x y _=>aEA P get k op t (ev x) (ev y)
 | .unOp op _ x=>unO k op (ev x)
 | .convert src dst x=>aHF k (xE P src) (xE P dst) (pG P dst) (ev x)
 |_=>none
section
variable{P:Program}{Γ:List (Nat×List AVal)}{o:Oper}{ev:Operand->Option AVal}{get:Nat->Option Blk}{k:Nat}
theorem Good.quiet {v:AVal}(h:OpOk P Γ o ev get k ⟨v,k,[],[]⟩):Good P Γ o ev get k (pF k v):=⟨h,λ id hid=>by simp[pF]at hid,aF _⟩
theorem RT{t n s:Nat}{ag:Bool}(h:aED P t=some (n,s,ag)):∃e,P.underlying t=some (.array n e)/\oK P e=some s/\iS P e=some ag:=by
 unfold aED at h;split at h
 .rename_i m e hu;split at h;.rename_i s' ag' h1 h2;cases h;exact⟨e,hu,h1,h2⟩
  cases h
 cases h
theorem JA{t:Nat}{x y:Operand}{out:Out}(ho:o.op= .indexAddr t x y)(h:pK P get k t (ev x) (ev y)=some out):Good P Γ o ev get k out:=by
 unfold pK at h;split at h
 .rename_i s n f kk i hx hy;split at h;.rename_i hc;cases h;exact⟨YD ho hc.1 hx hy hc.2.1 hc.2.2,λ id hid=>by simp at hid,aF _⟩
  cases h
 .rename_i id r n kk i hx hy;split at h
  .rename_i B hB;split at h;.rename_i hc;cases h;exact⟨YB ho hc.1 hx hy hB rfl hc.2.1 hc.2.2,λ id' hid=>by simp at hid;rw[hid,hB];rfl,aF _⟩
   cases h
  cases h
 .rename_i cells kk i hx hy;split at h
  .rename_i m s ha;split at h;.rename_i hc;cases h;exact⟨YC ho ha hx hy hc.1 hc.2,λ id hid=>by simp at hid,aF _⟩
   cases h
  cases h
 .rename_i id r c kk i hx hy;split at h
  .rename_i m s B ha hB;split at h;.rename_i hc;cases h;exact⟨TN ho ha hx hy hB hc.1 hc.2,λ id' hid=>by simp at hid;rw[hid,hB];rfl,aF _⟩
   cases h
  cases h
 cases h
theorem aEP{t:Nat}{x:Operand}{out:Out}(ho:o.op= .load t x)(h:FJ P get k t (ev x)=some out):Good P Γ o ev get k out:=by
 unfold FJ at h;split at h;.rename_i ag n cells h1 h2 hx;simp only[aB]at h;obtain⟨v,hv,rfl⟩:=h;exact .quiet (aCA ho h1 h2 hx hv)
 .rename_i ag n id r c h1 h2 hx;split at h
  .rename_i B hB;split at h;.rename_i hc;obtain⟨rfl,rfl,_⟩:=hc;simp only[aB]at h;obtain⟨v,hv,rfl⟩:=h;exact⟨XT ho h1 h2 hx hB hv,λ id' hid=>by simp at hid;rw[hid,hB];rfl,aF _⟩
   split at h;.rename_i row hrow;simp only[aB]at h;obtain⟨v,hv,rfl⟩:=h;exact⟨XS ho h1 h2 hx hB hrow hv,λ id' hid=>by simp at hid;rw[hid,hB];rfl,aF _⟩
   cases h
  cases h
 cases h
theorem ZS{t:Nat}{x y:Operand}{out:Out}(ho:o.op= .store t x y)(h:HL P get k t (ev x) (ev y)=some out):Good P Γ o ev get k out:=by
 unfold HL at h;split at h
 .rename_i n id r c cells h1 hx hy;obtain⟨v,hv,hc⟩:=bX.1 hy;split at h
  .rename_i B hB;split at h
   .rename_i hz;obtain⟨rfl,rfl,_⟩:=hz;split at h;.rename_i hcond;cases h;exact⟨SN ho h1 hx hv hc hcond.1 hcond.2.1 hB hcond.2.2.1 hcond.2.2.2,λ id' hid=>by simp at hid;rw[hid,hB];rfl,aF _⟩
    cases h
   split at h
   .rename_i row hrow;split at h;.rename_i hcond;cases h;exact⟨aNL ho h1 hx hv hc hcond.1 hcond.2.1 hB hrow hcond.2.2,λ id' hid=>by simp at hid;rw[hid,hB];rfl,aF _⟩
    cases h
   cases h
  cases h
 cases h
theorem ZV{t:Nat}{parts:Array (Nat×Operand)}{out:Out}(ho:o.op= .build t parts)(h:NX P k t (mL ev parts.toList)=some out):Good P Γ o ev get k out:=by
 unfold NX at h;split at h
 .rename_i cells vs h1 h2;split at h
  .rename_i hs;split at h
   .rename_i pl hpl;simp only[aB]at h;obtain⟨cs,hc,rfl⟩:=h;refine .quiet (aTK ho h1 hpl ?_ h2 hc);unfold fJ at hs;split at hs;.exact⟨_,‹_›⟩
    cases hs
   cases h
  split at h;.rename_i n s ag ha;simp only[aB]at h;obtain⟨cs,hc,rfl⟩:=h;obtain⟨e,hu,hs,_⟩:=RT ha;exact .quiet (UX ho h1 hu hs h2 hc)
  cases h
 cases h
theorem HN{t len:Nat}{parts:Array (Nat×Operand)}{out:Out}(ho:o.op= .buildSlice t len parts)(h:rY P k t len (mL ev parts.toList)=some out):Good P Γ o ev get k out:=by
 unfold rY at h;split at h
 .rename_i s by' zrow vs h1 h2;split at h
  .rename_i cells hc;split at h;.rename_i hcond;cases h;exact⟨OY ho h1 hcond.1 h2 hc hcond.2,λ id hid=>by simp at hid,PH _⟩
   cases h
  cases h
 cases h
theorem aEO{t:Nat}{x y:Operand}{out:Out}(ho:o.op= .makeSlice t x y)(h:ZU P k t (ev x) (ev y)=some out):Good P Γ o ev get k out:=by
 unfold ZU at h;split at h
 .rename_i s by' zrow kl l kc c h1 hx hy;split at h;.rename_i hc;cases h;exact⟨aXF ho h1 hx hy hc.1 hc.2.1 hc.2.2.1 hc.2.2.2,λ id hid=>by simp at hid,PH _⟩
  cases h
 cases h
theorem HM{v:AVal}{s m:Nat}{rows:List (List AVal)}{p:Bool}{ids:List Nat}(h:xW get v=some (s,m,rows,p,ids)):SrcA get v s m rows p ids/\∀id,id∈ids->(get id).isSome=true:=by
 unfold xW at h;split at h;.cases h;exact⟨.rd,λ id hid=>by simp at hid⟩
 .split at h
  .rename_i B hB;split at h;.rename_i hle;cases h;exact⟨.sl hB hle,λ id hid=>by simp at hid;rw[hid,hB];rfl⟩
   cases h
  cases h
 .cases h;exact⟨.nil,λ id hid=>by simp at hid⟩
 cases h
theorem VG{t:Nat}{x y:Operand}{out:Out}(ho:o.op= .call {callee:= .builtin .append,args:= #[x,y],argTypes:= #[t,t]})(h:iP P get k t (ev x) (ev y)=some out):Good P Γ o ev get k out:=by
 unfold iP at h;split at h
 .rename_i s by' z s' m rows p ids h1 hx hy;obtain⟨v,hv,hs⟩:=bX.1 hy;obtain⟨hsrc,hpres⟩:=HM hs;split at h;.rename_i hm;subst hm;cases h;exact⟨DK (xF:=[]) ho h1 hx hv (.inl ⟨rfl,rfl⟩) hsrc,hpres,aF _⟩
  split at h;.rename_i hc;cases h;obtain⟨rfl,c2,c3,c4,c5⟩:=hc;exact⟨OZ ho h1 hx hv hsrc c2 c3 c4 c5,hpres,PH _⟩
  cases h
 .rename_i s by' z id n s' m rows p ids h1 hx hy;obtain⟨v,hv,hs⟩:=bX.1 hy;obtain⟨hsrc,hpres⟩:=HM hs;split at h
  .rename_i B hB;split at h
   .rename_i hm;subst hm;cases h
    exact⟨DK (xF:=[id]) ho h1 hx hv (.inr (.inr ⟨id,0,n,rfl,rfl,by rw[hB];rfl⟩)) hsrc,λ id' hid=>by
     rcases jK.1 hid with h|h;.rw[h,hB];rfl
     exact hpres id' h,aF _⟩
   split at h
   .rename_i hc;cases h;obtain⟨rfl,c2,c3,c4,c5,c6,c7,c8⟩:=hc
    exact⟨VD ho h1 hx hB c2 c3 c4 hv hsrc c5 c6 c7 c8,λ id' hid=>by
     rcases jK.1 hid with h|h;.rw[h,hB];rfl
     exact hpres id' h,PH _⟩
   cases h
  cases h
 .rename_i xx s1 n f s' m rows p ids h1 hx hy;obtain⟨s,by',z⟩:=xx;obtain⟨v,hv,hs⟩:=bX.1 hy;obtain⟨hsrc,hpres⟩:=HM hs;split at h;.rename_i hm;subst hm;cases h;exact⟨DK (xF:=[]) ho h1 hx hv (.inr (.inl ⟨s1,n,f,rfl,rfl⟩)) hsrc,hpres,aF _⟩
  cases h
 cases h
theorem vR{t:Nat}(h:pG P t=true):P.underlying t=some .string:=by
 unfold pG at h;split at h;.assumption
 cases h
theorem SQ{t:Nat}{x:Operand}{lo hi:Option Operand}{str:ByteArray}{l h:Int}(ho:o.op= .slice t x lo hi none)(ht:pG P t=true)(hx:ev x=some (.lit (.string str)))(hl:bound ev lo 0=some l)(hh:bound ev hi str.size=some h)
 (h0:0<=l) (h1:l<=h) (h2:h<=str.size):OpOk P Γ o ev get k ⟨.lit (.string (str.extract l.toNat h.toNat)),k,[],[]⟩:=by
 refine cE λ w G ρ H A a hr _ hop=>⟨.string (str.extract l.toNat h.toNat),?_,.lit⟩;have ex:a.eval x= .string str:=gV (hop x (by simp[ho,Op.operands]) _ hx);have el:=nC (w:=w) (G:=G) (ρ:=ρ) (A:=A) (a:=a) hl (λ y hy v hv=>hop y (by simp[ho,Op.operands,hy]) v hv);have eh:=nC (w:=w) (G:=G) (ρ:=ρ) (A:=A) (a:=a) hh (λ y hy v hv=>hop y (by simp[ho,Op.operands,hy]) v hv);have hu:=vR ht
 have hb:(Instr.sliceBounds false str.size str.size (lo.map a.eval) (hi.map a.eval) none).run P w= .ok (l.toNat,h.toNat,str.size) w:=by
  have q1:(0:Int)<=h/\h<=(str.size:Int):=⟨oO,oO⟩;have q3:(0:Int)<=l/\l<=(h.toNat:Int):=⟨h0,oO⟩;rcases el with⟨e1,rfl⟩|⟨kl,e1⟩<;>rcases eh with⟨e2,rfl⟩|⟨kh,e2⟩<;>rw[e1,e2];.simp[Instr.sliceBounds]
  .simp[Instr.sliceBounds,Instr.sliceBound,asIntOf,q1]
  .have q2:(0:Int)<=l/\l<=(str.size:Int):=⟨h0,h1⟩;simp[Instr.sliceBounds,Instr.sliceBound,asIntOf,q2]
  simp only[Instr.sliceBounds,Instr.sliceBound,asIntOf,bO,dP,bI,q1,and_self,if_true,q3]
 simp only[execOp,ho,ex,oC,Instr.sliceAt,underlying,bO,run_program,bI,hu,dP,Instr.slice];simp[hb]
theorem aOQ{w:World}{G:Nat->Prop}{ρ:cM}{A:bU}{B:Blk}{C:Array Value}(hrows:∀r row c v,B.rows[r]? =some row->row[c]? =some v->∃cv,C[r*B.sz+c]? =some cv/\V w G ρ A v cv)
 (hlen:∀(r:Nat) row,B.rows[r]? =some row->row.length=B.sz):B.rows.length*B.sz<=C.size:=by
 by_cases h0:B.rows.length*B.sz=0;.omega
 have hr:0<B.rows.length:=a0R λ e=>h0 (by rw[e];simp);have hs:0<B.sz:=a0R λ e=>h0 (by rw[e];simp);obtain⟨row,v,h1,h2⟩:=JG (s:=B.sz) (r:=B.rows.length-1) (c:=B.sz-1) hlen oO oO;obtain⟨cu,h3,_⟩:=hrows _ row _ v h1 h2;have h4:=(cZ.1 h3).1;have:B.rows.length*B.sz=(B.rows.length-1)*B.sz+B.sz:=by have e1:B.rows.length=(B.rows.length-1)+1:=oO;rw[e1,cX];simp
 omega
theorem SS{t n s id:Nat}{x:Operand}{B:Blk}(ho:o.op= .slice t x none none none)(ha:BT P t=some (n,s))(hx:ev x=some (.ptr id 0 0))(hB:get id=some B)(hs:B.sz=s)(hn:B.rows.length=n)
 (hm:n<=281474976710656):OpOk P Γ o ev get k ⟨.sl id 0 n,k,[],[id]⟩:=by
 refine cE λ w G ρ H A a hr hrd hop=>?_;have hvx:=hop x (by simp[ho,Op.operands]) _ hx;obtain⟨B',A',h3,hH,_⟩:=hrd id (by simp);rw[hB]at h3;cases h3;obtain⟨_,b,hb,_,hBR⟩:=hr.blk id B A' hH;obtain⟨e,i,hu,hi,hsz⟩:=ZQ ha;generalize hev:a.eval x=cv at hvx
 cases hvx with
 |dang _ hn'=>rw[hb]at hn';cases hn'
 |ptr ha' hρ hsh=>
  rw[hb]at hρ;cases hρ;obtain⟨⟨C,ty,hC,hrows⟩,hlen⟩:=hBR.old hsh;have hfit:=aOQ hrows hlen;refine⟨.slice (some ⟨b,0,none⟩) n n,?_,.sl ha' hb (w:=w) (ty:=ty) (m:=C.size) (by unfold World.shape?;rw[hC]) (by rw[dV,<-hn];exact hfit) (aF _) (by unfold maxLen;omega) (.inr (by simp))⟩;simp only[execOp,ho,hev,oC,Instr.sliceAt,underlying,bO,run_program,bI,hu,dP,Instr.sureAddr,Instr.sliceBounds,sizeOf,typeInfo,hi];by_cases hn0:n=0;.subst hn0;simp
  simp[hn0,Addr.add]
theorem ZT{t:Nat}{x:Operand}{lo hi:Option Operand}{out:Out}(ho:o.op= .slice t x lo hi none)(h:NW P ev get k t x lo hi=some out):Good P Γ o ev get k out:=by
 unfold NW at h;split at h
 .rename_i s n f hx;split at h
  .rename_i l hh h1 h2;split at h;.rename_i hc;cases h;exact⟨WN ho hc.1 hx h1 h2 hc.2.1 hc.2.2.1 hc.2.2.2,λ id hid=>by simp at hid,aF _⟩
   cases h
  cases h
 .rename_i id r n hx;split at h
  .rename_i B l hh hB h1 h2;split at h;.rename_i hc;cases h;exact⟨WM ho hc.1 hx hB rfl h1 h2 hc.2.1 hc.2.2.1 hc.2.2.2,λ id' hid=>by simp at hid;rw[hid,hB];rfl,aF _⟩
   cases h
  cases h
 .rename_i str hx;split at h
  .rename_i l hh h1 h2;split at h;.rename_i hc;cases h;exact .quiet (SQ ho hc.1 hx h1 h2 hc.2.1 hc.2.2.1 hc.2.2.2)
   cases h
  cases h
 .rename_i id r c hx;split at h
  .rename_i B n s hB ha;split at h;.rename_i hc;obtain⟨rfl,rfl,h1,h2,h3,h4⟩:=hc;cases h;exact⟨SS ho ha hx hB h1 h2 h4,λ id' hid=>by simp at hid;rw[hid,hB];rfl,aF _⟩
   cases h
  cases h
 cases h
theorem KX{v:AVal}(h:dN get v=true):∀id,id∈CK v->(get id).isSome=true:=λ id hid=>by
 cases v<;>simp[CK]at hid;.subst hid;exact h
 subst hid;simp only[dN,aC]at h;exact h.1
theorem aUN{op:BinOp}{t ty:Nat}{x y:Operand}{v z:AVal}{neg:Bool}{out:Out}(ho:o.op= .binOp op t x y ty)(hneg:AG op=some neg)(hx:ev x=some v)(hy:ev y=some z)(h:aEq P get k t neg v z=some out):Good P Γ o ev get k out:=by
 have ho':o.op= .binOp (if neg then .neq else .eql) t x y ty:=by
  cases op<;>simp[AG]at hneg;.subst hneg;exact ho
  subst hneg;exact ho
 unfold aEq at h;split at h
 .rename_i hagg;split at h
  .rename_i offs xs ys h1 h2 h3;simp only[aB]at h;obtain⟨p,hp,rfl⟩:=h
   cases v with
   |agg xc=>
    cases z with
    |agg yc=>exact .quiet (aRZ ho' h1 hx hy h2 h3 hp)
    |_=>simp[MD]at hagg
   |_=>simp[MD]at hagg
  cases h
 split at h
 .rename_i hc;simp only[aC]at hc;split at h;.rename_i hk;cases h;exact⟨YU ho' hk.1 (.inl ⟨hx,hy⟩) hc.2 hc.1 rfl (by rw[hk.2]at hk;exact(mB.inj hk.1)),KX hc.2,aF _⟩
  cases h
 split at h
 .rename_i hc;simp only[aC]at hc;split at h;.rename_i hk;cases h;exact⟨YU ho' hk.2 (.inr ⟨hx,hy⟩) hc.2 hc.1 rfl (by rw[hk.1]at hk;exact(mB.inj hk.2)),KX hc.2,aF _⟩
  cases h
 cases h
theorem UE{t:Nat}(ht:DV P t=some 1)(d:Nat)(x y:Bool)(w:World):(Op.equalIn (d+1) t (.bool x) (.bool y)).run P w= .ok (x==y) w:=
 HE ht (by simp[IJ]) w
theorem aTR{op:BinOp}{t:Nat}{a b v:Value}(h:aLN P op t a b=some v)(xo yo:Operand)(w:World):(do eqGuard op t xo yo a b;binOp op t a b:Sem Value).run P w= .ok v w:=by
 unfold aLN at h;split at h
 .rename_i k x k' y;have hg:(eqGuard op t xo yo (.int k x) (.int k' y)).run P w= .ok () w:=gG (by simp) (by simp) op xo yo w;rw[bO,hg,bI];split at h
  .cases op<;>simp[JO]at*
   .simp only[aFG]at h;split at h;.cases h
    rename_i hlt;cases h;simp[binOp,Op.shift,hlt]
   simp only[aFG]at h;split at h;.cases h
   rename_i hlt;cases h;simp[binOp,Op.shift,hlt]
  split at h
  .rename_i hns he;subst he
   cases op<;>simp only[aCD,JO,bM,not_true_eq_false]at h hns<;>first
    |(cases h;simp[binOp,Op.intArith,Op.intBits,Op.intCmp];done)
    |(split at h;· cases h
      · rename_i hz;cases h;simp[binOp,Op.intDiv,hz])
    |cases h
  cases h
 .rename_i x y;have hg:(eqGuard op t xo yo (.string x) (.string y)).run P w= .ok () w:=gG (by simp) (by simp) op xo yo w;rw[bO,hg,bI]
  cases op<;>simp only[aAT]at h<;>first
   |(split at h;· cases h
     · rename_i hz;cases h
       have hz':¬(((x.size+y.size:Nat):Int)>aN.max):=hz
       simp only[binOp,Op.stringOp,if_neg hz'];rfl)
   |(cases h;simp[binOp,Op.stringOp];done)
   |cases h
 .rename_i x y;have hg:(eqGuard op t xo yo (.bool x) (.bool y)).run P w= .ok () w:=gG (by simp) (by simp) op xo yo w;rw[bO,hg,bI];split at h
  .rename_i ht;have he:(Op.equal t (.bool x) (.bool y)).run P w= .ok (x==y) w:=UE ht 9999 x y w;have:=yM (P:=P) (t:=t) (x:= .bool x) (y:= .bool y) (w:=w) (by simp) he;split at h;.cases h;exact this.1
   .cases h;exact this.2
   cases h
  cases h
 .have hg:(eqGuard op t xo yo (.pointer none) (.pointer none)).run P w= .ok () w:=gG (by simp) (by simp) op xo yo w;rw[bO,hg,bI];split at h
  .rename_i ht;unfold yE at ht;split at ht<;>cases ht;rename_i e hu;have he:(Op.equal t (.pointer none) (.pointer none)).run P w= .ok true w:=UD hu 9999 w
   cases op<;>simp only[]at h<;>first
    |(cases h;simp[binOp,he];done)
    |cases h
  cases h
 .rename_i m c m' c';have hg:(eqGuard op t xo yo (.slice none m c) (.slice none m' c')).run P w= .ok () w:=gG (by simp) (by simp) op xo yo w;rw[bO,hg,bI];split at h
  .rename_i ht;unfold yE at ht;split at ht<;>cases ht;rename_i e hu;have he:(Op.equal t (.slice none m c) (.slice none m' c')).run P w= .ok true w:=YS hu 9999 m c m' c' w
   cases op<;>simp only[]at h<;>first
    |(cases h;simp[binOp,he];done)
    |cases h
  cases h
 cases h
theorem aZT{op:BinOp}{t ty:Nat}{x y:Operand}{a b v:Value}(ho:o.op= .binOp op t x y ty)(hx:ev x=some (.lit a))(hy:ev y=some (.lit b))(h:aLN P op t a b=some v):OpOk P Γ o ev get k ⟨.lit v,k,[],[]⟩:=by
 refine cE λ w G ρ H A act hr _ hop=>⟨v,?_,.lit⟩;have ex:act.eval x=a:=gV (hop x (by simp[ho,Op.operands]) _ hx);have ey:act.eval y=b:=gV (hop y (by simp[ho,Op.operands]) _ hy);have:=aTR (P:=P) h x y w;simp only[execOp,ho,ex,ey];rw[bO]at this⊢
 rw[bO,this];rfl
theorem a2K{op:UnOp}{t:Nat}{x:Operand}{a v:Value}(ho:o.op= .unOp op t x)(hx:ev x=some (.lit a))(h:unV op a=some v):OpOk P Γ o ev get k ⟨.lit v,k,[],[]⟩:=by
 refine cE λ w G ρ H A act hr _ hop=>⟨v,?_,.lit⟩;have ex:act.eval x=a:=gV (hop x (by simp[ho,Op.operands]) _ hx);unfold unV at h;split at h;.cases h;simp[execOp,ho,ex,Op.unary]
 .cases h;simp[execOp,ho,ex,Op.unary,Op.intArith]
 cases h
theorem CZ{t:Nat}{kk:IntKind}(h:xE P t=some kk):P.underlying t=some (.int kk):=by
 unfold xE at h;split at h;.cases h;assumption
 cases h
theorem aZI{src dst:Nat}{x:Operand}{k1 k2 kk:IntKind}{n:Int}(ho:o.op= .convert src dst x)(hx:ev x=some (.lit (.int k1 n)))(h1:xE P src=some k2)(h2:xE P dst=some kk):OpOk P Γ o ev get k ⟨.lit (.int kk (kk.wrap n)),k,[],[]⟩:=by refine cE λ w G ρ H A act hr _ hop=>⟨.int kk (kk.wrap n),?_,.lit⟩;have ex:act.eval x= .int k1 n:=gV (hop x (by simp[ho,Op.operands]) _ hx);simp[execOp,ho,ex,convert,run_underlying (CZ h1),run_underlying (CZ h2),Conv.intToInt]
theorem aDQ{src dst:Nat}{x:Operand}{k1 k2:IntKind}{n:Int}(ho:o.op= .convert src dst x)(hx:ev x=some (.lit (.int k1 n)))(h1:xE P src=some k2)(h2:pG P dst=true):OpOk P Γ o ev get k ⟨.lit (.string (Utf8.encode n)),k,[],[]⟩:=by refine cE λ w G ρ H A act hr _ hop=>⟨.string (Utf8.encode n),?_,.lit⟩;have ex:act.eval x= .int k1 n:=gV (hop x (by simp[ho,Op.operands]) _ hx);simp[execOp,ho,ex,convert,run_underlying (CZ h1),run_underlying (vR h2),Conv.intToString]
theorem aKE{t:Nat}{x:Operand}{str:ByteArray}{ty:Array TypeId}(ho:o.op= .call {callee:= .builtin .len,args:= #[x],argTypes:=ty})(hty:ty[0]? =some t)(ht:pG P t=true)(hx:ev x=some (.lit (.string str))):OpOk P Γ o ev get k ⟨.lit (.int .i64 str.size),k,[],[]⟩:=by refine cE λ w G ρ H A act hr _ hop=>⟨.int .i64 str.size,?_,.lit⟩;have ex:act.eval x= .string str:=gV (hop x (by simp[ho,Op.operands,Call.operands]) _ hx);simp[execOp,ho,resolve,invoke,builtin,Builtin.len_,hty,ex,run_underlying (vR ht),goInt]
theorem aKM{t:Nat}{x y:Operand}{str:ByteArray}{kk:IntKind}{i:Int}(ho:o.op= .index t x y)(ht:pG P t=true)(hx:ev x=some (.lit (.string str)))(hy:ev y=some (.lit (.int kk i)))(h0:0<=i)(h1:i<str.size):
 OpOk P Γ o ev get k ⟨.lit (.int .u8 ((str.data.toList.getD i.toNat 0).toNat)),k,[],[]⟩:=by
 refine cE λ w G ρ H A act hr _ hop=>⟨_,?_,.lit⟩;have ex:act.eval x= .string str:=gV (hop x (by simp[ho,Op.operands]) _ hx);have ey:act.eval y= .int kk i:=gV (hop y (by simp[ho,Op.operands]) _ hy);have hlt:i.toNat<str.size:=oO;have hg:str[i.toNat]? =some (str.data.toList.getD i.toNat 0):=by rw[getElem?_pos str i.toNat hlt];congr 1;rw[bD,aE (by simpa using hlt)];rfl
 simp only[execOp,ho,ex,ey,Instr.index,asIntOf,bO,dP,bI,run_underlying (vR ht),if_pos h0,hg]
theorem mV{x:Option AVal}{out:Out}(h:pO k x=some out):∃v,x=some v/\out=pF k v:=by
 cases x with
 |none=>cases h
 |some v=>cases h;exact⟨v,rfl,rfl⟩
theorem QL{x y:Operand}{ty:Array TypeId}{kk:IntKind}{a b:Int}{mx:Bool}(ho:o.op= .call {callee:= .builtin (if mx then .max else .min),args:= #[x,y],argTypes:=ty})(hx:ev x=some (.lit (.int kk a)))(hy:ev y=some (.lit (.int kk b))):
 OpOk P Γ o ev get k ⟨.lit (.int kk (if mx then(if b>a then b else a)else(if b<a then b else a))),k,[],[]⟩:=by
 refine cE λ w G ρ H A act hr _ hop=>⟨_,?_,.lit⟩;have ex:act.eval x= .int kk a:=gV (hop x (by cases mx<;>simp[ho,Op.operands,Call.operands]) _ hx);have ey:act.eval y= .int kk b:=gV (hop y (by cases mx<;>simp[ho,Op.operands,Call.operands]) _ hy);cases mx;.simp[execOp,ho,resolve,invoke,builtin,ex,ey,Builtin.min_,Builtin.min2]
 simp[execOp,ho,resolve,invoke,builtin,ex,ey,Builtin.max_,Builtin.max2]
theorem aKF{t:Nat}{x:Operand}{ty:Array TypeId}(ho:o.op= .call {callee:= .builtin .len,args:= #[x],argTypes:=ty})(hty:ty[0]? =some t)(ht:fN P t=true)(hx:ev x=some (.lit (.slice none 0 0))):OpOk P Γ o ev get k ⟨.lit (.int .i64 0),k,[],[]⟩:=by
 refine cE λ w G ρ H A act hr _ hop=>⟨.int .i64 0,?_,.lit⟩;have ex:act.eval x= .slice none 0 0:=gV (hop x (by simp[ho,Op.operands,Call.operands]) _ hx);unfold fN at ht;split at ht;.rename_i e hu;simp[execOp,ho,resolve,invoke,builtin,Builtin.len_,hty,ex,run_underlying hu,goInt]
 cases ht
theorem NS{args:Array Operand}{f:Operand->Option Out}{out:Out}(h:aHK args f=some out):∃x,args= #[x]/\f x=some out:=by
 unfold aHK at h;split at h;.rename_i x ha;exact⟨x,by rw[<-bLI (xs:=args),ha],h⟩
 cases h
theorem DJ{args:Array Operand}{f:Operand->Operand->Option Out}{out:Out}(h:RU args f=some out):∃x y,args= #[x,y]/\f x y=some out:=by
 unfold RU at h;split at h;.rename_i x y ha;exact⟨x,y,by rw[<-bLI (xs:=args),ha],h⟩
 cases h
theorem uY{out:Out}(h:BV P Γ o ev get k=some out):Good P Γ o ev get k out:=by
 unfold BV at h;split at h;.rename_i x ho;obtain⟨v,hv,rfl⟩:=mV h;exact .quiet (aFW (.inl ho) hv)
 .rename_i x ho;obtain⟨v,hv,rfl⟩:=mV h;exact .quiet (aFW (.inr ho) hv)
 .rename_i c x y ho;unfold aFK at h;split at h;.rename_i t hc;obtain⟨v,hv,rfl⟩:=mV h;exact .quiet (aWP ho hc hv)
  cases h
 .rename_i x ho;unfold aPI at h;split at h;.rename_i c hx;cases h;exact .quiet (HY ho hx (.inl ⟨c,rfl⟩))
  .rename_i i r c hx;split at h;.rename_i hi;cases h;exact⟨HY ho hx (.inr ⟨i,r,c,rfl,hi⟩),λ id hid=>by simp at hid;rw[hid];exact hi,aF _⟩
   cases h
  cases h
 .rename_i s x f ho;unfold MR at h;split at h;.rename_i off cells h1 hx;cases h;exact .quiet (ER ho h1 (.inl ⟨cells,hx,rfl⟩))
  .rename_i off i r c h1 hx;split at h;.rename_i hi;cases h;exact⟨ER ho h1 (.inr ⟨i,r,c,hx,hi,rfl⟩),λ id hid=>by simp at hid;rw[hid];exact hi,aF _⟩
   cases h
  cases h
 .rename_i t x y ho;exact JA ho h
 .rename_i t x ho;exact aEP ho h
 .rename_i t x y ho;exact ZS ho h
 .rename_i t ho;unfold aBS at h;split at h;.rename_i cells hz;cases h;exact⟨aUH ho hz,λ id hid=>by simp at hid,PH _⟩
  cases h
 .rename_i t x ho;unfold aBS at h;split at h;.rename_i cells hz;cases h;obtain⟨v,hv,hc⟩:=bX.1 hz;exact⟨a5D ho hv hc,λ id hid=>by simp at hid,PH _⟩
  cases h
 .rename_i t parts ho;exact ZV ho h
 .rename_i t len parts ho;exact HN ho h
 .rename_i t x y ho;exact aEO ho h
 .rename_i t x lo hi ho;exact ZT ho h
 .rename_i s x f ho;unfold JS at h;split at h;.rename_i off n ag cells h1 hx;obtain⟨v,hv,rfl⟩:=mV h;exact .quiet (aRV ho h1 hx hv)
  cases h
 .rename_i t x y ho;unfold TP at h;split at h
  .rename_i cells kk i hx hy;split at h
   .rename_i m s ag ha;split at h;.rename_i hc;obtain⟨v,hv,rfl⟩:=mV h;obtain⟨e,hu,hs,hg⟩:=RT ha;exact .quiet (TO ho hu hg hs hx hy hc.1 hc.2 hv)
    cases h
   cases h
  .rename_i str kk i hx hy;split at h;.rename_i hc;cases h;exact .quiet (aKM ho hc.1 hx hy hc.2.1 hc.2.2)
   cases h
  cases h
 .rename_i x i ho;unfold ET at h;split at h;.rename_i vs hx;obtain⟨v,hv,rfl⟩:=mV h;exact .quiet (aCW ho hx hv)
  cases h
 .rename_i f first caps ho
  split at h
  .rename_i hf;unfold aXZ at h;split at h
   .rename_i vs hv;cases h;have he:first= #[]:=lC hf
    subst he;obtain⟨h1,h2⟩:=AK hv;exact .quiet (XP ho (by simpa using h1) (λ j x v hx hv'=>h2 j x v (by rw[bA];exact hx) hv'))
   cases h
  split at h
  .rename_i hc0;obtain⟨x,rfl,hq⟩:=NS h;replace h:=hq;clear hq
   cases hx:ev x with
   |none=>rw[hx]at h;cases h
   |some v=>
    rw[hx]at h
    cases v with
    |ptr i r c=>cases h;refine .quiet (cE λ w G ρ H A a hr _ hop=>⟨.func (.func f) #[a.eval x] #[],?_,.bfn (hop x (by simp[ho,Op.operands]) _ hx)⟩);have:caps= #[]:=lC hc0;subst this;simp[execOp,ho,Instr.makeFunc]
    |_=>cases h
  cases h
 .rename_i args ty ho;split at h;.cases h
  rename_i hne;obtain⟨x,rfl,hq⟩:=NS h;replace h:=hq;clear hq
  have hnum:ty[0]? =some (ty.toList.headD 0):=by
   cases hl:ty.toList with
   |nil=>exact absurd (by simp[Array.toList_eq_nil_iff.1 hl]) hne
   |cons a r=>rw[<-bA,hl];rfl
  cases hx:ev x with
  |none=>rw[hx]at h;cases h
  |some v=>
   rw[hx]at h
   cases v with
   |rd s n f=>
    simp only[AF]at h;split at h;.rename_i hs;cases h;exact .quiet (aQJ ho hnum hs hx (.inl ⟨s,f,rfl⟩))
    cases h
   |sl id r n=>
    simp only[AF]at h;split at h;.rename_i hc;cases h;exact⟨aQJ ho hnum hc.1 hx (.inr ⟨id,r,rfl,hc.2⟩),λ id' hid=>by simp at hid;rw[hid];exact hc.2,aF _⟩
    cases h
   |lit u=>
    cases u with
    |string str=>
     simp only[AF]at h;split at h;.rename_i hs;cases h;exact .quiet (aKE ho hnum hs hx)
     cases h
    |slice a n c=>
     cases a with
     |some=>simp[AF]at h
     |none=>
      cases n with
      |succ=>simp[AF]at h
      |zero=>
       cases c with
       |succ=>simp[AF]at h
       |zero=>
        simp only[AF]at h;split at h;.rename_i hs;cases h;exact .quiet (aKF ho hnum hs hx)
        cases h
    |_=>simp[AF]at h
   |_=>simp[AF]at h
 .rename_i args ty ho;obtain⟨x,y,rfl,hq⟩:=DJ h;replace h:=hq;clear hq;split at h
  .rename_i ht;have htys:ty= #[ty.toList.headD 0,ty.toList.headD 0]:=by rw[<-bLI (xs:=ty)];rw[ht];simp
   generalize ty.toList.headD 0=t at h htys;subst htys;exact VG ho h
  cases h
 .rename_i args ty ho;obtain⟨x,y,rfl,hq⟩:=DJ h;replace h:=hq;clear hq;unfold aPS at h;split at h
  .rename_i k1 a k2 b hx hy;split at h;.rename_i he;subst he;cases h;exact .quiet (QL (mx:=true) ho hx hy)
   cases h
  cases h
 .rename_i args ty ho;obtain⟨x,y,rfl,hq⟩:=DJ h;replace h:=hq;clear hq;unfold a6Z at h;split at h
  .rename_i k1 a k2 b hx hy;split at h;.rename_i he;subst he;cases h;exact .quiet (QL (mx:=false) ho hx hy)
   cases h
  cases h
 .rename_i op t x y ty ho;unfold aEA at h;split at h;.rename_i a b hx hy;obtain⟨v,hv,rfl⟩:=mV h;simp only[aB]at hv;obtain⟨u,hu,rfl⟩:=hv;exact .quiet (aZT ho hx hy hu)
  .rename_i v z _ hx hy;split at h;.rename_i neg hneg;exact aUN ho hneg hx hy h
   cases h
  cases h
 .rename_i op t x ho;unfold unO at h;split at h;.rename_i a hx;obtain⟨v,hv,rfl⟩:=mV h;simp only[aB]at hv;obtain⟨u,hu,rfl⟩:=hv;exact .quiet (a2K ho hx hu)
  cases h
 .rename_i src dst x ho;unfold aHF at h;split at h;.rename_i k1 k' kk n h1 h2 hx;cases h;exact .quiet (aZI ho hx h1 h2)
  .rename_i k1 kk n h1 h2 hx;split at h;.rename_i hs;cases h;exact .quiet (aDQ ho hx h1 hs)
   cases h
  cases h
 cases h
end
inductive Orc where
 |ret (v:AVal)
 |gen (v:AVal) (k':Nat) (Hc Hout:aS)
 |raw (d:Option Nat) (out:Out)
 |far (v:AVal) (k':Nat) (loc Hc Hout:aS)
def Orc.out (c:Orc)(k:Nat):Out:=
 match c with
 | .ret v=>⟨v,k,[],[]⟩
 | .gen v k' Hc Hout=>iO v k' Hc Hout
 | .raw _ out=>out
 | .far v k' _ Hc Hout=>iO v k' Hc Hout
def Orc.heap (c:Orc)(k:Nat)(H:aS):aS:=
 match c with
 | .far _ _ loc _ Hout=>loc++Hout
 |c=>lD H (c.out k).upd
def zQ:aS->Nat->Blk->aS
 |[],i,B=>[(i,B)]
 |(a,x)::r,i,B=>if a=i then(a,B)::r else(a,x)::zQ r i B
def IT(H:aS):List (Nat×Option Blk)->aS
 |[]=>H
 |(i,some B)::r=>zQ (IT H r) i B
 |(i,none)::r=>del (IT H r) i
def TM(o:Oper):Bool:=
 match o.op with
 | .store .. =>true
 |_=>false
def TS(b:Bool)(H:aS)(u:List (Nat×Option Blk)):aS:=
 match b with
 |true=>IT H u
 |false=>lD H u
theorem BK:∀(H:aS) (i:Nat) (B:Blk) (j:Nat),look (zQ H i B) j=if j=i then some B else look H j
 |[],i,B,j=>by simp only[zQ,look,eq_comm]
 |(a,x)::r,i,B,j=>by
  simp only[zQ];by_cases h:a=i
  .subst h;rw[if_pos rfl];simp only[look];by_cases hj:a=j;.subst hj;rw[if_pos rfl,if_pos rfl]
   rw[if_neg hj,if_neg hj,if_neg (λ e=>hj e.symm)]
  rw[if_neg h];simp only[look];by_cases hj:a=j;.subst hj;rw[if_pos rfl,if_pos rfl,if_neg h]
  rw[if_neg hj,if_neg hj,BK r i B j]
theorem GS(H:aS):∀(u:List (Nat×Option Blk)) (j:Nat),look (IT H u) j=look (lD H u) j
 |[],_=>rfl
 |(i,some B)::r,j=>by
  rw[IT,BK,GS H r j];simp only[lD,look,gI];by_cases h:j=i;.subst h;simp
  rw[if_neg h,if_neg (λ e=>h e.symm),if_neg h]
 |(i,none)::r,j=>by rw[IT,gI];simp only[lD,gI];rw[GS H r j]
theorem QP(b:Bool)(H:aS)(u:List (Nat×Option Blk)):look (TS b H u)=look (lD H u):=by
 cases b;.rfl
 exact funext λ j=>GS H u j
theorem CN{H H':aS}(h:look H=look H')(u:List (Nat×Option Blk)):look (lD H u)=look (lD H' u):=funext λ i=>by rw[mD,mD,h]
theorem AD:∀(a b:aS) (i:Nat),look (a++b) i=match look a i with|some x=>some x|none=>look b i
 |[],b,i=>rfl
 |(j,x)::r,b,i=>by
  simp only[dQ,look];by_cases h:j=i;.rw[if_pos h,if_pos h]
  rw[if_neg h,if_neg h];exact AD r b i
def ED(d:Option Nat):List Orc->Option (Out×List Orc)
 | .raw d' out::r=>if d=d' then some (out,r)else none
 |_=>none
def uE(o:Oper):Bool:=
 match o.op with
 | .call {callee:= .value _,args:=_,argTypes:=_}=>true
 |_=>false
def aFJ(o:Oper):Bool:=
 match o.op with
 | .call {callee:= .builtin .copy,args:=_,argTypes:=_}=>true
 | .call {callee:= .builtin .cap,args:=_,argTypes:=_}=>true
 | .call {callee:= .builtin .clear,args:=_,argTypes:=_}=>true
 | .call {callee:= .builtin .delete,args:=_,argTypes:=_}=>true
 | .call {callee:= .builtin .append,args:=_,argTypes:=ty}=>match ty.toList with|[a,b]=>a !=b|_=>false
 | .slice _ _ _ _ (some _)=>true
 | .lookup .. =>true
 | .mapUpdate .. =>true
 | .makeMap .. =>true
 | .range .. =>true
 | .next .. =>true
 |_=>false
def inH(get:Nat->Option Blk):aS->Prop
 |[]=>True
 |(id,B)::r=>get id=some B/\inH get r
def eqG(get:Nat->Option Blk)(H:aS):Prop:=∀i,get i=look H i
def DL(loc Hc Hout:aS):Prop:=∀i,dX Hc i=true\/dX Hout i=true->look loc i=none
def CallReq(P:Program)(Γ:List (Nat×List AVal))(o:Oper)(ev:Operand->Option AVal)(get:Nat->Option Blk)(k:Nat)(c:Orc):Prop:=
 match o.op with
 | .call {callee:= .value f,args:=args,argTypes:=_}=>match ev f,rF ev args.toList with
   | some (.fn g caps),some vs=>aL P g=true/\(match c with
     | .ret v=>(vs++caps).all (bd λ _=>false)=true/\Pure P Γ g (vs++caps) v
     | .gen v k' Hc Hout=>(vs++caps).all (bd (dX Hc))=true/\rG (dX Hc) Hc=true/\inH get Hc/\k<=k'/\Tr P Γ g k (vs++caps) Hc (λ k1 r1 H1=>k1=k'/\r1=v/\H1=Hout)
     | .raw _ _=>False
     | .far v k' loc Hc Hout=>(vs++caps).all (bd (dX Hc))=true/\rG (dX Hc) Hc=true/\eqG get (loc++Hc)/\DL loc Hc Hout/\k<=k'/\Tr P Γ g k (vs++caps) Hc (λ k1 r1 H1=>k1=k'/\r1=v/\H1=Hout))
   | some (.bfn g i r0 c0),some vs=>aL P g=true/\(match c with
     | .ret _=>False
     | .gen v k' Hc Hout=>(.ptr i r0 c0::vs).all (bd (dX Hc))=true/\rG (dX Hc) Hc=true/\inH get Hc/\k<=k'/\Tr P Γ g k (.ptr i r0 c0::vs) Hc (λ k1 r1 H1=>k1=k'/\r1=v/\H1=Hout)
     | .raw _ _=>False
     | .far v k' loc Hc Hout=>(.ptr i r0 c0::vs).all (bd (dX Hc))=true/\rG (dX Hc) Hc=true/\eqG get (loc++Hc)/\DL loc Hc Hout/\k<=k'/\Tr P Γ g k (.ptr i r0 c0::vs) Hc (λ k1 r1 H1=>k1=k'/\r1=v/\H1=Hout))
   |_,_=>False
 |_=>False
def RD(g:Option Bool)(X Y:Prop):Prop:=
 match g with
 |none=>False
 |some b=>if b=true then Y else X
def XF(g:Option Out)(f:Out->Prop):Prop:=
 match g with
 |none=>False
 |some out=>f out
def aTJ(cs:List Orc)(f:Orc->List Orc->Prop):Prop:=
 match cs with
 |[]=>False
 |c::r=>f c r
def aOA(o:Oper)(cs:List Orc):List Orc:=match ED o.dst cs with
 |some x=>x.2
 |none=>if uE o=true then cs.tail else cs
def aPA(g:Option (Out×List Orc))(f:Out->List Orc->Prop)(X:Prop):Prop:=
 match g with
 |none=>X
 |some x=>f x.1 x.2
def RunF(P:Program)(Γ:List (Nat×List AVal))(all:Array Oper):List Oper->List Orc->Nat->Fr->aS->(List Foot->Nat->Fr->aS->Prop)->Prop
 |[],_,k,fr,H,K=>K [] k fr H
 |o ::r,cs,k,fr,H,K=>RD (mJ all fr o) (RunF P Γ all r (aOA o cs) k (gK fr o.dst (.lit undef)) H (λ tr=>K (⟨[],[],k,k⟩::tr)))
    (aPA (ED o.dst cs) (λ out cs'=>Good P Γ o (kB Γ fr) (look H) k out/\RunF P Γ all r cs' out.k (gK fr o.dst out.v) (IT H out.upd) (λ tr=>K (⟨out.rds,out.upd.map (·.1),k,out.k⟩::tr)))
    (if uE o=true then aTJ cs λ c cs'=>CallReq P Γ o (kB Γ fr) (look H) k c/\RunF P Γ all r cs' (c.out k).k (gK fr o.dst (c.out k).v) (c.heap k H) (λ tr=>K (⟨(c.out k).rds,(c.out k).upd.map (·.1),k,(c.out k).k⟩::tr))
    else XF (BV P Γ o (kB Γ fr) (look H) k) λ out=>RunF P Γ all r cs out.k (gK fr o.dst out.v) (TS (TM o) H out.upd) (λ tr=>K (⟨out.rds,out.upd.map (·.1),k,out.k⟩::tr))))
section
variable{P:Program}{Γ:List (Nat×List AVal)}
theorem MI{get:Nat->Option Blk}:∀ {Hc:aS},inH get Hc->∀id B,look Hc id=some B->get id=some B
 |[],_,id,B,h=>by simp[look]at h
 |(i,C)::r,⟨h1,h2⟩,id,B,h=>by
  simp only[look]at h;split at h;.rename_i he;subst he;cases h;exact h1
  exact MI h2 id B h
theorem aQR:dX []=λ _=>false:=funext λ i=>rfl
theorem CallReq.good {o:Oper}{ev:Operand->Option AVal}{get:Nat->Option Blk}{k:Nat}{c:Orc}(h:CallReq P Γ o ev get k c):Good P Γ o ev get k (c.out k):=by
 unfold CallReq at h;split at h
 .rename_i f args ty ho;split at h
  .rename_i g caps vs hf ha;obtain⟨hg,h⟩:=h
   cases c with
   |ret v=>obtain⟨h1,h2⟩:=h;have:=JV (P:=P) (Γ:=Γ) (get:=get) (k:=k) (Hc:=[]) (Hout:=[]) (r:=v) (k':=k) ho hg hf ha (by rw[aQR];exact h1) rfl (λ id B hB=>by simp[look]at hB) (h2 k) (aF _);exact this
   |gen v k' Hc Hout=>obtain⟨h1,h2,h3,h4,h5⟩:=h;exact JV ho hg hf ha h1 h2 (MI h3) h5 h4
   |raw d out=>exact h.elim
   |far v k' loc Hc Hout=>obtain⟨h1,h2,h3,h4,h5,h6⟩:=h;exact JV ho hg hf ha h1 h2 (λ id B hB=>by rw[h3,AD,h4 id (.inl (by simp[dX,hB]))];exact hB) h6 h5
  .rename_i g i r0 c0 vs hf ha;obtain⟨hg,h⟩:=h
   cases c with
   |gen v k' Hc Hout=>obtain⟨h1,h2,h3,h4,h5⟩:=h;exact ZJ ho hg hf ha h1 h2 (MI h3) h5 h4
   |ret v=>exact h.elim
   |raw d out=>exact h.elim
   |far v k' loc Hc Hout=>obtain⟨h1,h2,h3,h4,h5,h6⟩:=h;exact ZJ ho hg hf ha h1 h2 (λ id B hB=>by rw[h3,AD,h4 id (.inl (by simp[dX,hB]))];exact hB) h6 h5
  exact h.elim
 exact h.elim
theorem CallReq.heap {o:Oper}{ev:Operand->Option AVal}{H:aS}{k:Nat}{c:Orc}(h:CallReq P Γ o ev (look H) k c):look (c.heap k H)=look (lD H (c.out k).upd):=by
 cases c with
 |far v k' loc Hc Hout=>
  have key:(∀i,look H i=look (loc++Hc) i)/\(∀i,dX Hc i=true\/dX Hout i=true->look loc i=none):=by
   unfold CallReq at h;split at h
   .split at h;.exact⟨h.2.2.2.1,h.2.2.2.2.1⟩
    .exact⟨h.2.2.2.1,h.2.2.2.2.1⟩
    exact h.elim
   exact h.elim
  obtain⟨h1,h2⟩:=key;refine funext λ i=>?_;show look (loc++Hout) i=look (lD H ((Hout.map λ x=>(x.1,some x.2))++(Hc.map λ x=>(x.1,(none:Option Blk))))) i;rw[mD,CW,AD,h1,AD]
  cases ho:look Hout i with
  |some B=>rw[h2 i (.inr (by simp[dX,ho]))]
  |none=>
   cases hc:look Hc i with
   |some B=>rw[h2 i (.inl (by simp[dX,hc]))]
   |none=>cases look loc i<;>rfl
 |ret v=>rfl
 |gen v k' Hc Hout=>rfl
 |raw d out=>rfl
theorem Run.mono {all:Array Oper}:∀(l:List Oper) (k:Nat) (fr:Fr) (H:aS) (K K':List Foot->Nat->Fr->aS->Prop),(∀tr k fr H,K tr k fr H->K' tr k fr H)->Run P Γ all l k fr H K->Run P Γ all l k fr H K':=by
 intro l
 induction l with
 |nil=>intro k fr H K K' hK h;exact hK _ _ _ _ h
 |cons o r ih=>
  intro k fr H K K' hK h;rcases h with⟨h1,h2⟩|⟨h1,out,h2,h3⟩;.exact .inl ⟨h1,ih _ _ _ _ _ (λ tr k fr H h=>hK _ _ _ _ h) h2⟩
  exact .inr ⟨h1,out,h2,ih _ _ _ _ _ (λ tr k fr H h=>hK _ _ _ _ h) h3⟩
def a7D(K:List Foot->Nat->Fr->aS->Prop):List Foot->Nat->Fr->aS->Prop:=λ tr k fr H=>∃H',look H=look H'/\K tr k fr H'
theorem RunF.run {all:Array Oper}:∀(l:List Oper) (cs:List Orc) (k:Nat) (fr:Fr) (H H0:aS) (K:List Foot->Nat->Fr->aS->Prop),look H0=look H->RunF P Γ all l cs k fr H K->Run P Γ all l k fr H0 (a7D K):=by
 intro l
 induction l with
 |nil=>intro cs k fr H H0 K he h;exact⟨H,he,h⟩
 |cons o r ih=>
  intro cs k fr H H0 K he h;simp only[RunF,RD]at h;split at h;.exact h.elim
  rename_i b hg;split at h
  .rename_i hb;subst hb;unfold aPA at h;split at h
   .split at h
    .unfold aTJ at h;split at h;.exact h.elim
     exact .inr ⟨hg,_,by rw[he];exact h.1.good,ih _ _ _ _ _ _ (by rw[h.1.heap];exact CN he _) h.2⟩
    unfold XF at h;split at h;.exact h.elim
    rename_i out ho;exact .inr ⟨hg,out,by rw[he];exact uY ho,ih _ _ _ _ _ _ (by rw[QP];exact CN he _) h⟩
   rename_i x _;exact .inr ⟨hg,x.1,by rw[he];exact h.1,ih _ _ _ _ _ _ (by have:=QP true H x.1.upd;simp only[TS]at this;rw[this];exact CN he _) h.2⟩
  rename_i hb;have:b=false:=by simpa using hb
  subst this;exact .inl ⟨hg,ih _ _ _ _ _ _ he h⟩
def kA(keep:List Nat):Fr->Fr
 |[]=>[]
 |(t,v)::r=>if keep.contains t then(t,v)::kA keep r else kA keep r
theorem CX{keep:List Nat}:∀ {fr:Fr} {t:Nat} {v:AVal},look (kA keep fr) t=some v->look fr t=some v
 |[],t,v,h=>by simp[kA,look]at h
 |(a,x)::r,t,v,h=>by
  simp only[kA]at h;simp only[look];split at h
  .simp only[look]at h;split at h;.rename_i he;rw[if_pos he];exact h
   rename_i he;rw[if_neg he];exact CX h
  rename_i hk;by_cases he:a=t
  .subst he;exfalso
   have:∀(l:Fr) u,look (kA keep l) a≠some u:=by
    intro l
    induction l with
    |nil=>intro u hu;simp[kA,look]at hu
    |cons y ys ih=>
     intro u hu;obtain⟨b,z⟩:=y;simp only[kA]at hu;split at hu
     .rename_i hb;simp only[look]at hu;split at hu;.rename_i hab;subst hab;exact hk hb
      exact ih u hu
     exact ih u hu
   exact this r v h
  rw[if_neg he];exact CX h
variable{nt kb:Nat}{Q:AQ}{k:Nat}{fr:Fr}{H:aS}
theorem aFC(keep:List Nat){H':aS}(he:look H=look H')(hk:kb<=k):WkG kb k fr H k (kA keep fr) H':=
 ⟨hk,λ t v h=>⟨v,CX h,aK v⟩,λ id B h=>⟨B,by rw[he];exact h,pE B⟩,.inl rfl⟩
theorem bAE{id:Nat}{ops:Array Oper}(keep:List Nat)(cs:List Orc)(hd:mM nt ops=true)
 (h:∀K:List Foot->Nat->Fr->aS->Prop,(∀tr k' fr' H',(kb<=k'->Q .normal k' (kA keep fr') H')->K tr k' fr' H')->RunF P Γ ops ops.toList cs k fr H K):W P Γ nt kb (.region id ops false) Q k fr H:=
 a1W (NY hd (Run.mono _ _ _ _ _ _ (λ tr k' fr' H' hq hk'=>by obtain⟨H'',he,hq⟩:=hq;exact⟨k',kA keep fr',H'',aFC keep he hk',hq hk'⟩) ((h (λ _ k' fr' H'=>kb<=k'->Q .normal k' (kA keep fr') H') λ tr k' fr' H' hq=>hq).run _ _ _ _ _ _ _ rfl)))
theorem bAF{id:Nat}{ops:Array Oper}(keep:List Nat)(cs:List Orc)(hm:P.follows .mixedOrders=true)(hd:mM nt ops=true)
 (h:∀K:List Foot->Nat->Fr->aS->Prop,(∀tr k' fr' H',kS ops tr=true->(kb<=k'->Q .normal k' (kA keep fr') H')->K tr k' fr' H')->RunF P Γ ops ops.toList cs k fr H K):W P Γ nt kb (.region id ops true) Q k fr H:=
 a1W (aES hm hd (Run.mono _ _ _ _ _ _ (λ tr k' fr' H' hq=>by obtain⟨H'',he,hd',hq⟩:=hq;exact⟨hd',λ hk'=>⟨k',kA keep fr',H'',aFC keep he hk',hq hk'⟩⟩) ((h (λ tr k' fr' H'=>kS ops tr=true/\(kb<=k'->Q .normal k' (kA keep fr') H')) λ tr k' fr' H' hd' hq=>⟨hd',hq⟩).run _ _ _ _ _ _ _ rfl)))
end
theorem wrap_i64{n:Int}(h1: -9223372036854775808<=n)(h2:n<=9223372036854775807):aN.wrap n=n:=by rw[IntKind.wrap_i64];omega
def IOq:Code->Nat->Code
 | .seq a b,i=>if i=0 then a else b
 | .cond _ a b,i=>if i=0 then a else b
 | .block _ c,_=>c
 | .loop c,_=>c
 |c,_=>c
def fR(c:Code):List Nat->Code
 |[]=>c
 |i::p=>IOq (fR c p) i
def dZ(fn:Func):Code:=fn.body.getD .skip
section
variable{P:Program}{Γ:List (Nat×List AVal)}{nt kb:Nat}{Q:AQ}{k:Nat}{fr:Fr}{H:aS}{c:Code}{p:List Nat}
theorem bY{x y:Code}(hc:fR c p= .seq x y)(h:W P Γ nt kb (fR c (0::p)) (pL (W P Γ nt kb (fR c (1::p)) Q) Q) k fr H):W P Γ nt kb (fR c p) Q k fr H:=by
 have h0:fR c (0::p)=x:=by simp[fR,hc,IOq]
 have h1:fR c (1::p)=y:=by simp[fR,hc,IOq]
 rw[h0,h1]at h;rw[hc];exact aUO h
theorem eZ{id:Nat}{x:Code}(hc:fR c p= .block id x)(h:W P Γ nt kb (fR c (0::p)) (yT id Q) k fr H):W P Γ nt kb (fR c p) Q k fr H:=by
 have h0:fR c (0::p)=x:=by simp[fR,hc,IOq]
 rw[h0]at h;rw[hc];exact VH h
theorem gA{cc:Operand}{x y:Code}(hc:fR c p= .cond cc x y)(t:Bool)(he:kB Γ fr cc=some (.lit (.bool t)))(ht:t=true->W P Γ nt kb (fR c (0::p)) Q k fr H)(hf:t=false->W P Γ nt kb (fR c (1::p)) Q k fr H):
 W P Γ nt kb (fR c p) Q k fr H:=by
 have h0:fR c (0::p)=x:=by simp[fR,hc,IOq]
 have h1:fR c (1::p)=y:=by simp[fR,hc,IOq]
 rw[h0]at ht;rw[h1]at hf;rw[hc];exact NZ t he ht hf
theorem aVB{x:Code}(hc:fR c p= .loop x)(I:Nat->Nat->Fr->aS->Prop)(m:Nat)(h0:I m k fr H)
 (round:∀m k fr H,I m k fr H->W P Γ nt kb (fR c (0::p)) (pL (λ k' fr' H'=>∃m',m'<m/\I m' k' fr' H') Q) k fr H):W P Γ nt kb (fR c p) Q k fr H:=by
 have h1:fR c (0::p)=x:=by simp[fR,hc,IOq]
 rw[h1]at round;rw[hc];exact aUQ I m h0 round
theorem fD(hc:fR c p= .skip)(h:Q .normal k fr H):W P Γ nt kb (fR c p) Q k fr H:=by rw[hc];exact aEQ h
theorem aX(hc:fR c p= .ret)(h:Q .ret k fr H):W P Γ nt kb (fR c p) Q k fr H:=by rw[hc];exact aUP h
theorem jU{id:Nat}(hc:fR c p= .exit id)(h:Q (.exit id) k fr H):W P Γ nt kb (fR c p) Q k fr H:=by rw[hc];exact aER h
theorem a2B{id:Nat}{ops:Array Oper}(hc:fR c p= .region id ops false)(keep:List Nat)(cs:List Orc)(hd:mM nt ops=true)
 (h:∀K:List Foot->Nat->Fr->aS->Prop,(∀tr k' fr' H',(kb<=k'->Q .normal k' (kA keep fr') H')->K tr k' fr' H')->RunF P Γ ops ops.toList cs k fr H K):W P Γ nt kb (fR c p) Q k fr H:=by rw[hc];exact bAE keep cs hd h
theorem a2C{id:Nat}{ops:Array Oper}(hc:fR c p= .region id ops true)(keep:List Nat)(cs:List Orc)(hm:P.follows .mixedOrders=true)(hd:mM nt ops=true)
 (h:∀K:List Foot->Nat->Fr->aS->Prop,(∀tr k' fr' H',kS ops tr=true->(kb<=k'->Q .normal k' (kA keep fr') H')->K tr k' fr' H')->RunF P Γ ops ops.toList cs k fr H K):W P Γ nt kb (fR c p) Q k fr H:=by rw[hc];exact bAF keep cs hm hd h
theorem iD{f:FuncId}{fn:Func}{args:List AVal}{H:aS}{Q:Nat->AVal->aS->Prop}(hf:P.funcs[f]? =some fn)(hb:fn.body.isSome=true)(nt:Nat)(hnt:fn.ntmps=nt)(hn:args.length<=nt)
 (h:W P Γ nt k (fR (dZ fn) []) (yD P fn Q) k (uX 0 args) H):Tr P Γ f k args H Q:=by
 obtain⟨c,hc⟩:=fK.1 hb;subst hnt;refine JZ hf hc hn ?_;have:dZ fn=c:=by simp[dZ,hc]
 rw[fR,this]at h;exact h
theorem aZ{f:FuncId}{fn:Func}{args:List AVal}{r:AVal}(hf:P.funcs[f]? =some fn)(hb:fn.body.isSome=true)(nt:Nat)(hnt:fn.ntmps=nt)(hn:args.length<=nt)(hr:bd (λ _=>false) r=true)
 (h:∀k,W P Γ nt k (fR (dZ fn) []) (yD P fn (λ _ r1 _=>VLe r1 r)) k (uX 0 args) []):Pure P Γ f args r:=by
 obtain⟨c,hc⟩:=fK.1 hb;subst hnt;refine aMG hf hc hn hr λ k=>?_;have:=h k;have e:dZ fn=c:=by simp[dZ,hc]
 rw[fR,e]at this;exact this
end
end Go.AM
end
