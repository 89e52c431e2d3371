import Derived.Test.YteimiejbhhgljaaGreatDoorZAB
set_option linter.unusedVariables false
set_option linter.unusedSimpArgs false
set_option maxHeartbeats 0
set_option maxRecDepth 100000
open Array renaming eq_empty_of_size_eq_zero->jN,getElem?_eq_some_iff->dA,getElem?_toList->bF,toArray_toList->bOW
open Bool renaming and_eq_true->aH,and_false->KV,and_true->iC,false->aE,false_and->KU,false_eq_true->aS,false_or->AE,not_eq_true'->bD,or_eq_false_iff->fO,or_eq_true->bL,true->aB,true_and->lG,true_eq_false->bX,true_or->AD
open Go.IntKind renaming i64->aL,u32->lM,u64->aY,u8->fA
open List renaming all_cons->fU,all_eq_true->aW,all_nil->AA,append_nil->cZ,cons_append->aV,getD->oH,getD_eq_getElem?_getD->aR,getElem?_cons_succ->fM,getElem?_cons_zero->lF,getElem?_eq_getElem->aJ,getElem?_map->aP,getElem?_toArray->cJ,getElem_mem->JR,isEmpty_cons->YH,isEmpty_nil->bNX,length_cons->gS,length_nil->RY,map->rS,map_append->aM,map_cons->bI,map_map->jM,map_nil->bQ,mem_cons->eY,mem_of_getElem?->iG,nil_append->aU,range->aN,replicate->bE
open Nat renaming add_assoc->gD,add_comm->bKT,add_mul->cQ,add_sub_cancel->a4V,add_sub_cancel_left->lE,add_zero->jL,le_refl->aF,le_succ->mF,mul_one->HW,pos_of_ne_zero->a4T,sub_self->RX,zero_add->fH
open Option renaming bind_eq_some_iff->cE,bind_some->bNV,isSome_iff_exists->fS,map_eq_none_iff->dO,map_eq_some_iff->aG,map_none->oB,map_some->bU,none->aC,some->aA
open Go.Result renaming andThen_ok->bG
open Go.Sem renaming run_bind->bN,run_pure->dE
section
namespace Go.AM
def iS(P:Program)(t:TypeId):Bool:=match P.underlying t with|some (.struct _)=>aB|_=>aE
def aCT(P:Program)(t:TypeId):Option (Nat×Nat×Bool):=
 match P.underlying t with
 | some (.array n e)=>match oP P e,jO P e with
   |some s,aA ag=>aA (n,s,ag)
   |_,_=>aC
 |_=>aC
def mY(k:Nat)(v:AVal):Out:=⟨v,k,[],[]⟩
def pM(P:Program)(get:Nat->Option Blk)(k t:Nat)(x y:Option AVal):Option Out:=
 match x,y with
 |some (.rd s n f),aA (.lit (.int _ i))=>if CC P t=aA s/\0<=i/\i<n then aA ⟨.rp (f i.toNat),k,[],[]⟩else aC
 | some (.sl id r n),aA (.lit (.int _ i))=>match get id with
   |some B=>if CC P t=aA B.sz/\0<=i/\i<n then aA ⟨.ptr id (r+i.toNat) 0,k,[],[id]⟩else aC
   |none=>aC
 | some (.rp cells),aA (.lit (.int _ i))=>match DM P t with
   |some (m,s)=>if 0<=i/\i<m then aA ⟨.rp (cells.drop (i.toNat*s)),k,[],[]⟩else aC
   |none=>aC
 | some (.ptr id r c),aA (.lit (.int _ i))=>match DM P t,get id with
   |some (m,s),aA B=>if 0<=i/\i<m then aA ⟨if B.sz=s/\c=0 then .ptr id (r+i.toNat) 0 else .ptr id r (c+i.toNat*s),k,[],[id]⟩else aC
   |_,_=>aC
 |_,_=>aC
def HP(P:Program)(get:Nat->Option Blk)(k t:Nat)(x:Option AVal):Option Out:=
 match jO P t,oP P t,x with
 |some ag,aA n,aA (.rp cells)=>(iJ ag n cells 0).map (mY k)
 | some ag,aA n,aA (.ptr id r c)=>match get id with
   | some B=>if r=0/\c=0/\B.sz<n then(iJ ag n B.rows.flatten 0).map λ v=>⟨v,k,[],[id]⟩else match B.rows[r]? with
     |some row=>(iJ ag n row c).map λ v=>⟨v,k,[],[id]⟩
     |none=>aC
   |none=>aC
 |_,_,_=>aC
def JK(P:Program)(get:Nat->Option Blk)(k t:Nat)(x y:Option AVal):Option Out:=
 match oP P t,x,y.bind vT with
 | some n,aA (.ptr id r c),aA cells=>match get id with
   | some B=>if r=0/\c=0/\B.sz<n then(if cells.length=n/\cells.all one=aB/\0<B.sz/\n=B.rows.length*B.sz then aA ⟨.junk,k,[(id,aA ⟨B.sz,cells.all clean,oR B.sz B.rows.length cells⟩)],[id]⟩else aC)else match B.rows[r]? with
     |some row=>if cells.length=n/\cells.all one=aB/\c+n<=row.length then aA ⟨.junk,k,[(id,aA ⟨B.sz,B.pure&&cells.all clean,B.rows.set r (lO row cells c)⟩)],[id]⟩else aC
     |none=>aC
   |none=>aC
 |_,_,_=>aC
def QL(P:Program)(k t:Nat)(parts:Option (List (Nat×AVal))):Option Out:=
 match iY P t,parts with
 | some cells,aA vs=>
   if iS P t then match kK P t with
    |some pl=>(EJ (pl[·]?) cells vs).map λ cs=>mY k (.agg cs)
    |none=>aC
   else match aCT P t with
    |some (_,s,_)=>(EJ (λ i=>aA (i*s,s)) cells vs).map λ cs=>mY k (.agg cs)
    |none=>aC
 |_,_=>aC
def sN(P:Program)(k t len:Nat)(parts:Option (List (Nat×AVal))):Option Out:=
 match gV P t,parts with
 | some (s,_,zrow),aA vs=>match EJ (λ i=>aA (i*s,s)) (bE len zrow).flatten vs with
   |some cells=>if len*s<=16777216/\cells.length=len*s then aA ⟨.sl k 0 len,k+1,[(k,aA ⟨s,cells.all clean,oR s len cells⟩)],[]⟩else aC
   |none=>aC
 |_,_=>aC
def aDB(P:Program)(k t:Nat)(x y:Option AVal):Option Out:=
 match gV P t,x,y with
 | some (s,by',zrow),aA (.lit (.int _ l)),aA (.lit (.int _ c))=>
   if 0<=l/\l<=c/\(by':Int)*c<=281474976710656/\c<=9223372036854775807 then aA ⟨.sl k 0 l.toNat,k+1,[(k,aA ⟨s,aB,bE l.toNat zrow⟩)],[]⟩else aC
 |_,_,_=>aC
def CK(get:Nat->Option Blk):AVal->Option (Nat×Nat×List (List AVal)×Bool×List Nat)
 | .rd s m f=>aA (s,m,(aN m).map f,aB,[])
 | .sl id r m=>match get id with
   |some B=>if r+m<=B.rows.length then aA (B.sz,m,(B.rows.drop r).take m,B.pure,[id])else aC
   |none=>aC
 | .lit (.slice aC 0 0)=>aA (0,0,[],aB,[])
 |_=>aC
def kI(P:Program)(get:Nat->Option Blk)(k t:Nat)(x y:Option AVal):Option Out:=
 match gV P t,x,y.bind (CK get)with
 | some (s,by',_),aA (.lit (.slice aC 0 0)),aA (s',m,rows,p,ids)=>
   if m=0 then aA ⟨.lit (.slice aC 0 0),k,[],ids⟩
   else if s'=s/\0<m/\m<=9223372036854775807/\m*by'<=140737488355328/\(rows.all λ row=>row.all one)=aB then aA ⟨.sl k 0 m,k+1,[(k,aA ⟨s,p,rows⟩)],ids⟩else aC
 | some (s,by',_),aA (.sl id 0 n),aA (s',m,rows,p,ids)=>match get id with
   | some B=>
     if m=0 then aA ⟨.sl id 0 n,k,[],id::ids⟩
     else if s'=s/\B.sz=s/\B.rows.length=n/\id<k/\0<m/\n+m<=9223372036854775807/\(n+m)*by'<=140737488355328/\(rows.all λ row=>row.all one)=aB then
      aA ⟨.sl k 0 (n+m),k+1,[(k,aA ⟨s,B.pure&&p,B.rows++rows⟩),(id,aC)],id::ids⟩else aC
   |none=>aC
 |some _,aA (.rd s1 n f),aA (_,m,_,_,ids)=>if m=0 then aA ⟨.rd s1 n f,k,[],ids⟩else aC
 |_,_,_=>aC
def aFM(op:BinOp)(k:IntKind)(a b:Int):Option Value:=
 match op with
 | .add=>aA (.int k (k.wrap (a+b)))
 | .sub=>aA (.int k (k.wrap (a-b)))
 | .mul=>aA (.int k (k.wrap (a*b)))
 | .quo=>if b=0 then aC else aA (.int k (k.wrap (a.tdiv b)))
 | .rem=>if b=0 then aC else aA (.int k (a.tmod b))
 | .and=>aA (.int k (k.wrap (BitVec.ofInt k.bits a&&&BitVec.ofInt k.bits b).toNat))
 | .or=>aA (.int k (k.wrap (BitVec.ofInt k.bits a|||BitVec.ofInt k.bits b).toNat))
 | .xor=>aA (.int k (k.wrap (BitVec.ofInt k.bits a^^^BitVec.ofInt k.bits b).toNat))
 | .andNot=>aA (.int k (k.wrap (BitVec.ofInt k.bits a&&& ~~~(BitVec.ofInt k.bits b)).toNat))
 | .eql=>aA (.bool (a==b))
 | .neq=>aA (.bool (a !=b))
 | .lss=>aA (.bool (decide (a<b)))
 | .leq=>aA (.bool (decide (a<=b)))
 | .gtr=>aA (.bool (decide (b<a)))
 | .geq=>aA (.bool (decide (b<=a)))
 |_=>aC
def aIR(op:BinOp)(k:IntKind)(a b:Int):Option Value:=
 match op with
 | .shl=>if b<0 then aC else aA (.int k (k.wrap (a*2^min b.toNat k.bits)))
 | .shr=>if b<0 then aC else aA (.int k (a.fdiv (2^min b.toNat k.bits)))
 |_=>aC
def aDZ(op:BinOp)(x y:ByteArray):Option Value:=
 match op with
 | .add=>if((x.size+y.size:Nat):Int)>9223372036854775807 then aC else aA (.string (x++y))
 | .eql=>aA (.bool (x.toList==y.toList))
 | .neq=>aA (.bool !(x.toList==y.toList))
 | .lss=>aA (.bool (Op.bytesLess x.toList y.toList))
 | .leq=>aA (.bool (Op.bytesLess x.toList y.toList||x.toList==y.toList))
 | .gtr=>aA (.bool !(Op.bytesLess x.toList y.toList||x.toList==y.toList))
 | .geq=>aA (.bool !Op.bytesLess x.toList y.toList)
 |_=>aC
def MD:BinOp->Bool
 | .shl=>aB
 | .shr=>aB
 |_=>aE
def aPE(P:Program)(op:BinOp)(t:TypeId)(a b:Value):Option Value:=
 match a,b with
 | .int k x,.int k' y=>if MD op then aIR op k x y else if k=k' then aFM op k x y else aC
 | .string x,.string y=>aDZ op x y
 | .bool x,.bool y=>if EE P t=aA 1 then(match op with| .eql=>aA (.bool (x==y))| .neq=>aA (.bool !(x==y))|_=>aC)else aC
 | .pointer aC,.pointer aC=>if xK P t=aA 0 then(match op with| .eql=>aA (.bool aB)| .neq=>aA (.bool aE)|_=>aC)else aC
 | .slice aC _ _,.slice aC _ _=>if xK P t=aA 1 then(match op with| .eql=>aA (.bool aB)| .neq=>aA (.bool aE)|_=>aC)else aC
 |_,_=>aC
def vB(P:Program)(t:TypeId):Option IntKind:=match P.underlying t with|some (.int k)=>aA k|_=>aC
def pI(P:Program)(t:TypeId):Bool:=match P.underlying t with|some .string=>aB|_=>aE
def unV(op:UnOp)(a:Value):Option Value:=
 match op,a with
 | .not,.bool b=>aA (.bool !b)
 | .neg,.int k n=>aA (.int k (k.wrap (0-n)))
 |_,_=>aC
def QK(P:Program)(ev:Operand->Option AVal)(get:Nat->Option Blk)(k t:Nat)(x:Operand)(lo hi:Option Operand):Option Out:=
 match ev x with
 | some (.rd s n f)=>match bound ev lo 0,bound ev hi n with
   |some l,aA h=>if CC P t=aA s/\0<=l/\l<=h/\h<=n then aA ⟨.rd s (h.toNat-l.toNat) (λ i=>f (l.toNat+i)),k,[],[]⟩else aC
   |_,_=>aC
 | some (.sl id r n)=>match get id,bound ev lo 0,bound ev hi n with
   |some B,aA l,aA h=>if CC P t=aA B.sz/\0<=l/\l<=h/\h<=n then aA ⟨.sl id (r+l.toNat) (h.toNat-l.toNat),k,[],[id]⟩else aC
   |_,_,_=>aC
 | some (.lit (.string str))=>match bound ev lo 0,bound ev hi str.size with
   |some l,aA h=>if pI P t=aB/\0<=l/\l<=h/\h<=str.size then aA (mY k (.lit (.string (str.extract l.toNat h.toNat))))else aC
   |_,_=>aC
 | some (.ptr id r c)=>match get id,DM P t,lo,hi with
   |some B,aA (n,s),aC,aC=>if r=0/\c=0/\B.sz=s/\B.rows.length=n/\0<s/\n<=281474976710656 then aA ⟨.sl id 0 n,k,[],[id]⟩else aC
   |_,_,_,_=>aC
 |_=>aC
def OS:AVal->Bool
 | .agg _=>aB
 |_=>aE
def QH:AVal->List AVal
 | .agg cs=>cs
 |_=>[]
def aEq(P:Program)(get:Nat->Option Blk)(k t:Nat)(neg:Bool)(v z:AVal):Option Out:=
 if OS v&&OS z then
  match tD P t,nE (QH v),nE (QH z)with
  |some offs,aA xs,aA ys=>(tQ xs ys offs).map λ p=>mY k (.lit (.bool (if neg then !p else p)))
  |_,_,_=>aC
 else if pD z&&dY get v then
  if xK P t=aA (fB v)/\xK P t=aA (fB z)then aA ⟨.lit (.bool neg),k,[],EG v⟩else aC
 else if pD v&&dY get z then
  if xK P t=aA (fB v)/\xK P t=aA (fB z)then aA ⟨.lit (.bool neg),k,[],EG z⟩else aC
 else aC
def xR:BinOp->Option Bool
 | .eql=>aA aE
 | .neq=>aA aB
 |_=>aC
def qA(k:Nat):Option AVal->Option Out
 |some v=>aA (mY k v)
 |none=>aC
def aIY(k:Nat)(c x y:Option AVal):Option Out:=
 match c with
 |some (.lit (.bool t))=>qA k (if t=aB then x else y)
 |_=>aC
def aSX(get:Nat->Option Blk)(k:Nat):Option AVal->Option Out
 |some (.rp c)=>aA (mY k (.rp c))
 |some (.ptr i r c)=>if(get i).isSome=aB then aA ⟨.ptr i r c,k,[],[i]⟩else aC
 |_=>aC
def PF(get:Nat->Option Blk)(k:Nat)(off:Option Nat)(x:Option AVal):Option Out:=
 match off,x with
 |some off,aA (.rp cells)=>aA (mY k (.rp (cells.drop off)))
 |some off,aA (.ptr i r c)=>if(get i).isSome=aB then aA ⟨.ptr i r (c+off),k,[],[i]⟩else aC
 |_,_=>aC
def aEX(P:Program)(k t:Nat):Option (List AVal)->Option Out
 |some cells=>aA ⟨.ptr k 0 0,k+1,[(k,aA (BO P t cells))],[]⟩
 |none=>aC
def aKT(k:Nat)(fa:Option (Nat×Nat×Bool))(x:Option AVal):Option Out:=
 match fa,x with
 |some (off,n,ag),aA (.agg cells)=>qA k (iJ ag n cells off)
 |_,_=>aC
def WR(P:Program)(k t:Nat)(x y:Option AVal):Option Out:=
 match x,y with
 | some (.agg cells),aA (.lit (.int _ i))=>match aCT P t with
   |some (m,s,ag)=>if 0<=i/\i<m then qA k (iJ ag s cells (i.toNat*s))else aC
   |none=>aC
 |some (.lit (.string str)),aA (.lit (.int _ i))=>if pI P t=aB/\0<=i/\i<str.size then aA (mY k (.lit (.int .u8 ((str.data.toList.getD i.toNat 0).toNat))))else aC
 |_,_=>aC
def GU(k:Nat)(x:Option AVal)(i:Nat):Option Out:=
 match x with
 |some (.tup vs)=>qA k (vs[i]?)
 |_=>aC
def a2F(k:Nat)(f:FuncId):Option (List AVal)->Option Out
 |some vs=>aA (mY k (.fn f vs))
 |none=>aC
def bAB(k:Nat)(f:FuncId):Option AVal->Option Out
 |some (.ptr i r c)=>aA (mY k (.bfn f i r c))
 |_=>aC
def yQ(P:Program)(get:Nat->Option Blk)(k t:Nat)(x:Option AVal):Option Out:=
 match x with
 |some (.rd _ n _)=>if fX P t=aB then aA (mY k (.lit (.int .i64 n)))else aC
 |some (.sl id _ n)=>if fX P t=aB/\(get id).isSome=aB then aA ⟨.lit (.int .i64 n),k,[],[id]⟩else aC
 |some (.lit (.string str))=>if pI P t=aB then aA (mY k (.lit (.int .i64 str.size)))else aC
 |some (.lit (.slice aC 0 0))=>if fX P t=aB then aA (mY k (.lit (.int .i64 0)))else aC
 |_=>aC
def XT(P:Program)(get:Nat->Option Blk)(k:Nat)(op:BinOp)(t:TypeId)(x y:Option AVal):Option Out:=
 match x,y with
 |some (.lit a),aA (.lit b)=>qA k ((aPE P op t a b).map .lit)
 | some v,aA z=>match xR op with
   |some neg=>aEq P get k t neg v z
   |none=>aC
 |_,_=>aC
def unO(k:Nat)(op:UnOp)(x:Option AVal):Option Out:=
 match x with
 |some (.lit a)=>qA k ((unV op a).map .lit)
 |_=>aC
def aLF(k:Nat)(src dst:Option IntKind)(st:Bool)(x:Option AVal):Option Out:=
 match src,dst,x with
 |some _,aA k',aA (.lit (.int _ n))=>aA (mY k (.lit (.int k' (k'.wrap n))))
 |some _,aC,aA (.lit (.int _ n))=>if st=aB then aA (mY k (.lit (.string (Utf8.encode n))))else aC
 |_,_,_=>aC
def aTN(k:Nat)(x y:Option AVal):Option Out:=
 match x,y with
 |some (.lit (.int k1 a)),aA (.lit (.int k2 b))=>if k1=k2 then aA (mY k (.lit (.int k1 (if b>a then b else a))))else aC
 |_,_=>aC
def aTI(k:Nat)(x y:Option AVal):Option Out:=
 match x,y with
 |some (.lit (.int k1 a)),aA (.lit (.int k2 b))=>if k1=k2 then aA (mY k (.lit (.int k1 (if b<a then b else a))))else aC
 |_,_=>aC
def aCU(args:Array Operand)(f:Operand->Option Out):Option Out:=
 match args.toList with
 |[x]=>f x
 |_=>aC
def US(args:Array Operand)(f:Operand->Operand->Option Out):Option Out:=
 match args.toList with
 |[x,y]=>f x y
 |_=>aC
def AT(P:Program)(_Γ:dL)(o:Oper)(ev:Operand->Option AVal)(get:Nat->Option Blk)(k:Nat):Option Out:=
 match o.op with
 | .move x=>qA k (ev x)
 | .assign x=>qA k (ev x)
 | .pick c x y=>aIY k (ev c) (ev x) (ev y)
 | .nilCheck x=>aSX get k (ev x)
 | .fieldAddr s x f=>PF get k (bW P s f) (ev x)
 | .indexAddr t x y=>pM P get k t (ev x) (ev y)
 | .load t x=>HP P get k t (ev x)
 | .store t x y=>JK P get k t (ev x) (ev y)
 | .alloc t=>aEX P k t (iY P t)
 | .box t x=>aEX P k t ((ev x).bind vT)
 | .build t parts=>QL P k t (mP ev parts.toList)
 | .buildSlice t len parts=>sN P k t len (mP ev parts.toList)
 | .makeSlice t x y=>aDB P k t (ev x) (ev y)
 | .slice t x lo hi aC=>QK P ev get k t x lo hi
 | .field s x f=>aKT k (fieldAt P s f) (ev x)
 | .index t x y=>WR P k t (ev x) (ev y)
 | .extract x i=>GU k (ev x) i
 | .makeFunc (.func f) first caps=>if first.size=0 then a2F k f (pJ ev caps.toList)else if caps.size=0 then aCU first λ x=>bAB k f (ev x)else aC
 | .call {callee:= .builtin .len,args:=args,argTypes:=ty}=>if ty.size=0 then aC else aCU args λ x=>yQ P get k (ty.toList.headD 0) (ev x)
 | .call {callee:= .builtin .append,args:=args,argTypes:=ty}=>US args λ x y=>if ty.toList=[ty.toList.headD 0,ty.toList.headD 0]then kI P get k (ty.toList.headD 0) (ev x) (ev y)else aC
 | .call {callee:= .builtin .max,args:=args,argTypes:=_}=>US args λ x y=>aTN k (ev x) (ev y)
 | .call {callee:= .builtin .min,args:=args,argTypes:=_}=>US args λ x y=>aTI k (ev x) (ev y)
 | .binOp op t x y _=>XT P get k op t (ev x) (ev y)
 | .unOp op _ x=>unO k op (ev x)
 | .convert src dst x=>aLF k (vB P src) (vB P dst) (pI P dst) (ev x)
 |_=>aC
section
variable{P:Program}{Γ:dL}{o:Oper}{ev:Operand->Option AVal}{get:Nat->Option Blk}{k:Nat}
theorem Good.quiet {v:AVal}(h:OpOk P Γ o ev get k ⟨v,k,[],[]⟩):Good P Γ o ev get k (mY k v):=⟨h,λ id hid=>by simp[mY]at hid,aF _⟩
theorem UQ{t n s:Nat}{ag:Bool}(h:aCT P t=aA (n,s,ag)):∃e,P.underlying t=aA (.array n e)/\oP P e=aA s/\jO P e=aA ag:=by
 unfold aCT at h;split at h
 .rename_i m e hu;split at h;.rename_i s' ag' h1 h2;cases h;exact⟨e,hu,h1,h2⟩
  cases h
 cases h
theorem LL{t:Nat}{x y:Operand}{out:Out}(ho:o.op= .indexAddr t x y)(h:pM P get k t (ev x) (ev y)=aA out):Good P Γ o ev get k out:=by
 unfold pM at h;split at h
 .rename_i s n f kk i hx hy;split at h;.rename_i hc;cases h;exact⟨aBC ho hc.1 hx hy hc.2.1 hc.2.2,λ id hid=>by simp at hid,aF _⟩
  cases h
 .rename_i id r n kk i hx hy;split at h
  .rename_i B hB;split at h;.rename_i hc;cases h;exact⟨aBA ho hc.1 hx hy hB rfl hc.2.1 hc.2.2,λ id' hid=>by simp at hid;rw[hid,hB];rfl,aF _⟩
   cases h
  cases h
 .rename_i cells kk i hx hy;split at h
  .rename_i m s ha;split at h;.rename_i hc;cases h;exact⟨aBB ho ha hx hy hc.1 hc.2,λ id hid=>by simp at hid,aF _⟩
   cases h
  cases h
 .rename_i id r c kk i hx hy;split at h
  .rename_i m s B ha hB;split at h;.rename_i hc;cases h;exact⟨WP ho ha hx hy hB hc.1 hc.2,λ id' hid=>by simp at hid;rw[hid,hB];rfl,aF _⟩
   cases h
  cases h
 cases h
theorem aHS{t:Nat}{x:Operand}{out:Out}(ho:o.op= .load t x)(h:HP P get k t (ev x)=aA out):Good P Γ o ev get k out:=by
 unfold HP at h;split at h;.rename_i ag n cells h1 h2 hx;simp only[aG]at h;obtain⟨v,hv,rfl⟩:=h;exact .quiet (aFH ho h1 h2 hx hv)
 .rename_i ag n id r c h1 h2 hx;split at h
  .rename_i B hB;split at h;.rename_i hc;obtain⟨rfl,rfl,_⟩:=hc;simp only[aG]at h;obtain⟨v,hv,rfl⟩:=h;exact⟨aAN ho h1 h2 hx hB hv,λ id' hid=>by simp at hid;rw[hid,hB];rfl,aF _⟩
   split at h;.rename_i row hrow;simp only[aG]at h;obtain⟨v,hv,rfl⟩:=h;exact⟨aAM ho h1 h2 hx hB hrow hv,λ id' hid=>by simp at hid;rw[hid,hB];rfl,aF _⟩
   cases h
  cases h
 cases h
theorem aCZ{t:Nat}{x y:Operand}{out:Out}(ho:o.op= .store t x y)(h:JK P get k t (ev x) (ev y)=aA out):Good P Γ o ev get k out:=by
 unfold JK at h;split at h
 .rename_i n id r c cells h1 hx hy;obtain⟨v,hv,hc⟩:=cE.1 hy;split at h
  .rename_i B hB;split at h
   .rename_i hz;obtain⟨rfl,rfl,_⟩:=hz;split at h;.rename_i hcond;cases h;exact⟨VI ho h1 hx hv hc hcond.1 hcond.2.1 hB hcond.2.2.1 hcond.2.2.2,λ id' hid=>by simp at hid;rw[hid,hB];rfl,aF _⟩
    cases h
   split at h
   .rename_i row hrow;split at h;.rename_i hcond;cases h;exact⟨aRA ho h1 hx hv hc hcond.1 hcond.2.1 hB hrow hcond.2.2,λ id' hid=>by simp at hid;rw[hid,hB];rfl,aF _⟩
    cases h
   cases h
  cases h
 cases h
theorem aDC{t:Nat}{parts:Array (Nat×Operand)}{out:Out}(ho:o.op= .build t parts)(h:QL P k t (mP ev parts.toList)=aA out):Good P Γ o ev get k out:=by
 unfold QL at h;split at h
 .rename_i cells vs h1 h2;split at h
  .rename_i hs;split at h
   .rename_i pl hpl;simp only[aG]at h;obtain⟨cs,hc,rfl⟩:=h;refine .quiet (aXC ho h1 hpl ?_ h2 hc);unfold iS at hs;split at hs;.exact⟨_,‹_›⟩
    cases hs
   cases h
  split at h;.rename_i n s ag ha;simp only[aG]at h;obtain⟨cs,hc,rfl⟩:=h;obtain⟨e,hu,hs,_⟩:=UQ ha;exact .quiet (XQ ho h1 hu hs h2 hc)
  cases h
 cases h
theorem JM{t len:Nat}{parts:Array (Nat×Operand)}{out:Out}(ho:o.op= .buildSlice t len parts)(h:sN P k t len (mP ev parts.toList)=aA out):Good P Γ o ev get k out:=by
 unfold sN at h;split at h
 .rename_i s by' zrow vs h1 h2;split at h
  .rename_i cells hc;split at h;.rename_i hcond;cases h;exact⟨RN ho h1 hcond.1 h2 hc hcond.2,λ id hid=>by simp at hid,mF _⟩
   cases h
  cases h
 cases h
theorem aHR{t:Nat}{x y:Operand}{out:Out}(ho:o.op= .makeSlice t x y)(h:aDB P k t (ev x) (ev y)=aA out):Good P Γ o ev get k out:=by
 unfold aDB at h;split at h
 .rename_i s by' zrow kl l kc c h1 hx hy;split at h;.rename_i hc;cases h;exact⟨a1O ho h1 hx hy hc.1 hc.2.1 hc.2.2.1 hc.2.2.2,λ id hid=>by simp at hid,mF _⟩
  cases h
 cases h
theorem JL{v:AVal}{s m:Nat}{rows:List (List AVal)}{p:Bool}{ids:List Nat}(h:CK get v=aA (s,m,rows,p,ids)):SrcA get v s m rows p ids/\∀id,id∈ids->(get id).isSome=aB:=by
 unfold CK at h;split at h;.cases h;exact⟨.rd,λ id hid=>by simp at hid⟩
 .split at h
  .rename_i B hB;split at h;.rename_i hle;cases h;exact⟨.sl hB hle,λ id hid=>by simp at hid;rw[hid,hB];rfl⟩
   cases h
  cases h
 .cases h;exact⟨.nil,λ id hid=>by simp at hid⟩
 cases h
theorem XY{t:Nat}{x y:Operand}{out:Out}(ho:o.op= .call {callee:= .builtin .append,args:= #[x,y],argTypes:= #[t,t]})(h:kI P get k t (ev x) (ev y)=aA out):Good P Γ o ev get k out:=by
 unfold kI at h;split at h
 .rename_i s by' z s' m rows p ids h1 hx hy;obtain⟨v,hv,hs⟩:=cE.1 hy;obtain⟨hsrc,hpres⟩:=JL hs;split at h;.rename_i hm;subst hm;cases h;exact⟨FF (idx:=[]) ho h1 hx hv (.inl ⟨rfl,rfl⟩) hsrc,hpres,aF _⟩
  split at h;.rename_i hc;cases h;obtain⟨rfl,c2,c3,c4,c5⟩:=hc;exact⟨RO ho h1 hx hv hsrc c2 c3 c4 c5,hpres,mF _⟩
  cases h
 .rename_i s by' z id n s' m rows p ids h1 hx hy;obtain⟨v,hv,hs⟩:=cE.1 hy;obtain⟨hsrc,hpres⟩:=JL hs;split at h
  .rename_i B hB;split at h
   .rename_i hm;subst hm;cases h
    exact⟨FF (idx:=[id]) ho h1 hx hv (.inr (.inr ⟨id,0,n,rfl,rfl,by rw[hB];rfl⟩)) hsrc,λ id' hid=>by
     rcases eY.1 hid with h|h;.rw[h,hB];rfl
     exact hpres id' h,aF _⟩
   split at h
   .rename_i hc;cases h;obtain⟨rfl,c2,c3,c4,c5,c6,c7,c8⟩:=hc
    exact⟨XW ho h1 hx hB c2 c3 c4 hv hsrc c5 c6 c7 c8,λ id' hid=>by
     rcases eY.1 hid with h|h;.rw[h,hB];rfl
     exact hpres id' h,mF _⟩
   cases h
  cases h
 .rename_i xx s1 n f s' m rows p ids h1 hx hy;obtain⟨s,by',z⟩:=xx;obtain⟨v,hv,hs⟩:=cE.1 hy;obtain⟨hsrc,hpres⟩:=JL hs;split at h;.rename_i hm;subst hm;cases h;exact⟨FF (idx:=[]) ho h1 hx hv (.inr (.inl ⟨s1,n,f,rfl,rfl⟩)) hsrc,hpres,aF _⟩
  cases h
 cases h
theorem wQ{t:Nat}(h:pI P t=aB):P.underlying t=aA .string:=by
 unfold pI at h;split at h;.assumption
 cases h
theorem VM{t:Nat}{x:Operand}{lo hi:Option Operand}{str:ByteArray}{l h:Int}(ho:o.op= .slice t x lo hi aC)(ht:pI P t=aB)(hx:ev x=aA (.lit (.string str)))(hl:bound ev lo 0=aA l)(hh:bound ev hi str.size=aA h)
 (h0:0<=l) (h1:l<=h) (h2:h<=str.size):OpOk P Γ o ev get k ⟨.lit (.string (str.extract l.toNat h.toNat)),k,[],[]⟩:=by
 refine cF λ w G ρ H A a hr _ hop=>⟨.string (str.extract l.toNat h.toNat),?_,.lit⟩;have ex:a.eval x= .string str:=gO (hop x (by simp[ho,Op.operands]) _ hx);have el:=nH (w:=w) (G:=G) (ρ:=ρ) (A:=A) (a:=a) hl (λ y hy v hv=>hop y (by simp[ho,Op.operands,hy]) v hv);have eh:=nH (w:=w) (G:=G) (ρ:=ρ) (A:=A) (a:=a) hh (λ y hy v hv=>hop y (by simp[ho,Op.operands,hy]) v hv);have hu:=wQ ht
 have hb:(Instr.sliceBounds aE str.size str.size (lo.map a.eval) (hi.map a.eval) aC).run P w= .ok (l.toNat,h.toNat,str.size) w:=by
  have q1:(0:Int)<=h/\h<=(str.size:Int):=⟨oO,oO⟩;have q3:(0:Int)<=l/\l<=(h.toNat:Int):=⟨h0,oO⟩;rcases el with⟨e1,rfl⟩|⟨kl,e1⟩<;>rcases eh with⟨e2,rfl⟩|⟨kh,e2⟩<;>rw[e1,e2];.simp[Instr.sliceBounds]
  .simp[Instr.sliceBounds,Instr.sliceBound,asIntOf,q1]
  .have q2:(0:Int)<=l/\l<=(str.size:Int):=⟨h0,h1⟩;simp[Instr.sliceBounds,Instr.sliceBound,asIntOf,q2]
  simp only[Instr.sliceBounds,Instr.sliceBound,asIntOf,bN,dE,bG,q1,and_self,if_true,q3]
 simp only[execOp,ho,ex,oB,Instr.sliceAt,underlying,bN,run_program,bG,hu,dE,Instr.slice];simp[hb]
theorem NL{w:World}{G:Nat->Prop}{ρ:cY}{A:bZ}{B:Blk}{C:Array Value}(hrows:∀r row c v,B.rows[r]? =aA row->row[c]? =aA v->∃cv,C[r*B.sz+c]? =aA cv/\V w G ρ A v cv)
 (hlen:∀(r:Nat) row,B.rows[r]? =aA row->row.length=B.sz):B.rows.length*B.sz<=C.size:=by
 by_cases h0:B.rows.length*B.sz=0;.omega
 have hr:0<B.rows.length:=a4T λ e=>h0 (by rw[e];simp);have hs:0<B.sz:=a4T λ e=>h0 (by rw[e];simp);obtain⟨row,v,h1,h2⟩:=wM (s:=B.sz) (r:=B.rows.length-1) (c:=B.sz-1) hlen oO oO;obtain⟨cu,h3,_⟩:=hrows _ row _ v h1 h2;have h4:=(dA.1 h3).1;have:B.rows.length*B.sz=(B.rows.length-1)*B.sz+B.sz:=by have e1:B.rows.length=(B.rows.length-1)+1:=oO;rw[e1,cQ];simp
 omega
theorem VN{t n s id:Nat}{x:Operand}{B:Blk}(ho:o.op= .slice t x aC aC aC)(ha:DM P t=aA (n,s))(hx:ev x=aA (.ptr id 0 0))(hB:get id=aA B)(hs:B.sz=s)(hn:B.rows.length=n)
 (hm:n<=281474976710656):OpOk P Γ o ev get k ⟨.sl id 0 n,k,[],[id]⟩:=by
 refine cF λ w G ρ H A a hr hrd hop=>?_;have hvx:=hop x (by simp[ho,Op.operands]) _ hx;obtain⟨B',A',h3,hH,_⟩:=hrd id (by simp);rw[hB]at h3;cases h3;obtain⟨_,b,hb,_,hBR⟩:=hr.blk id B A' hH;obtain⟨e,i,hu,hi,hsz⟩:=aCS ha;generalize hev:a.eval x=cv at hvx
 cases hvx with
 |dang _ hn'=>rw[hb]at hn';cases hn'
 |ptr ha' hρ hsh=>
  rw[hb]at hρ;cases hρ;obtain⟨⟨C,ty,hC,hrows⟩,hlen⟩:=hBR.old hsh;have hfit:=NL hrows hlen;refine⟨.slice (aA ⟨b,0,aC⟩) n n,?_,.sl ha' hb (w:=w) (ty:=ty) (m:=C.size) (by unfold World.shape?;rw[hC]) (by rw[fH,<-hn];exact hfit) (aF _) (by unfold maxLen;omega) (.inr (by simp))⟩;simp only[execOp,ho,hev,oB,Instr.sliceAt,underlying,bN,run_program,bG,hu,dE,Instr.sureAddr,Instr.sliceBounds,sizeOf,typeInfo,hi];by_cases hn0:n=0;.subst hn0;simp
  simp[hn0,Addr.add]
theorem aDA{t:Nat}{x:Operand}{lo hi:Option Operand}{out:Out}(ho:o.op= .slice t x lo hi aC)(h:QK P ev get k t x lo hi=aA out):Good P Γ o ev get k out:=by
 unfold QK at h;split at h
 .rename_i s n f hx;split at h
  .rename_i l hh h1 h2;split at h;.rename_i hc;cases h;exact⟨ZF ho hc.1 hx h1 h2 hc.2.1 hc.2.2.1 hc.2.2.2,λ id hid=>by simp at hid,aF _⟩
   cases h
  cases h
 .rename_i id r n hx;split at h
  .rename_i B l hh hB h1 h2;split at h;.rename_i hc;cases h;exact⟨ZE ho hc.1 hx hB rfl h1 h2 hc.2.1 hc.2.2.1 hc.2.2.2,λ id' hid=>by simp at hid;rw[hid,hB];rfl,aF _⟩
   cases h
  cases h
 .rename_i str hx;split at h
  .rename_i l hh h1 h2;split at h;.rename_i hc;cases h;exact .quiet (VM ho hc.1 hx h1 h2 hc.2.1 hc.2.2.1 hc.2.2.2)
   cases h
  cases h
 .rename_i id r c hx;split at h
  .rename_i B n s hB ha;split at h;.rename_i hc;obtain⟨rfl,rfl,h1,h2,h3,h4⟩:=hc;cases h;exact⟨VN ho ha hx hB h1 h2 h4,λ id' hid=>by simp at hid;rw[hid,hB];rfl,aF _⟩
   cases h
  cases h
 cases h
theorem NR{v:AVal}(h:dY get v=aB):∀id,id∈EG v->(get id).isSome=aB:=λ id hid=>by
 cases v<;>simp[EG]at hid;.subst hid;exact h
 subst hid;simp only[dY,aH]at h;exact h.1
theorem aYD{op:BinOp}{t ty:Nat}{x y:Operand}{v z:AVal}{neg:Bool}{out:Out}(ho:o.op= .binOp op t x y ty)(hneg:xR op=aA neg)(hx:ev x=aA v)(hy:ev y=aA z)(h:aEq P get k t neg v z=aA out):Good P Γ o ev get k out:=by
 have ho':o.op= .binOp (if neg then .neq else .eql) t x y ty:=by
  cases op<;>simp[xR]at hneg;.subst hneg;exact ho
  subst hneg;exact ho
 unfold aEq at h;split at h
 .rename_i hagg;split at h
  .rename_i offs xs ys h1 h2 h3;simp only[aG]at h;obtain⟨p,hp,rfl⟩:=h
   cases v with
   |agg xc=>
    cases z with
    |agg yc=>exact .quiet (aVL ho' h1 hx hy h2 h3 hp)
    |_=>simp[OS]at hagg
   |_=>simp[OS]at hagg
  cases h
 split at h
 .rename_i hc;simp only[aH]at hc;split at h;.rename_i hk;cases h;exact⟨aBT ho' hk.1 (.inl ⟨hx,hy⟩) hc.2 hc.1 rfl (by rw[hk.2]at hk;exact(aA.inj hk.1)),NR hc.2,aF _⟩
  cases h
 split at h
 .rename_i hc;simp only[aH]at hc;split at h;.rename_i hk;cases h;exact⟨aBT ho' hk.2 (.inr ⟨hx,hy⟩) hc.2 hc.1 rfl (by rw[hk.1]at hk;exact(aA.inj hk.2)),NR hc.2,aF _⟩
  cases h
 cases h
theorem XE{t:Nat}(ht:EE P t=aA 1)(d:Nat)(x y:Bool)(w:World):(Op.equalIn (d+1) t (.bool x) (.bool y)).run P w= .ok (x==y) w:=
 JH ht (by simp[KJ]) w
theorem aXH{op:BinOp}{t:Nat}{a b v:Value}(h:aPE P op t a b=aA v)(xo yo:Operand)(w:World):(do eqGuard op t xo yo a b;binOp op t a b:Sem Value).run P w= .ok v w:=by
 unfold aPE at h;split at h
 .rename_i k x k' y;have hg:(eqGuard op t xo yo (.int k x) (.int k' y)).run P w= .ok () w:=iB (by simp) (by simp) op xo yo w;rw[bN,hg,bG];split at h
  .cases op<;>simp[MD]at*
   .simp only[aIR]at h;split at h;.cases h
    rename_i hlt;cases h;simp[binOp,Op.shift,hlt]
   simp only[aIR]at h;split at h;.cases h
   rename_i hlt;cases h;simp[binOp,Op.shift,hlt]
  split at h
  .rename_i hns he;subst he
   cases op<;>simp only[aFM,MD,bX,not_true_eq_false]at h hns<;>first
    |(cases h;simp[binOp,Op.intArith,Op.intBits,Op.intCmp];done)
    |(split at h;· cases h
      · rename_i hz;cases h;simp[binOp,Op.intDiv,hz])
    |cases h
  cases h
 .rename_i x y;have hg:(eqGuard op t xo yo (.string x) (.string y)).run P w= .ok () w:=iB (by simp) (by simp) op xo yo w;rw[bN,hg,bG]
  cases op<;>simp only[aDZ]at h<;>first
   |(split at h;· cases h
     · rename_i hz;cases h
       have hz':¬(((x.size+y.size:Nat):Int)>aL.max):=hz
       simp only[binOp,Op.stringOp,iN hz'];rfl)
   |(cases h;simp[binOp,Op.stringOp];done)
   |cases h
 .rename_i x y;have hg:(eqGuard op t xo yo (.bool x) (.bool y)).run P w= .ok () w:=iB (by simp) (by simp) op xo yo w;rw[bN,hg,bG];split at h
  .rename_i ht;have he:(Op.equal t (.bool x) (.bool y)).run P w= .ok (x==y) w:=XE ht 9999 x y w;have:=zE (P:=P) (t:=t) (x:= .bool x) (y:= .bool y) (w:=w) (by simp) he;split at h;.cases h;exact this.1
   .cases h;exact this.2
   cases h
  cases h
 .have hg:(eqGuard op t xo yo (.pointer aC) (.pointer aC)).run P w= .ok () w:=iB (by simp) (by simp) op xo yo w;rw[bN,hg,bG];split at h
  .rename_i ht;unfold xK at ht;split at ht<;>cases ht;rename_i e hu;have he:(Op.equal t (.pointer aC) (.pointer aC)).run P w= .ok aB w:=XD hu 9999 w
   cases op<;>simp only[]at h<;>first
    |(cases h;simp[binOp,he];done)
    |cases h
  cases h
 .rename_i m c m' c';have hg:(eqGuard op t xo yo (.slice aC m c) (.slice aC m' c')).run P w= .ok () w:=iB (by simp) (by simp) op xo yo w;rw[bN,hg,bG];split at h
  .rename_i ht;unfold xK at ht;split at ht<;>cases ht;rename_i e hu;have he:(Op.equal t (.slice aC m c) (.slice aC m' c')).run P w= .ok aB w:=aBR hu 9999 m c m' c' w
   cases op<;>simp only[]at h<;>first
    |(cases h;simp[binOp,he];done)
    |cases h
  cases h
 cases h
theorem a3Z{op:BinOp}{t ty:Nat}{x y:Operand}{a b v:Value}(ho:o.op= .binOp op t x y ty)(hx:ev x=aA (.lit a))(hy:ev y=aA (.lit b))(h:aPE P op t a b=aA v):OpOk P Γ o ev get k ⟨.lit v,k,[],[]⟩:=by
 refine cF λ w G ρ H A act hr _ hop=>⟨v,?_,.lit⟩;have ex:act.eval x=a:=gO (hop x (by simp[ho,Op.operands]) _ hx);have ey:act.eval y=b:=gO (hop y (by simp[ho,Op.operands]) _ hy);have:=aXH (P:=P) h x y w;simp only[execOp,ho,ex,ey];rw[bN]at this⊢
 rw[bN,this];rfl
theorem a6U{op:UnOp}{t:Nat}{x:Operand}{a v:Value}(ho:o.op= .unOp op t x)(hx:ev x=aA (.lit a))(h:unV op a=aA v):OpOk P Γ o ev get k ⟨.lit v,k,[],[]⟩:=by
 refine cF λ w G ρ H A act hr _ hop=>⟨v,?_,.lit⟩;have ex:act.eval x=a:=gO (hop x (by simp[ho,Op.operands]) _ hx);unfold unV at h;split at h;.cases h;simp[execOp,ho,ex,Op.unary]
 .cases h;simp[execOp,ho,ex,Op.unary,Op.intArith]
 cases h
theorem EV{t:Nat}{kk:IntKind}(h:vB P t=aA kk):P.underlying t=aA (.int kk):=by
 unfold vB at h;split at h;.cases h;assumption
 cases h
theorem a3N{src dst:Nat}{x:Operand}{k1 k2 kk:IntKind}{n:Int}(ho:o.op= .convert src dst x)(hx:ev x=aA (.lit (.int k1 n)))(h1:vB P src=aA k2)(h2:vB P dst=aA kk):OpOk P Γ o ev get k ⟨.lit (.int kk (kk.wrap n)),k,[],[]⟩:=by refine cF λ w G ρ H A act hr _ hop=>⟨.int kk (kk.wrap n),?_,.lit⟩;have ex:act.eval x= .int k1 n:=gO (hop x (by simp[ho,Op.operands]) _ hx);simp[execOp,ho,ex,convert,run_underlying (EV h1),run_underlying (EV h2),Conv.intToInt]
theorem aGX{src dst:Nat}{x:Operand}{k1 k2:IntKind}{n:Int}(ho:o.op= .convert src dst x)(hx:ev x=aA (.lit (.int k1 n)))(h1:vB P src=aA k2)(h2:pI P dst=aB):OpOk P Γ o ev get k ⟨.lit (.string (Utf8.encode n)),k,[],[]⟩:=by refine cF λ w G ρ H A act hr _ hop=>⟨.string (Utf8.encode n),?_,.lit⟩;have ex:act.eval x= .int k1 n:=gO (hop x (by simp[ho,Op.operands]) _ hx);simp[execOp,ho,ex,convert,run_underlying (EV h1),run_underlying (wQ h2),Conv.intToString]
theorem aNV{t:Nat}{x:Operand}{str:ByteArray}{ty:Array TypeId}(ho:o.op= .call {callee:= .builtin .len,args:= #[x],argTypes:=ty})(hty:ty[0]? =aA t)(ht:pI P t=aB)(hx:ev x=aA (.lit (.string str))):OpOk P Γ o ev get k ⟨.lit (.int .i64 str.size),k,[],[]⟩:=by refine cF λ w G ρ H A act hr _ hop=>⟨.int .i64 str.size,?_,.lit⟩;have ex:act.eval x= .string str:=gO (hop x (by simp[ho,Op.operands,Call.operands]) _ hx);simp[execOp,ho,resolve,invoke,builtin,Builtin.len_,hty,ex,run_underlying (wQ ht),goInt]
theorem aOB{t:Nat}{x y:Operand}{str:ByteArray}{kk:IntKind}{i:Int}(ho:o.op= .index t x y)(ht:pI P t=aB)(hx:ev x=aA (.lit (.string str)))(hy:ev y=aA (.lit (.int kk i)))(h0:0<=i)(h1:i<str.size):
 OpOk P Γ o ev get k ⟨.lit (.int .u8 ((str.data.toList.getD i.toNat 0).toNat)),k,[],[]⟩:=by
 refine cF λ w G ρ H A act hr _ hop=>⟨_,?_,.lit⟩;have ex:act.eval x= .string str:=gO (hop x (by simp[ho,Op.operands]) _ hx);have ey:act.eval y= .int kk i:=gO (hop y (by simp[ho,Op.operands]) _ hy);have hlt:i.toNat<str.size:=oO;have hg:str[i.toNat]? =aA (str.data.toList.getD i.toNat 0):=by rw[getElem?_pos str i.toNat hlt];congr 1;rw[aR,aJ (by simpa using hlt)];rfl
 simp only[execOp,ho,ex,ey,Instr.index,asIntOf,bN,dE,bG,run_underlying (wQ ht),iP h0,hg]
theorem nA{x:Option AVal}{out:Out}(h:qA k x=aA out):∃v,x=aA v/\out=mY k v:=by
 cases x with
 |none=>cases h
 |some v=>cases h;exact⟨v,rfl,rfl⟩
theorem TF{x y:Operand}{ty:Array TypeId}{kk:IntKind}{a b:Int}{mx:Bool}(ho:o.op= .call {callee:= .builtin (if mx then .max else .min),args:= #[x,y],argTypes:=ty})(hx:ev x=aA (.lit (.int kk a)))(hy:ev y=aA (.lit (.int kk b))):
 OpOk P Γ o ev get k ⟨.lit (.int kk (if mx then(if b>a then b else a)else(if b<a then b else a))),k,[],[]⟩:=by
 refine cF λ w G ρ H A act hr _ hop=>⟨_,?_,.lit⟩;have ex:act.eval x= .int kk a:=gO (hop x (by cases mx<;>simp[ho,Op.operands,Call.operands]) _ hx);have ey:act.eval y= .int kk b:=gO (hop y (by cases mx<;>simp[ho,Op.operands,Call.operands]) _ hy);cases mx;.simp[execOp,ho,resolve,invoke,builtin,ex,ey,Builtin.min_,Builtin.min2]
 simp[execOp,ho,resolve,invoke,builtin,ex,ey,Builtin.max_,Builtin.max2]
theorem aNW{t:Nat}{x:Operand}{ty:Array TypeId}(ho:o.op= .call {callee:= .builtin .len,args:= #[x],argTypes:=ty})(hty:ty[0]? =aA t)(ht:fX P t=aB)(hx:ev x=aA (.lit (.slice aC 0 0))):OpOk P Γ o ev get k ⟨.lit (.int .i64 0),k,[],[]⟩:=by
 refine cF λ w G ρ H A act hr _ hop=>⟨.int .i64 0,?_,.lit⟩;have ex:act.eval x= .slice aC 0 0:=gO (hop x (by simp[ho,Op.operands,Call.operands]) _ hx);unfold fX at ht;split at ht;.rename_i e hu;simp[execOp,ho,resolve,invoke,builtin,Builtin.len_,hty,ex,run_underlying hu,goInt]
 cases ht
theorem QE{args:Array Operand}{f:Operand->Option Out}{out:Out}(h:aCU args f=aA out):∃x,args= #[x]/\f x=aA out:=by
 unfold aCU at h;split at h;.rename_i x ha;exact⟨x,by rw[<-bOW (xs:=args),ha],h⟩
 cases h
theorem FE{args:Array Operand}{f:Operand->Operand->Option Out}{out:Out}(h:US args f=aA out):∃x y,args= #[x,y]/\f x y=aA out:=by
 unfold US at h;split at h;.rename_i x y ha;exact⟨x,y,by rw[<-bOW (xs:=args),ha],h⟩
 cases h
theorem sM{out:Out}(h:AT P Γ o ev get k=aA out):Good P Γ o ev get k out:=by
 unfold AT at h;split at h;.rename_i x ho;obtain⟨v,hv,rfl⟩:=nA h;exact .quiet (aJM (.inl ho) hv)
 .rename_i x ho;obtain⟨v,hv,rfl⟩:=nA h;exact .quiet (aJM (.inr ho) hv)
 .rename_i c x y ho;unfold aIY at h;split at h;.rename_i t hc;obtain⟨v,hv,rfl⟩:=nA h;exact .quiet (a0O ho hc hv)
  cases h
 .rename_i x ho;unfold aSX at h;split at h;.rename_i c hx;cases h;exact .quiet (JZ ho hx (.inl ⟨c,rfl⟩))
  .rename_i i r c hx;split at h;.rename_i hi;cases h;exact⟨JZ ho hx (.inr ⟨i,r,c,rfl,hi⟩),λ id hid=>by simp at hid;rw[hid];exact hi,aF _⟩
   cases h
  cases h
 .rename_i s x f ho;unfold PF at h;split at h;.rename_i off cells h1 hx;cases h;exact .quiet (GQ ho h1 (.inl ⟨cells,hx,rfl⟩))
  .rename_i off i r c h1 hx;split at h;.rename_i hi;cases h;exact⟨GQ ho h1 (.inr ⟨i,r,c,hx,hi,rfl⟩),λ id hid=>by simp at hid;rw[hid];exact hi,aF _⟩
   cases h
  cases h
 .rename_i t x y ho;exact LL ho h
 .rename_i t x ho;exact aHS ho h
 .rename_i t x y ho;exact aCZ ho h
 .rename_i t ho;unfold aEX at h;split at h;.rename_i cells hz;cases h;exact⟨aXX ho hz,λ id hid=>by simp at hid,mF _⟩
  cases h
 .rename_i t x ho;unfold aEX at h;split at h;.rename_i cells hz;cases h;obtain⟨v,hv,hc⟩:=cE.1 hz;exact⟨bAA ho hv hc,λ id hid=>by simp at hid,mF _⟩
  cases h
 .rename_i t parts ho;exact aDC ho h
 .rename_i t len parts ho;exact JM ho h
 .rename_i t x y ho;exact aHR ho h
 .rename_i t x lo hi ho;exact aDA ho h
 .rename_i s x f ho;unfold aKT at h;split at h;.rename_i off n ag cells h1 hx;obtain⟨v,hv,rfl⟩:=nA h;exact .quiet (aVG ho h1 hx hv)
  cases h
 .rename_i t x y ho;unfold WR at h;split at h
  .rename_i cells kk i hx hy;split at h
   .rename_i m s ag ha;split at h;.rename_i hc;obtain⟨v,hv,rfl⟩:=nA h;obtain⟨e,hu,hs,hg⟩:=UQ ha;exact .quiet (WQ ho hu hg hs hx hy hc.1 hc.2 hv)
    cases h
   cases h
  .rename_i str kk i hx hy;split at h;.rename_i hc;cases h;exact .quiet (aOB ho hc.1 hx hy hc.2.1 hc.2.2)
   cases h
  cases h
 .rename_i x i ho;unfold GU at h;split at h;.rename_i vs hx;obtain⟨v,hv,rfl⟩:=nA h;exact .quiet (aGD ho hx hv)
  cases h
 .rename_i f first caps ho
  split at h
  .rename_i hf;unfold a2F at h;split at h
   .rename_i vs hv;cases h;have he:first= #[]:=jN hf
    subst he;obtain⟨h1,h2⟩:=CB hv;exact .quiet (aAJ ho (by simpa using h1) (λ j x v hx hv'=>h2 j x v (by rw[bF];exact hx) hv'))
   cases h
  split at h
  .rename_i hc0;obtain⟨x,rfl,hq⟩:=QE h;replace h:=hq;clear hq
   cases hx:ev x with
   |none=>rw[hx]at h;cases h
   |some v=>
    rw[hx]at h
    cases v with
    |ptr i r c=>cases h;refine .quiet (cF λ w G ρ H A a hr _ hop=>⟨.func (.func f) #[a.eval x] #[],?_,.bfn (hop x (by simp[ho,Op.operands]) _ hx)⟩);have:caps= #[]:=jN hc0;subst this;simp[execOp,ho,Instr.makeFunc]
    |_=>cases h
  cases h
 .rename_i args ty ho;split at h;.cases h
  rename_i hne;obtain⟨x,rfl,hq⟩:=QE h;replace h:=hq;clear hq
  have hnum:ty[0]? =aA (ty.toList.headD 0):=by
   cases hl:ty.toList with
   |nil=>exact absurd (by simp[Array.toList_eq_nil_iff.1 hl]) hne
   |cons a r=>rw[<-bF,hl];rfl
  cases hx:ev x with
  |none=>rw[hx]at h;cases h
  |some v=>
   rw[hx]at h
   cases v with
   |rd s n f=>
    simp only[yQ]at h;split at h;.rename_i hs;cases h;exact .quiet (aUC ho hnum hs hx (.inl ⟨s,f,rfl⟩))
    cases h
   |sl id r n=>
    simp only[yQ]at h;split at h;.rename_i hc;cases h;exact⟨aUC ho hnum hc.1 hx (.inr ⟨id,r,rfl,hc.2⟩),λ id' hid=>by simp at hid;rw[hid];exact hc.2,aF _⟩
    cases h
   |lit u=>
    cases u with
    |string str=>
     simp only[yQ]at h;split at h;.rename_i hs;cases h;exact .quiet (aNV ho hnum hs hx)
     cases h
    |slice a n c=>
     cases a with
     |some=>simp[yQ]at h
     |none=>
      cases n with
      |succ=>simp[yQ]at h
      |zero=>
       cases c with
       |succ=>simp[yQ]at h
       |zero=>
        simp only[yQ]at h;split at h;.rename_i hs;cases h;exact .quiet (aNW ho hnum hs hx)
        cases h
    |_=>simp[yQ]at h
   |_=>simp[yQ]at h
 .rename_i args ty ho;obtain⟨x,y,rfl,hq⟩:=FE h;replace h:=hq;clear hq;split at h
  .rename_i ht;have htys:ty= #[ty.toList.headD 0,ty.toList.headD 0]:=by rw[<-bOW (xs:=ty)];rw[ht];simp
   generalize ty.toList.headD 0=t at h htys;subst htys;exact XY ho h
  cases h
 .rename_i args ty ho;obtain⟨x,y,rfl,hq⟩:=FE h;replace h:=hq;clear hq;unfold aTN at h;split at h
  .rename_i k1 a k2 b hx hy;split at h;.rename_i he;subst he;cases h;exact .quiet (TF (mx:=aB) ho hx hy)
   cases h
  cases h
 .rename_i args ty ho;obtain⟨x,y,rfl,hq⟩:=FE h;replace h:=hq;clear hq;unfold aTI at h;split at h
  .rename_i k1 a k2 b hx hy;split at h;.rename_i he;subst he;cases h;exact .quiet (TF (mx:=aE) ho hx hy)
   cases h
  cases h
 .rename_i op t x y ty ho;unfold XT at h;split at h;.rename_i a b hx hy;obtain⟨v,hv,rfl⟩:=nA h;simp only[aG]at hv;obtain⟨u,hu,rfl⟩:=hv;exact .quiet (a3Z ho hx hy hu)
  .rename_i v z _ hx hy;split at h;.rename_i neg hneg;exact aYD ho hneg hx hy h
   cases h
  cases h
 .rename_i op t x ho;unfold unO at h;split at h;.rename_i a hx;obtain⟨v,hv,rfl⟩:=nA h;simp only[aG]at hv;obtain⟨u,hu,rfl⟩:=hv;exact .quiet (a6U ho hx hu)
  cases h
 .rename_i src dst x ho;unfold aLF at h;split at h;.rename_i k1 k' kk n h1 h2 hx;cases h;exact .quiet (a3N ho hx h1 h2)
  .rename_i k1 kk n h1 h2 hx;split at h;.rename_i hs;cases h;exact .quiet (aGX ho hx h1 hs)
   cases h
  cases h
 cases h
end
inductive Orc where
 |ret (v:AVal)
 |gen (v:AVal) (k':Nat) (Hc Hout:aO)
 |raw (d:Option Nat) (out:Out)
 |far (v:AVal) (k':Nat) (loc Hc Hout:aO)
def Orc.out (c:Orc)(k:Nat):Out:=
 match c with
 | .ret v=>⟨v,k,[],[]⟩
 | .gen v k' Hc Hout=>jH v k' Hc Hout
 | .raw _ out=>out
 | .far v k' _ Hc Hout=>jH v k' Hc Hout
def Orc.heap (c:Orc)(k:Nat)(H:aO):aO:=
 match c with
 | .far _ _ loc _ Hout=>loc++Hout
 |c=>lK H (c.out k).upd
def xF:aO->Nat->Blk->aO
 |[],i,B=>[(i,B)]
 |(a,x)::r,i,B=>if a=i then(a,B)::r else(a,x)::xF r i B
def KY(H:aO):List (Nat×Option Blk)->aO
 |[]=>H
 |(i,aA B)::r=>xF (KY H r) i B
 |(i,aC)::r=>del (KY H r) i
def WO(o:Oper):Bool:=
 match o.op with
 | .store .. =>aB
 |_=>aE
def WS(b:Bool)(H:aO)(u:List (Nat×Option Blk)):aO:=
 match b with
 |true=>KY H u
 |false=>lK H u
theorem DD:∀(H:aO) (i:Nat) (B:Blk) (j:Nat),look (xF H i B) j=if j=i then aA B else look H j
 |[],i,B,j=>by simp only[xF,look,eq_comm]
 |(a,x)::r,i,B,j=>by
  simp only[xF];by_cases h:a=i
  .subst h;rw[iP rfl];simp only[look];by_cases hj:a=j;.subst hj;rw[iP rfl,iP rfl]
   rw[iN hj,iN hj,iN (λ e=>hj e.symm)]
  rw[iN h];simp only[look];by_cases hj:a=j;.subst hj;rw[iP rfl,iP rfl,iN h]
  rw[iN hj,iN hj,DD r i B j]
theorem IY(H:aO):∀(u:List (Nat×Option Blk)) (j:Nat),look (KY H u) j=look (lK H u) j
 |[],_=>rfl
 |(i,aA B)::r,j=>by
  rw[KY,DD,IY H r j];simp only[lK,look,gU];by_cases h:j=i;.subst h;simp
  rw[iN h,iN (λ e=>h e.symm),iN h]
 |(i,aC)::r,j=>by rw[KY,gU];simp only[lK,gU];rw[IY H r j]
theorem TK(b:Bool)(H:aO)(u:List (Nat×Option Blk)):look (WS b H u)=look (lK H u):=by
 cases b;.rfl
 exact funext λ j=>IY H u j
theorem EL{H H':aO}(h:look H=look H')(u:List (Nat×Option Blk)):look (lK H u)=look (lK H' u):=funext λ i=>by rw[mI,mI,h]
theorem BS:∀(a b:aO) (i:Nat),look (a++b) i=match look a i with|some x=>aA x|none=>look b i
 |[],b,i=>rfl
 |(j,x)::r,b,i=>by
  simp only[aV,look];by_cases h:j=i;.rw[iP h,iP h]
  rw[iN h,iN h];exact BS r b i
def GA(d:Option Nat):List Orc->Option (Out×List Orc)
 | .raw d' out::r=>if d=d' then aA (out,r)else aC
 |_=>aC
def uZ(o:Oper):Bool:=
 match o.op with
 | .call {callee:= .value _,args:=_,argTypes:=_}=>aB
 |_=>aE
def aIX(o:Oper):Bool:=
 match o.op with
 | .call {callee:= .builtin .copy,args:=_,argTypes:=_}=>aB
 | .call {callee:= .builtin .cap,args:=_,argTypes:=_}=>aB
 | .call {callee:= .builtin .clear,args:=_,argTypes:=_}=>aB
 | .call {callee:= .builtin .delete,args:=_,argTypes:=_}=>aB
 | .call {callee:= .builtin .append,args:=_,argTypes:=ty}=>match ty.toList with|[a,b]=>a !=b|_=>aE
 | .slice _ _ _ _ (aA _)=>aB
 | .lookup .. =>aB
 | .mapUpdate .. =>aB
 | .makeMap .. =>aB
 | .range .. =>aB
 | .next .. =>aB
 |_=>aE
def inH(get:Nat->Option Blk):aO->Prop
 |[]=>True
 |(id,B)::r=>get id=aA B/\inH get r
def eqG(get:Nat->Option Blk)(H:aO):Prop:=∀i,get i=look H i
def rL(loc Hc Hout:aO):Prop:=∀i,eQ Hc i=aB\/eQ Hout i=aB->look loc i=aC
def CallReq(P:Program)(Γ:dL)(o:Oper)(ev:Operand->Option AVal)(get:Nat->Option Blk)(k:Nat)(c:Orc):Prop:=
 match o.op with
 | .call {callee:= .value f,args:=args,argTypes:=_}=>match ev f,pJ ev args.toList with
   | some (.fn g caps),aA vs=>aT P g=aB/\(match c with
     | .ret v=>(vs++caps).all (bd λ _=>aE)=aB/\Pure P Γ g (vs++caps) v
     | .gen v k' Hc Hout=>(vs++caps).all (bd (eQ Hc))=aB/\oM (eQ Hc) Hc=aB/\inH get Hc/\k<=k'/\Tr P Γ g k (vs++caps) Hc (λ k1 r1 H1=>k1=k'/\r1=v/\H1=Hout)
     | .raw _ _=>False
     | .far v k' loc Hc Hout=>(vs++caps).all (bd (eQ Hc))=aB/\oM (eQ Hc) Hc=aB/\eqG get (loc++Hc)/\rL loc Hc Hout/\k<=k'/\Tr P Γ g k (vs++caps) Hc (λ k1 r1 H1=>k1=k'/\r1=v/\H1=Hout))
   | some (.bfn g i r0 c0),aA vs=>aT P g=aB/\(match c with
     | .ret _=>False
     | .gen v k' Hc Hout=>(.ptr i r0 c0::vs).all (bd (eQ Hc))=aB/\oM (eQ Hc) Hc=aB/\inH get Hc/\k<=k'/\Tr P Γ g k (.ptr i r0 c0::vs) Hc (λ k1 r1 H1=>k1=k'/\r1=v/\H1=Hout)
     | .raw _ _=>False
     | .far v k' loc Hc Hout=>(.ptr i r0 c0::vs).all (bd (eQ Hc))=aB/\oM (eQ Hc) Hc=aB/\eqG get (loc++Hc)/\rL loc Hc Hout/\k<=k'/\Tr P Γ g k (.ptr i r0 c0::vs) Hc (λ k1 r1 H1=>k1=k'/\r1=v/\H1=Hout))
   |_,_=>False
 |_=>False
def UA(g:Option Bool)(X Y:Prop):Prop:=
 match g with
 |none=>False
 |some b=>if b=aB then Y else X
def aAA(g:Option Out)(f:Out->Prop):Prop:=
 match g with
 |none=>False
 |some out=>f out
def aXA(cs:List Orc)(f:Orc->List Orc->Prop):Prop:=
 match cs with
 |[]=>False
 |c::r=>f c r
def aRM(o:Oper)(cs:List Orc):List Orc:=match GA o.dst cs with
 |some x=>x.2
 |none=>if uZ o=aB then cs.tail else cs
def aSO(g:Option (Out×List Orc))(f:Out->List Orc->Prop)(X:Prop):Prop:=
 match g with
 |none=>X
 |some x=>f x.1 x.2
def RunF(P:Program)(Γ:dL)(all:Array Oper):List Oper->List Orc->Nat->Fr->aO->(List Foot->Nat->Fr->aO->Prop)->Prop
 |[],_,k,fr,H,K=>K [] k fr H
 |o ::r,cs,k,fr,H,K=>UA (mO all fr o) (RunF P Γ all r (aRM o cs) k (jE fr o.dst (.lit undef)) H (λ tr=>K (⟨[],[],k,k⟩::tr)))
    (aSO (GA o.dst cs) (λ out cs'=>Good P Γ o (kV Γ fr) (look H) k out/\RunF P Γ all r cs' out.k (jE fr o.dst out.v) (KY H out.upd) (λ tr=>K (⟨out.rds,out.upd.map (·.1),k,out.k⟩::tr)))
    (if uZ o=aB then aXA cs λ c cs'=>CallReq P Γ o (kV Γ fr) (look H) k c/\RunF P Γ all r cs' (c.out k).k (jE fr o.dst (c.out k).v) (c.heap k H) (λ tr=>K (⟨(c.out k).rds,(c.out k).upd.map (·.1),k,(c.out k).k⟩::tr))
    else aAA (AT P Γ o (kV Γ fr) (look H) k) λ out=>RunF P Γ all r cs out.k (jE fr o.dst out.v) (WS (WO o) H out.upd) (λ tr=>K (⟨out.rds,out.upd.map (·.1),k,out.k⟩::tr))))
section
variable{P:Program}{Γ:dL}
theorem OW{get:Nat->Option Blk}:∀ {Hc:aO},inH get Hc->∀id B,look Hc id=aA B->get id=aA B
 |[],_,id,B,h=>by simp[look]at h
 |(i,C)::r,⟨h1,h2⟩,id,B,h=>by
  simp only[look]at h;split at h;.rename_i he;subst he;cases h;exact h1
  exact OW h2 id B h
theorem aUJ:eQ []=λ _=>aE:=funext λ i=>rfl
theorem CallReq.good {o:Oper}{ev:Operand->Option AVal}{get:Nat->Option Blk}{k:Nat}{c:Orc}(h:CallReq P Γ o ev get k c):Good P Γ o ev get k (c.out k):=by
 unfold CallReq at h;split at h
 .rename_i f args ty ho;split at h
  .rename_i g caps vs hf ha;obtain⟨hg,h⟩:=h
   cases c with
   |ret v=>obtain⟨h1,h2⟩:=h;have:=MO (P:=P) (Γ:=Γ) (get:=get) (k:=k) (Hc:=[]) (Hout:=[]) (r:=v) (k':=k) ho hg hf ha (by rw[aUJ];exact h1) rfl (λ id B hB=>by simp[look]at hB) (h2 k) (aF _);exact this
   |gen v k' Hc Hout=>obtain⟨h1,h2,h3,h4,h5⟩:=h;exact MO ho hg hf ha h1 h2 (OW h3) h5 h4
   |raw d out=>exact h.elim
   |far v k' loc Hc Hout=>obtain⟨h1,h2,h3,h4,h5,h6⟩:=h;exact MO ho hg hf ha h1 h2 (λ id B hB=>by rw[h3,BS,h4 id (.inl (by simp[eQ,hB]))];exact hB) h6 h5
  .rename_i g i r0 c0 vs hf ha;obtain⟨hg,h⟩:=h
   cases c with
   |gen v k' Hc Hout=>obtain⟨h1,h2,h3,h4,h5⟩:=h;exact aCK ho hg hf ha h1 h2 (OW h3) h5 h4
   |ret v=>exact h.elim
   |raw d out=>exact h.elim
   |far v k' loc Hc Hout=>obtain⟨h1,h2,h3,h4,h5,h6⟩:=h;exact aCK ho hg hf ha h1 h2 (λ id B hB=>by rw[h3,BS,h4 id (.inl (by simp[eQ,hB]))];exact hB) h6 h5
  exact h.elim
 exact h.elim
theorem CallReq.heap {o:Oper}{ev:Operand->Option AVal}{H:aO}{k:Nat}{c:Orc}(h:CallReq P Γ o ev (look H) k c):look (c.heap k H)=look (lK H (c.out k).upd):=by
 cases c with
 |far v k' loc Hc Hout=>
  have key:(∀i,look H i=look (loc++Hc) i)/\(∀i,eQ Hc i=aB\/eQ Hout i=aB->look loc i=aC):=by
   unfold CallReq at h;split at h
   .split at h;.exact⟨h.2.2.2.1,h.2.2.2.2.1⟩
    .exact⟨h.2.2.2.1,h.2.2.2.2.1⟩
    exact h.elim
   exact h.elim
  obtain⟨h1,h2⟩:=key;refine funext λ i=>?_;show look (loc++Hout) i=look (lK H ((Hout.map λ x=>(x.1,aA x.2))++(Hc.map λ x=>(x.1,(aC:Option Blk))))) i;rw[mI,ES,BS,h1,BS]
  cases ho:look Hout i with
  |some B=>rw[h2 i (.inr (by simp[eQ,ho]))]
  |none=>
   cases hc:look Hc i with
   |some B=>rw[h2 i (.inl (by simp[eQ,hc]))]
   |none=>cases look loc i<;>rfl
 |ret v=>rfl
 |gen v k' Hc Hout=>rfl
 |raw d out=>rfl
theorem Run.mono {all:Array Oper}:∀(l:List Oper) (k:Nat) (fr:Fr) (H:aO) (K K':List Foot->Nat->Fr->aO->Prop),(∀tr k fr H,K tr k fr H->K' tr k fr H)->Run P Γ all l k fr H K->Run P Γ all l k fr H K':=by
 intro l
 induction l with
 |nil=>intro k fr H K K' hK h;exact hK _ _ _ _ h
 |cons o r ih=>
  intro k fr H K K' hK h;rcases h with⟨h1,h2⟩|⟨h1,out,h2,h3⟩;.exact .inl ⟨h1,ih _ _ _ _ _ (λ tr k fr H h=>hK _ _ _ _ h) h2⟩
  exact .inr ⟨h1,out,h2,ih _ _ _ _ _ (λ tr k fr H h=>hK _ _ _ _ h) h3⟩
def bCR(K:List Foot->Nat->Fr->aO->Prop):List Foot->Nat->Fr->aO->Prop:=λ tr k fr H=>∃H',look H=look H'/\K tr k fr H'
theorem RunF.run {all:Array Oper}:∀(l:List Oper) (cs:List Orc) (k:Nat) (fr:Fr) (H H0:aO) (K:List Foot->Nat->Fr->aO->Prop),look H0=look H->RunF P Γ all l cs k fr H K->Run P Γ all l k fr H0 (bCR K):=by
 intro l
 induction l with
 |nil=>intro cs k fr H H0 K he h;exact⟨H,he,h⟩
 |cons o r ih=>
  intro cs k fr H H0 K he h;simp only[RunF,UA]at h;split at h;.exact h.elim
  rename_i b hg;split at h
  .rename_i hb;subst hb;unfold aSO at h;split at h
   .split at h
    .unfold aXA at h;split at h;.exact h.elim
     exact .inr ⟨hg,_,by rw[he];exact h.1.good,ih _ _ _ _ _ _ (by rw[h.1.heap];exact EL he _) h.2⟩
    unfold aAA at h;split at h;.exact h.elim
    rename_i out ho;exact .inr ⟨hg,out,by rw[he];exact sM ho,ih _ _ _ _ _ _ (by rw[TK];exact EL he _) h⟩
   rename_i x _;exact .inr ⟨hg,x.1,by rw[he];exact h.1,ih _ _ _ _ _ _ (by have:=TK aB H x.1.upd;simp only[WS]at this;rw[this];exact EL he _) h.2⟩
  rename_i hb;have:b=aE:=by simpa using hb
  subst this;exact .inl ⟨hg,ih _ _ _ _ _ _ he h⟩
def kU(keep:List Nat):Fr->Fr
 |[]=>[]
 |(t,v)::r=>if keep.contains t then(t,v)::kU keep r else kU keep r
theorem ET{keep:List Nat}:∀ {fr:Fr} {t:Nat} {v:AVal},look (kU keep fr) t=aA v->look fr t=aA v
 |[],t,v,h=>by simp[kU,look]at h
 |(a,x)::r,t,v,h=>by
  simp only[kU]at h;simp only[look];split at h
  .simp only[look]at h;split at h;.rename_i he;rw[iP he];exact h
   rename_i he;rw[iN he];exact ET h
  rename_i hk;by_cases he:a=t
  .subst he;exfalso
   have:∀(l:Fr) u,look (kU keep l) a≠aA u:=by
    intro l
    induction l with
    |nil=>intro u hu;simp[kU,look]at hu
    |cons y ys ih=>
     intro u hu;obtain⟨b,z⟩:=y;simp only[kU]at hu;split at hu
     .rename_i hb;simp only[look]at hu;split at hu;.rename_i hab;subst hab;exact hk hb
      exact ih u hu
     exact ih u hu
   exact this r v h
  rw[iN he];exact ET h
variable{nt kb:Nat}{Q:AQ}{k:Nat}{fr:Fr}{H:aO}
theorem aIH(keep:List Nat){H':aO}(he:look H=look H')(hk:kb<=k):WkG kb k fr H k (kU keep fr) H':=
 ⟨hk,λ t v h=>⟨v,ET h,bJ v⟩,λ id B h=>⟨B,by rw[he];exact h,pG B⟩,.inl rfl⟩
theorem bFT{id:Nat}{ops:Array Oper}(keep:List Nat)(cs:List Orc)(hd:mQ nt ops=aB)
 (h:∀K:List Foot->Nat->Fr->aO->Prop,(∀tr k' fr' H',(kb<=k'->Q .normal k' (kU keep fr') H')->K tr k' fr' H')->RunF P Γ ops ops.toList cs k fr H K):W P Γ nt kb (.region id ops aE) Q k fr H:=
 a6G (QM hd (Run.mono _ _ _ _ _ _ (λ tr k' fr' H' hq hk'=>by obtain⟨H'',he,hq⟩:=hq;exact⟨k',kU keep fr',H'',aIH keep he hk',hq hk'⟩) ((h (λ _ k' fr' H'=>kb<=k'->Q .normal k' (kU keep fr') H') λ tr k' fr' H' hq=>hq).run _ _ _ _ _ _ _ rfl)))
theorem bFU{id:Nat}{ops:Array Oper}(keep:List Nat)(cs:List Orc)(hm:P.follows .mixedOrders=aB)(hd:mQ nt ops=aB)
 (h:∀K:List Foot->Nat->Fr->aO->Prop,(∀tr k' fr' H',kP ops tr=aB->(kb<=k'->Q .normal k' (kU keep fr') H')->K tr k' fr' H')->RunF P Γ ops ops.toList cs k fr H K):W P Γ nt kb (.region id ops aB) Q k fr H:=
 a6G (aHV hm hd (Run.mono _ _ _ _ _ _ (λ tr k' fr' H' hq=>by obtain⟨H'',he,hd',hq⟩:=hq;exact⟨hd',λ hk'=>⟨k',kU keep fr',H'',aIH keep he hk',hq hk'⟩⟩) ((h (λ tr k' fr' H'=>kP ops tr=aB/\(kb<=k'->Q .normal k' (kU keep fr') H')) λ tr k' fr' H' hd' hq=>⟨hd',hq⟩).run _ _ _ _ _ _ _ rfl)))
end
theorem wrap_i64{n:Int}(h1: -9223372036854775808<=n)(h2:n<=9223372036854775807):aL.wrap n=n:=by rw[IntKind.wrap_i64];omega
def KM:Code->Nat->Code
 | .seq a b,i=>if i=0 then a else b
 | .cond _ a b,i=>if i=0 then a else b
 | .block _ c,_=>c
 | .loop c,_=>c
 |c,_=>c
def hY(c:Code):List Nat->Code
 |[]=>c
 |i::p=>KM (hY c p) i
def gN(fn:Func):Code:=fn.body.getD .skip
section
variable{P:Program}{Γ:dL}{nt kb:Nat}{Q:AQ}{k:Nat}{fr:Fr}{H:aO}{c:Code}{p:List Nat}
theorem gW{x y:Code}(hc:hY c p= .seq x y)(h:W P Γ nt kb (hY c (0::p)) (mX (W P Γ nt kb (hY c (1::p)) Q) Q) k fr H):W P Γ nt kb (hY c p) Q k fr H:=by
 have h0:hY c (0::p)=x:=by simp[hY,hc,KM]
 have h1:hY c (1::p)=y:=by simp[hY,hc,KM]
 rw[h0,h1]at h;rw[hc];exact aYE h
theorem AC{id:Nat}{x:Code}(hc:hY c p= .block id x)(h:W P Γ nt kb (hY c (0::p)) (FC id Q) k fr H):W P Γ nt kb (hY c p) Q k fr H:=by
 have h0:hY c (0::p)=x:=by simp[hY,hc,KM]
 rw[h0]at h;rw[hc];exact XZ h
theorem tK{cc:Operand}{x y:Code}(hc:hY c p= .cond cc x y)(t:Bool)(he:kV Γ fr cc=aA (.lit (.bool t)))(ht:t=aB->W P Γ nt kb (hY c (0::p)) Q k fr H)(hf:t=aE->W P Γ nt kb (hY c (1::p)) Q k fr H):
 W P Γ nt kb (hY c p) Q k fr H:=by
 have h0:hY c (0::p)=x:=by simp[hY,hc,KM]
 have h1:hY c (1::p)=y:=by simp[hY,hc,KM]
 rw[h0]at ht;rw[h1]at hf;rw[hc];exact QN t he ht hf
theorem aYV{x:Code}(hc:hY c p= .loop x)(I:Nat->Nat->Fr->aO->Prop)(m:Nat)(h0:I m k fr H)
 (round:∀m k fr H,I m k fr H->W P Γ nt kb (hY c (0::p)) (mX (λ k' fr' H'=>∃m',m'<m/\I m' k' fr' H') Q) k fr H):W P Γ nt kb (hY c p) Q k fr H:=by
 have h1:hY c (0::p)=x:=by simp[hY,hc,KM]
 rw[h1]at round;rw[hc];exact aYG I m h0 round
theorem AB(hc:hY c p= .skip)(h:Q .normal k fr H):W P Γ nt kb (hY c p) Q k fr H:=by rw[hc];exact aHT h
theorem bV(hc:hY c p= .ret)(h:Q .ret k fr H):W P Γ nt kb (hY c p) Q k fr H:=by rw[hc];exact aYF h
theorem FK{id:Nat}(hc:hY c p= .exit id)(h:Q (.exit id) k fr H):W P Γ nt kb (hY c p) Q k fr H:=by rw[hc];exact aHU h
theorem a6N{id:Nat}{ops:Array Oper}(hc:hY c p= .region id ops aE)(keep:List Nat)(cs:List Orc)(hd:mQ nt ops=aB)
 (h:∀K:List Foot->Nat->Fr->aO->Prop,(∀tr k' fr' H',(kb<=k'->Q .normal k' (kU keep fr') H')->K tr k' fr' H')->RunF P Γ ops ops.toList cs k fr H K):W P Γ nt kb (hY c p) Q k fr H:=by rw[hc];exact bFT keep cs hd h
theorem a6O{id:Nat}{ops:Array Oper}(hc:hY c p= .region id ops aB)(keep:List Nat)(cs:List Orc)(hm:P.follows .mixedOrders=aB)(hd:mQ nt ops=aB)
 (h:∀K:List Foot->Nat->Fr->aO->Prop,(∀tr k' fr' H',kP ops tr=aB->(kb<=k'->Q .normal k' (kU keep fr') H')->K tr k' fr' H')->RunF P Γ ops ops.toList cs k fr H K):W P Γ nt kb (hY c p) Q k fr H:=by rw[hc];exact bFU keep cs hm hd h
theorem cN{f:FuncId}{fn:Func}{args:List AVal}{H:aO}{Q:Nat->AVal->aO->Prop}(hf:P.funcs[f]? =aA fn)(hb:fn.body.isSome=aB)(nt:Nat)(hnt:fn.ntmps=nt)(hn:args.length<=nt)
 (h:W P Γ nt k (hY (gN fn) []) (EQ P fn Q) k (vS 0 args) H):Tr P Γ f k args H Q:=by
 obtain⟨c,hc⟩:=fS.1 hb;subst hnt;refine MR hf hc hn ?_;have:gN fn=c:=by simp[gN,hc]
 rw[hY,this]at h;exact h
theorem bT{f:FuncId}{fn:Func}{args:List AVal}{r:AVal}(hf:P.funcs[f]? =aA fn)(hb:fn.body.isSome=aB)(nt:Nat)(hnt:fn.ntmps=nt)(hn:args.length<=nt)(hr:bd (λ _=>aE) r=aB)
 (h:∀k,W P Γ nt k (hY (gN fn) []) (EQ P fn (λ _ r1 _=>VLe r1 r)) k (vS 0 args) []):Pure P Γ f args r:=by
 obtain⟨c,hc⟩:=fS.1 hb;subst hnt;refine aPW hf hc hn hr λ k=>?_;have:=h k;have e:gN fn=c:=by simp[gN,hc]
 rw[hY,e]at this;exact this
end
section
variable{P:Program}{Γ:dL}{all:Array Oper}{r:List Oper}{cs:List Orc}{k:Nat}{fr:Fr}{H:aO}{K:List Foot->Nat->Fr->aO->Prop}{o:Oper}
variable{d:Option Nat}{ty:TypeId}{pos:String}{af:Array Edge}{g:Option (Nat×Bool)}{ev:Operand->Option AVal}{get:Nat->Option Blk}
def aBH:List Oper->Nat->Option Nat
 |[],_=>aC
 |o::_,0=>o.dst
 |_::r,n+1=>aBH r n
theorem aKM:∀(l:List Oper) (n:Nat),aBH l n=(l[n]?).bind (·.dst)
 |[],n=>by simp[aBH]
 |o::r,0=>rfl
 |o::r,n+1=>by rw[aBH,aKM r n,fM]
theorem bEO{l:List Oper}:aBH (o::l) 0=o.dst:=rfl
theorem bEN{l:List Oper}{n:Nat}:aBH (o::l) (n+1)=aBH l n:=rfl
theorem bDW{c:Prop} [Decidable c]{out:Out}{f:Out->Prop}:aAA (if c then aA out else aC) f=(c/\f out):=by by_cases h:c<;>simp[aAA,h]
theorem a2E{b:Bool}{X Y:Prop}(ht:b=aB->Y)(hf:b=aE->X):UA (aA b) X Y:=by
 cases b;.exact hf rfl
 exact ht rfl
theorem bDX{v:AVal}{k':Nat}{loc Hc Hout:aO}:Orc.out (.far v k' loc Hc Hout) k=jH v k' Hc Hout:=rfl
theorem a9G{v:AVal}:Orc.heap (.ret v) k H=H:=rfl
theorem a9H{v:AVal}{k':Nat}{Hc Hout:aO}:Orc.heap (.gen v k' Hc Hout) k H=lK H (jH v k' Hc Hout).upd:=rfl
theorem bEM{v:AVal}{k':Nat}{loc Hc Hout:aO}:Orc.heap (.far v k' loc Hc Hout) k H=loc++Hout:=rfl
theorem bEL{u:List (Nat×Option Blk)}:WS aE H u=lK H u:=rfl
theorem bEK{u:List (Nat×Option Blk)}:WS aB H u=KY H u:=rfl
theorem bDJ:KY H []=H:=rfl
theorem bDI{i:Nat}{B:Blk}{u:List (Nat×Option Blk)}:KY H ((i,aA B)::u)=xF (KY H u) i B:=rfl
theorem bDL{i:Nat}{B:Blk}:xF [] i B=[(i,B)]:=rfl
theorem bDK{a i:Nat}{x B:Blk}{r:aO}:xF ((a,x)::r) i B=if a=i then(a,B)::r else(a,x)::xF r i B:=rfl
theorem bIS:WO o=match o.op with| .store .. =>aB|_=>aE:=rfl
theorem bDQ{d:Option Nat}{v:AVal}{k':Nat}{loc Hc Hout:aO}{l:List Orc}:GA d (.far v k' loc Hc Hout::l)=aC:=rfl
theorem bDU{d:Option Nat}:GA d []=aC:=rfl
theorem bDT{d:Option Nat}{v:AVal}{l:List Orc}:GA d (.ret v::l)=aC:=rfl
theorem bDS{d:Option Nat}{v:AVal}{k':Nat}{Hc Hout:aO}{l:List Orc}:GA d (.gen v k' Hc Hout::l)=aC:=rfl
theorem bDR{d d':Option Nat}{out:Out}{l:List Orc}:GA d (.raw d' out::l)=if d=d' then aA (out,l)else aC:=rfl
theorem bIK:aRM o cs=match GA o.dst cs with|some x=>x.2|none=>if uZ o=aB then cs.tail else cs:=rfl
theorem bIX{op:Op}:mO all fr ⟨d,op,ty,pos,af,aC⟩=aA aB:=rfl
def aKL(want:Bool):Option AVal->Option Bool
 |some (.lit v)=>aA (bCY want v)
 |_=>aC
theorem bIU{want:Bool}:aKL want (aA (.lit undef))=aA aE:=rfl
theorem bIW{op:Op}{l:List Oper}{j:Nat}{want:Bool}:mO l.toArray fr ⟨d,op,ty,pos,af,aA (j,want)⟩=aKL want ((aBH l j).bind (AM.look fr)):=by
 rw[aKM];simp only[mO,cJ];generalize hall:l.toArray=all;have e:l=all.toList:=by rw[<-hall]
 subst e;generalize((all.toList[j]?).bind (·.dst)).bind (AM.look fr)=x
 cases x with
 |none=>rfl
 |some v=>cases v with
  |lit u=>cases u<;>rfl
  |_=>rfl
theorem bIV{b:Bool}:aKL aB (aA (.lit (.bool b)))=aA b:=by cases b<;>rfl
theorem bEP{b:Bool}:aKL aE (aA (.lit (.bool b)))=aA !b:=by cases b<;>rfl
theorem a9J{f:Operand}{args:Array Operand}{tys:Array TypeId}{c:Orc}:CallReq P Γ ⟨d,.call {callee:= .value f,args:=args,argTypes:=tys},ty,pos,af,g⟩ ev get k c=
 match ev f,pJ ev args.toList with
 | some (.fn g caps),aA vs=>aT P g=aB/\(match c with
   | .ret v=>(vs++caps).all (bd λ _=>aE)=aB/\Pure P Γ g (vs++caps) v
   | .gen v k' Hc Hout=>(vs++caps).all (bd (eQ Hc))=aB/\oM (eQ Hc) Hc=aB/\inH get Hc/\k<=k'/\Tr P Γ g k (vs++caps) Hc (λ k1 r1 H1=>k1=k'/\r1=v/\H1=Hout)
   | .raw _ _=>False
   | .far v k' loc Hc Hout=>(vs++caps).all (bd (eQ Hc))=aB/\oM (eQ Hc) Hc=aB/\eqG get (loc++Hc)/\rL loc Hc Hout/\k<=k'/\Tr P Γ g k (vs++caps) Hc (λ k1 r1 H1=>k1=k'/\r1=v/\H1=Hout))
 | some (.bfn g i r0 c0),aA vs=>aT P g=aB/\(match c with
   | .ret _=>False
   | .gen v k' Hc Hout=>(.ptr i r0 c0::vs).all (bd (eQ Hc))=aB/\oM (eQ Hc) Hc=aB/\inH get Hc/\k<=k'/\Tr P Γ g k (.ptr i r0 c0::vs) Hc (λ k1 r1 H1=>k1=k'/\r1=v/\H1=Hout)
   | .raw _ _=>False
   | .far v k' loc Hc Hout=>(.ptr i r0 c0::vs).all (bd (eQ Hc))=aB/\oM (eQ Hc) Hc=aB/\eqG get (loc++Hc)/\rL loc Hc Hout/\k<=k'/\Tr P Γ g k (.ptr i r0 c0::vs) Hc (λ k1 r1 H1=>k1=k'/\r1=v/\H1=Hout))
 |_,_=>False:=rfl
theorem a8Z{v:AVal}:Orc.out (.ret v) k=⟨v,k,[],[]⟩:=rfl
theorem a9A{v:AVal}{k':Nat}{Hc Hout:aO}:Orc.out (.gen v k' Hc Hout) k=jH v k' Hc Hout:=rfl
theorem a9B{x:Operand}:AT P Γ ⟨d,.move x,ty,pos,af,g⟩ ev get k=qA k (ev x):=rfl
theorem aVQ{x:Operand}:AT P Γ ⟨d,.assign x,ty,pos,af,g⟩ ev get k=qA k (ev x):=rfl
theorem a8Y{c x y:Operand}:AT P Γ ⟨d,.pick c x y,ty,pos,af,g⟩ ev get k=aIY k (ev c) (ev x) (ev y):=rfl
theorem bEA{x:Operand}:AT P Γ ⟨d,.nilCheck x,ty,pos,af,g⟩ ev get k=aSX get k (ev x):=rfl
theorem bIZ{s f:Nat}{x:Operand}:AT P Γ ⟨d,.fieldAddr s x f,ty,pos,af,g⟩ ev get k=PF get k (bW P s f) (ev x):=rfl
theorem bIT{t:Nat}{x y:Operand}:AT P Γ ⟨d,.indexAddr t x y,ty,pos,af,g⟩ ev get k=pM P get k t (ev x) (ev y):=rfl
theorem a9D{t:Nat}{x:Operand}:AT P Γ ⟨d,.load t x,ty,pos,af,g⟩ ev get k=HP P get k t (ev x):=rfl
theorem a2S{t:Nat}{x y:Operand}:AT P Γ ⟨d,.store t x y,ty,pos,af,g⟩ ev get k=JK P get k t (ev x) (ev y):=rfl
theorem a2Z{t:Nat}:AT P Γ ⟨d,.alloc t,ty,pos,af,g⟩ ev get k=aEX P k t (iY P t):=rfl
theorem bEU{t:Nat}{x:Operand}:AT P Γ ⟨d,.box t x,ty,pos,af,g⟩ ev get k=aEX P k t ((ev x).bind vT):=rfl
theorem a2Y{t:Nat}{parts:Array (Nat×Operand)}:AT P Γ ⟨d,.build t parts,ty,pos,af,g⟩ ev get k=QL P k t (mP ev parts.toList):=rfl
theorem bET{t n:Nat}{parts:Array (Nat×Operand)}:AT P Γ ⟨d,.buildSlice t n parts,ty,pos,af,g⟩ ev get k=sN P k t n (mP ev parts.toList):=rfl
theorem a9C{t:Nat}{x y:Operand}:AT P Γ ⟨d,.makeSlice t x y,ty,pos,af,g⟩ ev get k=aDB P k t (ev x) (ev y):=rfl
theorem a2T{t:Nat}{x:Operand}{lo hi:Option Operand}:AT P Γ ⟨d,.slice t x lo hi aC,ty,pos,af,g⟩ ev get k=QK P ev get k t x lo hi:=rfl
theorem a2W{t:Nat}{x y:Operand}:AT P Γ ⟨d,.index t x y,ty,pos,af,g⟩ ev get k=WR P k t (ev x) (ev y):=rfl
theorem a6A{i:Nat}{x:Operand}:AT P Γ ⟨d,.extract x i,ty,pos,af,g⟩ ev get k=GU k (ev x) i:=rfl
theorem a9L{f:Nat}{x:Operand}:AT P Γ ⟨d,.makeFunc (.func f) #[x] #[],ty,pos,af,g⟩ ev get k=bAB k f (ev x):=rfl
theorem bEW{f i r c:Nat}:bAB k f (aA (.ptr i r c))=aA (mY k (.bfn f i r c)):=rfl
theorem bEQ{f:Nat}{caps:Array Operand}:AT P Γ ⟨d,.makeFunc (.func f) #[] caps,ty,pos,af,g⟩ ev get k=a2F k f (pJ ev caps.toList):=rfl
theorem bED{t:Nat}{x:Operand}:AT P Γ ⟨d,.call {callee:= .builtin .len,args:= #[x],argTypes:= #[t]},ty,pos,af,g⟩ ev get k=yQ P get k t (ev x):=rfl
theorem bEX{t:Nat}{x y:Operand}:AT P Γ ⟨d,.call {callee:= .builtin .append,args:= #[x,y],argTypes:= #[t,t]},ty,pos,af,g⟩ ev get k=kI P get k t (ev x) (ev y):=by simp[AT,US]
theorem bEC{tys:Array TypeId}{x y:Operand}:AT P Γ ⟨d,.call {callee:= .builtin .max,args:= #[x,y],argTypes:=tys},ty,pos,af,g⟩ ev get k=aTN k (ev x) (ev y):=rfl
theorem bEB{tys:Array TypeId}{x y:Operand}:AT P Γ ⟨d,.call {callee:= .builtin .min,args:= #[x,y],argTypes:=tys},ty,pos,af,g⟩ ev get k=aTI k (ev x) (ev y):=rfl
theorem bEV{op:BinOp}{t t':Nat}{x y:Operand}:AT P Γ ⟨d,.binOp op t x y t',ty,pos,af,g⟩ ev get k=XT P get k op t (ev x) (ev y):=rfl
theorem bIF{op:UnOp}{t:Nat}{x:Operand}:AT P Γ ⟨d,.unOp op t x,ty,pos,af,g⟩ ev get k=unO k op (ev x):=rfl
theorem a9K{s t:Nat}{x:Operand}:AT P Γ ⟨d,.convert s t x,ty,pos,af,g⟩ ev get k=aLF k (vB P s) (vB P t) (pI P t) (ev x):=rfl
theorem bDG{t:Nat}:kV Γ fr (.tmp t)=AM.look fr t:=rfl
theorem a2X{v:Value}:kV Γ fr (.const v)=aA (.lit v):=rfl
theorem a9I{f:Nat}:kV Γ fr (.func f)=aA (.fn f []):=rfl
theorem bIR{α:Type}{a i:Nat}{x:α}{l:List (Nat×α)}:AM.look ((a,x)::l) i=if a=i then aA x else AM.look l i:=rfl
theorem bIQ{α:Type}{i:Nat}:AM.look ([]:List (Nat×α)) i=aC:=rfl
theorem bJC{α:Type}{a i:Nat}{x:α}{l:List (Nat×α)}:del ((a,x)::l) i=if a=i then del l i else(a,x)::del l i:=rfl
theorem bJB{α:Type}{i:Nat}:del ([]:List (Nat×α)) i=[]:=rfl
theorem bDV{t:Nat}{v:AVal}:jE fr (aA t) v=(t,v)::del fr t:=rfl
theorem a8X{v:AVal}:jE fr aC v=fr:=rfl
theorem bII:lK H []=H:=rfl
theorem bIH{i:Nat}{B:Blk}{u:List (Nat×Option Blk)}:lK H ((i,aA B)::u)=(i,B)::del (lK H u) i:=rfl
theorem bIG{i:Nat}{u:List (Nat×Option Blk)}:lK H ((i,aC)::u)=del (lK H u) i:=rfl
theorem bDN{keep:List Nat}:kU keep []=[]:=rfl
theorem bDM{keep:List Nat}{t:Nat}{v:AVal}:kU keep ((t,v)::fr)=if keep.contains t=aB then(t,v)::kU keep fr else kU keep fr:=rfl
theorem bIO{v:AVal}:qA k (aA v)=aA (mY k v):=rfl
theorem bIL{t:Bool}{x y:Option AVal}:aIY k (aA (.lit (.bool t))) x y=qA k (if t=aB then x else y):=rfl
theorem bDZ{c:List AVal}:aSX get k (aA (.rp c))=aA (mY k (.rp c)):=rfl
theorem bDY{i r c:Nat}:aSX get k (aA (.ptr i r c))=if(get i).isSome=aB then aA ⟨.ptr i r c,k,[],[i]⟩else aC:=rfl
theorem bES{off:Nat}{c:List AVal}:PF get k (aA off) (aA (.rp c))=aA (mY k (.rp (c.drop off))):=rfl
theorem bER{off i r c:Nat}:PF get k (aA off) (aA (.ptr i r c))=if(get i).isSome=aB then aA ⟨.ptr i r (c+off),k,[],[i]⟩else aC:=rfl
theorem bIM{t:Nat}{cells:List AVal}:aEX P k t (aA cells)=aA ⟨.ptr k 0 0,k+1,[(k,aA (BO P t cells))],[]⟩:=rfl
theorem bEJ{t:Nat}{cells:List AVal}{kk:IntKind}{i:Int}:WR P k t (aA (.agg cells)) (aA (.lit (.int kk i)))=match aCT P t with
 |some (m,s,ag)=>if 0<=i/\i<m then qA k (iJ ag s cells (i.toNat*s))else aC
 |none=>aC:=rfl
theorem bJA{vs:List AVal}{i:Nat}:GU k (aA (.tup vs)) i=qA k (vs[i]?):=rfl
theorem bIY{f:Nat}{vs:List AVal}:a2F k f (aA vs)=aA (mY k (.fn f vs)):=rfl
theorem bEG{t s n:Nat}{f:Nat->List AVal}:yQ P get k t (aA (.rd s n f))=if fX P t=aB then aA (mY k (.lit (.int .i64 n)))else aC:=rfl
theorem bEF{t i r n:Nat}:yQ P get k t (aA (.sl i r n))=if fX P t=aB/\(get i).isSome=aB then aA ⟨.lit (.int .i64 n),k,[],[i]⟩else aC:=rfl
theorem bEE{t:Nat}:yQ P get k t (aA (.lit (.slice aC 0 0)))=if fX P t=aB then aA (mY k (.lit (.int .i64 0)))else aC:=rfl
theorem bJE{op:BinOp}{t:Nat}{a b:Value}:XT P get k op t (aA (.lit a)) (aA (.lit b))=qA k ((aPE P op t a b).map .lit):=rfl
theorem bIE{op:UnOp}{a:Value}:unO k op (aA (.lit a))=qA k ((unV op a).map .lit):=rfl
theorem bJD{k1 k2 k3:IntKind}{n:Int}{st:Bool}:aLF k (aA k1) (aA k2) st (aA (.lit (.int k3 n)))=aA (mY k (.lit (.int k2 (k2.wrap n)))):=rfl
theorem bIN{kk:IntKind}{a b:Int}:aTN k (aA (.lit (.int kk a))) (aA (.lit (.int kk b)))=aA (mY k (.lit (.int kk (if b>a then b else a)))):=by simp[aTN]
theorem bIP{kk:IntKind}{a b:Int}:aTI k (aA (.lit (.int kk a))) (aA (.lit (.int kk b)))=aA (mY k (.lit (.int kk (if b<a then b else a)))):=by simp[aTI]
theorem bFC{t s n:Nat}{f:Nat->List AVal}{kk:IntKind}{i:Int}:pM P get k t (aA (.rd s n f)) (aA (.lit (.int kk i)))=if CC P t=aA s/\0<=i/\i<n then aA ⟨.rp (f i.toNat),k,[],[]⟩else aC:=rfl
theorem bFB{t id r n:Nat}{kk:IntKind}{i:Int}:pM P get k t (aA (.sl id r n)) (aA (.lit (.int kk i)))=match get id with
 |some B=>if CC P t=aA B.sz/\0<=i/\i<n then aA ⟨.ptr id (r+i.toNat) 0,k,[],[id]⟩else aC
 |none=>aC:=rfl
theorem bFA{t id r c:Nat}{kk:IntKind}{i:Int}:pM P get k t (aA (.ptr id r c)) (aA (.lit (.int kk i)))=match DM P t,get id with
 |some (m,s),aA B=>if 0<=i/\i<m then aA ⟨if B.sz=s/\c=0 then .ptr id (r+i.toNat) 0 else .ptr id r (c+i.toNat*s),k,[],[id]⟩else aC
 |_,_=>aC:=rfl
def aTU(k:Nat)(ag:Option Bool)(n:Option Nat)(cells:List AVal):Option Out:=
 match ag,n with
 |some ag,aA n=>qA k (iJ ag n cells 0)
 |_,_=>aC
theorem bEI{t:Nat}{cells:List AVal}:HP P get k t (aA (.rp cells))=aTU k (jO P t) (oP P t) cells:=by
 unfold HP aTU;cases jO P t<;>cases oP P t<;>try rfl
 simp only[mY];cases iJ _ _ _ _<;>rfl
theorem a9F{ag:Bool}{n:Nat}{cells:List AVal}:aTU k (aA ag) (aA n) cells=qA k (iJ ag n cells 0):=rfl
def aTT(k:Nat)(ag:Option Bool)(n:Option Nat)(B:Option Blk)(id r c:Nat):Option Out:=
 match ag,n,B with
 |some ag,aA n,aA B=>if r=0/\c=0/\B.sz<n then(iJ ag n B.rows.flatten 0).map λ v=>⟨v,k,[],[id]⟩else match B.rows[r]? with
    |some row=>(iJ ag n row c).map λ v=>⟨v,k,[],[id]⟩
    |none=>aC
 |_,_,_=>aC
theorem bEH{t id r c:Nat}:HP P get k t (aA (.ptr id r c))=aTT k (jO P t) (oP P t) (get id) id r c:=by
 unfold HP aTT;cases jO P t<;>cases oP P t<;>try rfl
 cases hg:get id with
 |none=>simp only[hg]
 |some B=>simp only[hg];all_goals(cases B.rows[r]? <;>rfl)
theorem a9E{ag:Bool}{n:Nat}{B:Blk}{id r c:Nat}:aTT k (aA ag) (aA n) (aA B) id r c=if r=0/\c=0/\B.sz<n then(iJ ag n B.rows.flatten 0).map λ v=>⟨v,k,[],[id]⟩else match B.rows[r]? with
 |some row=>(iJ ag n row c).map λ v=>⟨v,k,[],[id]⟩
 |none=>aC:=rfl
theorem bEZ{t:Nat}{y:Option AVal}:kI P get k t (aA (.lit (.slice aC 0 0))) y=match gV P t,y.bind (CK get)with
 | some (s,by',_),aA (s',m,rows,p,ids)=>if m=0 then aA ⟨.lit (.slice aC 0 0),k,[],ids⟩
   else if s'=s/\0<m/\m<=9223372036854775807/\m*by'<=140737488355328/\(rows.all λ row=>row.all one)=aB then aA ⟨.sl k 0 m,k+1,[(k,aA ⟨s,p,rows⟩)],ids⟩else aC
 |_,_=>aC:=by unfold kI;cases gV P t<;>cases y.bind (CK get)<;>rfl
theorem bEY{t id n:Nat}{y:Option AVal}:kI P get k t (aA (.sl id 0 n)) y=match gV P t,y.bind (CK get)with
 | some (s,by',_),aA (s',m,rows,p,ids)=>match get id with
   | some B=>if m=0 then aA ⟨.sl id 0 n,k,[],id::ids⟩
     else if s'=s/\B.sz=s/\B.rows.length=n/\id<k/\0<m/\n+m<=9223372036854775807/\(n+m)*by'<=140737488355328/\(rows.all λ row=>row.all one)=aB then
      aA ⟨.sl k 0 (n+m),k+1,[(k,aA ⟨s,B.pure&&p,B.rows++rows⟩),(id,aC)],id::ids⟩else aC
   |none=>aC
 |_,_=>aC:=by unfold kI;cases gV P t<;>cases y.bind (CK get)<;>rfl
theorem bDP{n c:Nat}{row:List AVal}:iJ aE n row c=row[c]? :=rfl
theorem bDO{n c:Nat}{row:List AVal}:iJ aB n row c=if c+n<=row.length then aA (.agg ((row.drop c).take n))else aC:=rfl
def aEA(k:Nat)(n:Option Nat)(B:Option Blk)(id r c:Nat)(cells:Option (List AVal)):Option Out:=
 match n,cells,B with
 |some n,aA cells,aA B=>if r=0/\c=0/\B.sz<n then(if cells.length=n/\cells.all one=aB/\0<B.sz/\n=B.rows.length*B.sz then aA ⟨.junk,k,[(id,aA ⟨B.sz,cells.all clean,oR B.sz B.rows.length cells⟩)],[id]⟩else aC)else match B.rows[r]? with
    |some row=>if cells.length=n/\cells.all one=aB/\c+n<=row.length then aA ⟨.junk,k,[(id,aA ⟨B.sz,B.pure&&cells.all clean,B.rows.set r (lO row cells c)⟩)],[id]⟩else aC
    |none=>aC
 |_,_,_=>aC
theorem bIJ{t id r c:Nat}{y:Option AVal}:JK P get k t (aA (.ptr id r c)) y=aEA k (oP P t) (get id) id r c (y.bind vT):=by
 unfold JK aEA;cases oP P t<;>cases y.bind vT<;>try rfl
 cases hg:get id with
 |none=>simp only[hg]
 |some B=>simp only[hg];all_goals(cases B.rows[r]? <;>rfl)
theorem bDH{n id r c:Nat}{B:Blk}{cells:List AVal}:aEA k (aA n) (aA B) id r c (aA cells)=if r=0/\c=0/\B.sz<n then(if cells.length=n/\cells.all one=aB/\0<B.sz/\n=B.rows.length*B.sz then aA ⟨.junk,k,[(id,aA ⟨B.sz,cells.all clean,oR B.sz B.rows.length cells⟩)],[id]⟩else aC)else match B.rows[r]? with
 |some row=>if cells.length=n/\cells.all one=aB/\c+n<=row.length then aA ⟨.junk,k,[(id,aA ⟨B.sz,B.pure&&cells.all clean,B.rows.set r (lO row cells c)⟩)],[id]⟩else aC
 |none=>aC:=rfl
end
section
variable{p:Nat->Bool}{cs:List AVal}{i r c:Nat}{v:Value}{f:Nat->List AVal}{g:FuncId}
theorem bJX:bdF p []=aB:=rfl
theorem bJW{t:Nat}{x:AVal}{fr:Fr}:bdF p ((t,x)::fr)=(bd p x&&bdF p fr):=rfl
theorem bJV:oM p []=aB:=rfl
theorem bJU{B:Blk}{H:aO}:oM p ((i,B)::H)=((p i&&(B.pure||B.rows.all λ row=>row.all (iM p)))&&oM p H):=rfl
theorem b_2:bd p (.lit v)=aB:=rfl
theorem b_3:bd p (.ptr i r c)=p i:=rfl
theorem b_4:bd p (.sl i r c)=p i:=rfl
theorem b_5:bd p (.rp cs)=aB:=rfl
theorem b_6:bd p (.rd i r f)=aB:=rfl
theorem b_7:bd p (.agg cs)=cs.all (iM p):=rfl
theorem b_8:bd p (.fn g cs)=cs.all (iM p):=rfl
theorem b_9:bd p (.tup cs)=cs.all (LJ p):=rfl
theorem bKG:LJ p (.lit v)=aB:=rfl
theorem bKF:LJ p (.ptr i r c)=p i:=rfl
theorem bKE:LJ p (.agg cs)=cs.all (iM p):=rfl
theorem bKD:iM p .junk=aB:=rfl
theorem bKC:iM p (.lit v)=aB:=rfl
theorem bKB:iM p (.ptr i r c)=p i:=rfl
theorem bKA:iM p (.sl i r c)=p i:=rfl
theorem bJZ:iM p (.rp cs)=aB:=rfl
theorem bJY:iM p (.rd i r f)=aB:=rfl
end
attribute [go_sem] bDX a9G a9H bEM bEL bEK bDJ bDI bDL bDK bIS bDQ bIK bDU bDT bDS bDR a9L bEW List.tail_cons List.tail_nil bEO bEN bDW bIX bIW bIV bEP bIU a9J a8Z a9A a9B aVQ a8Y bEA bIZ bIT a9D a2S a2Z bEU a2Y bET a9C a2T a2W a6A bEQ bED bEX bEC bEB bEV bIF a9K bDG a2X a9I bIR bIQ bJC bJB bDV a8X bII bIH bIG bIO bIL bDZ bDY bES bER bIM bEJ bJA bIY bEG bEF bEE bJE bIE bJD bIN bIP bFC bFB bFA bEI a9F bEH a9E bDP bDO bIJ bDH uZ mY aPE aFM MD aIR aDZ unV dTt dFn decide_true decide_false bU oB bNV Option.bind_none Option.isSome_some aA.injEq cJ fM lF bI bQ List.drop_succ_cons List.drop_zero List.drop_nil List.take_succ_cons List.take_zero gS RY fU AA iC Bool.and_self lG KU KV Bool.not_true Bool.not_false true_and and_true and_self false_and and_false vS beq_self_eq_true fH jL vT one clean Value.oneCell' mP pJ cZ aU aV EJ lO List.set_cons_zero List.set_cons_succ BO mX bDN bDM List.contains_cons List.contains_nil Bool.or_false Bool.or_true AD AE aS if_true if_false bX true_implies false_implies implies_true forall_const imp_self not_true_eq_false not_false_eq_true xR aEq OS pD dY fB EG bNX QL sN aDB bEZ bEY CK QK bound Option.map oR List.flatten_cons List.flatten_nil List.replicate_succ List.replicate_zero EQ KZ SV a0L FC leF QS bJX bJW bJV bJU b_2 b_3 b_4 b_5 b_6 b_7 b_8 b_9 bKG bKF bKE bKD bKC bKB bKA bJZ bJY YH jS eQ inH jH
section
variable{P:Program}{Γ:dL}{nt kb:Nat}{Q:AQ}{k:Nat}{fr:Fr}{H:aO}{c:Code}{p:List Nat}
theorem bC {v v':AVal}(h:v=v'):VLe v v':=h▸bJ v
theorem bBN{k1:Nat}{fr1:Fr}{H1:aO}(hb:kb<=k1)(hf:leF fr fr1)(hH:QS H H1)(h:k1=k\/(bdF (jS k1) fr1=aB/\oM (jS k1) H1=aB)):WkG kb k fr H k1 fr1 H1:=
 ⟨hb,λ t v hv=>⟨v,aAT hf t v hv,bJ v⟩,λ id B hB=>⟨B,OM hH id B hB,pG B⟩,h⟩
end
def sw(a b i:Nat):Nat:=if i=a then b else if i=b then a else i
theorem kT(a b i:Nat):sw a b (sw a b i)=i:=by unfold sw;split<;>(try split)<;>(try split)<;>(try split)<;>omega
theorem aQV{a b i j:Nat}(h:sw a b i=sw a b j):i=j:=by rw[<-kT a b i,h,kT]
theorem YZ{a b i:Nat}(h1:i≠a)(h2:i≠b):sw a b i=i:=by simp[sw,h1,h2]
def AP(a b:Nat):AVal->AVal
 | .ptr i r c=> .ptr (sw a b i) r c
 | .sl i r n=> .sl (sw a b i) r n
 | .slc i r n c=> .slc (sw a b i) r n c
 | .bfn f i r c=> .bfn f (sw a b i) r c
 | .mp i=> .mp (sw a b i)
 | .it i=> .it (sw a b i)
 | .agg _=> .junk
 | .tup _=> .junk
 | .fn f caps=>if caps.isEmpty then .fn f []else .junk
 |v=>v
def sw1(a b:Nat):AVal->AVal
 | .agg cs=> .agg (cs.map (AP a b))
 | .fn f cs=> .fn f (cs.map (AP a b))
 |v=>AP a b v
def sw2(a b:Nat):AVal->AVal
 | .tup cs=> .tup (cs.map (sw1 a b))
 |v=>sw1 a b v
def swF(a b:Nat)(fr:Fr):Fr:=fr.map λ x=>(x.1,sw2 a b x.2)
def swB(a b:Nat)(C:Blk):Blk:=if C.pure then C else⟨C.sz,aE,C.rows.map λ row=>row.map (AP a b)⟩
def swH(a b:Nat)(H:aO):aO:=H.map λ x=>(sw a b x.1,swB a b x.2)
theorem BQ(a b:Nat):∀(H:aO) (i:Nat),look (swH a b H) i=(look H (sw a b i)).map (swB a b)
 |[],i=>rfl
 |(j,B)::r,i=>by
  simp only[swH,bI,look];by_cases h:sw a b j=i
  .have h':j=sw a b i:=by rw[<-h,kT]
   rw[iP h,iP h'];rfl
  have h':¬j=sw a b i:=λ e=>h (by rw[e,kT]);rw[iN h,iN h'];exact BQ a b r i
section
variable{w:World}{G:Nat->Prop}{ρ:cY}{A:bZ}{a b:Nat}
theorem ZB{v:AVal}{cv:Value}(h:V w G ρ A v cv):V w G (λ i=>ρ (sw a b i)) (λ i=>A (sw a b i)) (AP a b v) cv:=by
 cases h with
 |nn=>exact .nn
 |dangc h1 h2=>exact .dangc (by simpa [kT]using h1) (by simpa [kT]using h2)
 |slc h1 h2 h3 h4 h5 h6 h7=>exact .slc (by simpa [kT]using h1) (by simpa [kT]using h2) h3 h4 h5 h6 h7
 |bfn h=>cases h with
  |dang h1 h2=>exact .bfn (.dang (by simpa [kT]using h1) (by simpa [kT]using h2))
  |ptr h1 h2 h3=>exact .bfn (.ptr (by simpa [kT]using h1) (by simpa [kT]using h2) h3)
 |junk=>exact .junk
 |lit=>exact .lit
 |dang h1 h2=>exact .dang (by simpa [kT]using h1) (by simpa [kT]using h2)
 |dangs h1 h2=>exact .dangs (by simpa [kT]using h1) (by simpa [kT]using h2)
 |ptr h1 h2 h3=>exact .ptr (by simpa [kT]using h1) (by simpa [kT]using h2) h3
 |dangm h1 h2=>exact .dangm (by simpa [kT]using h1) (by simpa [kT]using h2)
 |mp h1 h2 h3=>exact .mp (by simpa [kT]using h1) (by simpa [kT]using h2) h3
 |dangi h1 h2=>exact .dangi (by simpa [kT]using h1) (by simpa [kT]using h2)
 |it h1 h2 h3=>exact .it (by simpa [kT]using h1) (by simpa [kT]using h2) h3
 |sl h1 h2 h3 h4 h5 h6 h7=>exact .sl (by simpa [kT]using h1) (by simpa [kT]using h2) h3 h4 h5 h6 h7
 |sl0 h1 h2=>exact .sl0 (by simpa [kT]using h1) (by simpa [kT]using h2)
 |rp g h1 h2 h3=>exact .rp g h1 h2 h3
 |rd0=>exact .rd0
 |rd g h1 h2 h3 h4 h5 h6=>exact .rd g h1 h2 h3 h4 h5 h6
 |agg h1 h2=>exact .junk
 |tup h1 h2=>exact .junk
 |fn h1 h2=>
  rename_i f caps cs;simp only[AP];split
  .rename_i he;have:caps=[]:=by simpa using he
   subst this;exact .fn h1 (λ j v hj=>by simp at hj)
  exact .junk
theorem a5K{v:AVal}{cv:Value}(h:V w G ρ A v cv):V w G (λ i=>ρ (sw a b i)) (λ i=>A (sw a b i)) (sw1 a b v) cv:=by
 cases v with
 |agg cells=>
  cases h with
  |agg h1 h2=>refine .agg (by simpa using h1) λ j u hj=>?_;rw[aP,aG]at hj;obtain⟨u',hu',rfl⟩:=hj;exact ZB (h2 j u' hu')
 |fn f cells=>
  cases h with
  |fn h1 h2=>refine .fn (by simpa using h1) λ j u hj=>?_;rw[aP,aG]at hj;obtain⟨u',hu',rfl⟩:=hj;exact ZB (h2 j u' hu')
 |_=>exact ZB h
theorem a5J{v:AVal}{cv:Value}(h:V w G ρ A v cv):V w G (λ i=>ρ (sw a b i)) (λ i=>A (sw a b i)) (sw2 a b v) cv:=by
 cases v with
 |tup cells=>
  cases h with
  |tup h1 h2=>refine .tup (by simpa using h1) λ j u hj=>?_;rw[aP,aG]at hj;obtain⟨u',hu',rfl⟩:=hj;exact a5K (h2 j u' hu')
 |_=>exact a5K h
end
section
variable{P:Program}{Γ:dL}{nt kb:Nat}{Q:AQ}{k:Nat}{fr:Fr}{H:aO}{c:Code}{p:List Nat}
def Mv(kb k:Nat)(fr:Fr)(H:aO)(k1:Nat)(fr1:Fr)(H1:aO):Prop:=
 kb<=k->kb<=k1/\∀Γ nt A0 w G ρ a,(∀i,A0 i->i<kb)->Inv Γ nt w G ρ (kS A0 kb k) a fr H->∃G' ρ',Inv Γ nt w G' ρ' (kS A0 kb k1) a fr1 H1/\Step (lC kb) w G ρ w G' ρ'
theorem Mv.trans {k1 k2:Nat}{fr1 fr2:Fr}{H1 H2:aO}(h:Mv kb k fr H k1 fr1 H1)(g:Mv kb k1 fr1 H1 k2 fr2 H2):Mv kb k fr H k2 fr2 H2:=λ hk=>by obtain⟨h1,h2⟩:=h hk;obtain⟨g1,g2⟩:=g h1;refine⟨g1,λ Γ nt A0 w G ρ a hA hi=>?_⟩;obtain⟨G',ρ',hi',hs⟩:=h2 Γ nt A0 w G ρ a hA hi;obtain⟨G2,ρ2,hi2,hs2⟩:=g2 Γ nt A0 w G' ρ' a hA hi';exact⟨G2,ρ2,hi2,hs.trans hs2 (λ _ h=>h)⟩
theorem xB:Mv kb k fr H k fr H:=λ hk=>⟨hk,λ _ _ _ _ G ρ _ _ hi=>⟨G,ρ,hi,kQ _ _ _ _⟩⟩
theorem nV {k1:Nat}{fr1:Fr}{H1:aO}(h:WkG kb k fr H k1 fr1 H1):Mv kb k fr H k1 fr1 H1:=λ _=>⟨h.base,λ Γ nt A0 w G ρ a hA hi=>by obtain⟨ρ',h1,h2⟩:=h.inv hi;exact⟨G,ρ',h1,h2 _⟩⟩
theorem gK (id:Nat){B:Blk}(hB:look H id=aA B)(hp:B.pure=aB):Mv kb k fr H k (pS id B fr) (yZ id B H):=λ hk=>⟨hk,λ Γ nt A0 w G ρ a hA hi=>by obtain⟨G',ρ',h1,h2⟩:=aFT hB hp hi;exact⟨G',ρ',h1,h2 _⟩⟩
theorem Mv.swap (a b:Nat)(ha:kb<=a/\a<k)(hb:kb<=b/\b<k):Mv kb k fr H k (swF a b fr) (swH a b H):=λ hk=>⟨hk,λ Γ nt A0 w G ρ ac hA hi=>by
 have hal:∀i,kS A0 kb k (sw a b i)->kS A0 kb k i:=λ i h=>by
  by_cases h1:i=a;.subst h1;exact .inr ha
  by_cases h2:i=b;.subst h2;exact .inr hb
  rw[YZ h1 h2]at h;exact h
 have hV:∀v u cv,V w G (λ i=>ρ (sw a b i)) (λ i=>kS A0 kb k (sw a b i)) v cv->u=v->V w G (λ i=>ρ (sw a b i)) (kS A0 kb k) u cv:=λ v u cv h e=>by subst e;exact h.mono (λ _ h=>h) (λ _ _=>rfl) (λ _ _=>rfl) hal (λ _ _=> .inr rfl)
 refine⟨G,λ i=>ρ (sw a b i),⟨⟨λ id h=>?_,λ id B A h=>?_,λ i j x s t h1 h2=>?_,hi.rel.ro,hi.rel.glob⟩,hi.size,hi.defers,λ t v hv=>?_⟩,⟨aF _,λ _ _ _=>rfl,λ _ _=>rfl,λ _ h=>h,λ _ h=> .inl h,?_,λ id h=>?_,rfl,rfl,rfl⟩⟩;.simp only[bK,dO,BQ]at h;exact hi.rel.dom _ (by simp[bK,h])
 .simp only[bK,aG,BQ]at h;obtain⟨B',⟨C,hC,rfl⟩,he⟩:=h;cases he;obtain⟨h1,x,h2,h3,h4⟩:=hi.rel.blk (sw a b id) C _ (by simp only[bK,hC,bU];rfl);have hsz:(swB a b C).sz=C.sz:=by unfold swB;split<;>rfl
  refine⟨hal id h1,x,by rw[hsz];exact h2,h3,?_⟩;obtain⟨⟨Cs,ty,hCs,hrows⟩,hlen⟩:=h4;unfold swB;split
  .rename_i hp;refine⟨⟨Cs,ty,hCs,λ r row c v h5 h6=>?_⟩,hlen⟩;obtain⟨cv,h9,h10⟩:=hrows r row c v h5 h6;simp only[hp,if_true]at h10⊢
   exact⟨cv,h9,h10⟩
  rename_i hp;refine⟨⟨Cs,ty,hCs,λ r row c v h5 h6=>?_⟩,λ r row h5=>?_⟩;.rw[aP,aG]at h5;obtain⟨row0,h7,rfl⟩:=h5;rw[aP,aG]at h6;obtain⟨v0,h8,rfl⟩:=h6;obtain⟨cv,h9,h10⟩:=hrows r row0 c v0 h7 h8;simp only[hp]at h10;exact⟨cv,h9,by simp only[aS,if_false];exact hV _ _ _ (ZB h10) rfl⟩
  rw[aP,aG]at h5;obtain⟨row0,h7,rfl⟩:=h5;simpa using hlen r row0 h7
 .exact aQV (hi.rel.inj _ _ _ _ _ h1 h2)
 .unfold swF at hv;rw[lQ,aG]at hv;obtain⟨u,hu,rfl⟩:=hv;exact hV _ _ _ (a5J (hi.frm t u hu)) rfl
 .rintro x ⟨i,s,hx⟩;exact .inl ⟨_,s,hx⟩
 have h':id<kb:=h;exact .inr (by show ρ (sw a b id)=ρ id;rw[YZ oO oO])⟩
theorem gL{k1:Nat}{fr1:Fr}{H1:aO}(hm:Mv kb k fr H k1 fr1 H1)(h:W P Γ nt kb c Q k1 fr1 H1):W P Γ nt kb c Q k fr H:=λ A0 hA0 hk w G ρ a hi=>by obtain⟨h1,h2⟩:=hm hk;obtain⟨G',ρ',hi',hs⟩:=h2 Γ nt A0 w G ρ a hA0 hi;exact wp_mono (h A0 hA0 h1 w G' ρ' a hi') λ _ _ _ hp=>Post.trans hs hp
def upM(kb:Nat)(Q:AQ):AQ:=λ e k fr H=>∃k1 fr1 H1,Mv kb k fr H k1 fr1 H1/\Q e k1 fr1 H1
theorem pA(h:W P Γ nt kb c (upM kb Q) k fr H):W P Γ nt kb c Q k fr H:=λ A0 hA0 hk w G ρ a hi=>
 wp_mono (h A0 hA0 hk w G ρ a hi) λ e a' w' hp=>by obtain⟨G',ρ',k',fr',H',⟨k1,fr1,H1,hm,hQ⟩,hk',hi',hst⟩:=hp;obtain⟨h1,h2⟩:=hm hk';obtain⟨G1,ρ1,hi1,hs1⟩:=h2 Γ nt A0 w' G' ρ' a' hA0 hi';exact⟨G1,ρ1,k1,fr1,H1,hQ,h1,hi1,hst.trans hs1 (λ _ h=>h)⟩
theorem bFZ{X:Type}{x:Code}(hc:hY c p= .loop x)(kx:Nat)(frx:X->Fr)(Hx:X->aO)(inv:X->Prop)(μ:X->Nat)(x0:X)(hs:Mv kb k fr H kx (frx x0) (Hx x0))(h0:inv x0)
 (round:∀x,inv x->W P Γ nt kb (hY c (0::p)) (mX (λ k' fr' H'=>∃y,inv y/\μ y<μ x/\Mv kb k' fr' H' kx (frx y) (Hx y)) Q) kx (frx x) (Hx x)):W P Γ nt kb (hY c p) Q k fr H:=by
 refine gL hs ?_;refine aYV hc (λ m k' fr' H'=>∃y,inv y/\μ y<=m/\k'=kx/\fr'=frx y/\H'=Hx y) (μ x0) ⟨x0,h0,aF _,rfl,rfl,rfl⟩ ?_;rintro m k' fr' H' ⟨y,hy,hm,rfl,rfl,rfl⟩;refine pA (lI (round y hy) ?_);intro e k1 fr1 H1 hq
 cases e with
 |normal=>obtain⟨z,hz,hlt,hw⟩:=hq;exact⟨_,_,_,hw,μ z,oO,z,hz,aF _,rfl,rfl,rfl⟩
 |exit id=>exact⟨k1,fr1,H1,xB,hq⟩
 |goto l=>exact⟨k1,fr1,H1,xB,hq⟩
 |ret=>exact⟨k1,fr1,H1,xB,hq⟩
 |panic ch=>exact⟨k1,fr1,H1,xB,hq⟩
 |outgrown=>exact⟨k1,fr1,H1,xB,hq⟩
theorem a6L{X:Type}{x y:Code}(hc:hY c p= .seq x y)(kx:Nat)(frx:X->Fr)(Hx:X->aO)(inv:X->Prop)
 (h1:W P Γ nt kb (hY c (0::p)) (mX (λ k' fr' H'=>∃z,inv z/\Mv kb k' fr' H' kx (frx z) (Hx z)) Q) k fr H) (h2:∀z,inv z->W P Γ nt kb (hY c (1::p)) Q kx (frx z) (Hx z)):W P Γ nt kb (hY c p) Q k fr H:=by
 refine gW hc (pA (lI h1 ?_));intro e k1 fr1 H1 hq
 cases e with
 |normal=>obtain⟨z,hz,hw⟩:=hq;exact⟨_,_,_,hw,h2 z hz⟩
 |exit id=>exact⟨k1,fr1,H1,xB,hq⟩
 |goto l=>exact⟨k1,fr1,H1,xB,hq⟩
 |ret=>exact⟨k1,fr1,H1,xB,hq⟩
 |panic ch=>exact⟨k1,fr1,H1,xB,hq⟩
 |outgrown=>exact⟨k1,fr1,H1,xB,hq⟩
theorem a6K(hc:hY c p= .ret){k1:Nat}{fr1:Fr}{H1:aO}(hm:Mv kb k fr H k1 fr1 H1)(h:Q .ret k1 fr1 H1):W P Γ nt kb (hY c p) Q k fr H:=gL hm (bV hc h)
end
def dG(id:Nat)(l:List (List AVal)):AVal:=match l with
 |[]=> .lit (.slice aC 0 0)
 |_::_=> .sl id 0 l.length
def cL(id sz:Nat)(l:List (List AVal))(H:aO):aO:=match l with
 |[]=>H
 |_::_=>(id,⟨sz,aB,l⟩)::H
theorem aXZ{id:Nat}:dG id []= .lit (.slice aC 0 0):=rfl
theorem aPP{id:Nat}{x:List AVal}{l:List (List AVal)}:dG id (x::l)= .sl id 0 (l.length+1):=rfl
theorem aYC{id sz:Nat}{H:aO}:cL id sz [] H=H:=rfl
theorem aPR{id sz:Nat}{x:List AVal}{l:List (List AVal)}{H:aO}:cL id sz (x::l) H=(id,⟨sz,aB,x::l⟩)::H:=rfl
inductive Tied2 (X Y:Prop):Type|mk
inductive TiedF (f:Out->Prop):Type|mk
inductive TiedC (f:Orc->List Orc->Prop):Type|mk
inductive TiedR (all:Array Oper) (l:List Oper) (K:List Foot->Nat->Fr->aO->Prop):Type|mk
inductive TiedP (f:Out->List Orc->Prop) (X:Prop):Type|mk
def JC(g:Option Bool)(X Y:Prop)(_:Tied2 X Y):Prop:=UA g X Y
def aEP(g:Option Out)(f:Out->Prop)(_:TiedF f):Prop:=aAA g f
def aWZ(cs:List Orc)(f:Orc->List Orc->Prop)(_:TiedC f):Prop:=aXA cs f
def aEJ(g:Option (Out×List Orc))(f:Out->List Orc->Prop)(X:Prop)(_:TiedP f X):Prop:=aSO g f X
def FH(P:Program)(Γ:dL)(all:Array Oper)(l:List Oper)(cs:List Orc)(k:Nat)(fr:Fr)(H:aO)(K:List Foot->Nat->Fr->aO->Prop)(_:TiedR all l K):Prop:=RunF P Γ all l cs k fr H K
section
variable{P:Program}{Γ:dL}{all:Array Oper}{r:List Oper}{cs:List Orc}{k:Nat}{fr:Fr}{H:aO}{K:List Foot->Nat->Fr->aO->Prop}{o:Oper}
theorem bGX{t:TiedR all [] K}:FH P Γ all [] cs k fr H K t=K [] k fr H:=rfl
theorem bGY{t:TiedR all (o::r) K}:FH P Γ all (o::r) cs k fr H K t=JC (mO all fr o) (FH P Γ all r (aRM o cs) k (jE fr o.dst (.lit undef)) H (λ tr=>K (⟨[],[],k,k⟩::tr)) .mk)
 (aEJ (GA o.dst cs) (λ out cs'=>Good P Γ o (kV Γ fr) (AM.look H) k out/\FH P Γ all r cs' out.k (jE fr o.dst out.v) (KY H out.upd) (λ tr=>K (⟨out.rds,out.upd.map (·.1),k,out.k⟩::tr)) .mk)
 (if uZ o=aB then aWZ cs (λ c cs'=>CallReq P Γ o (kV Γ fr) (AM.look H) k c/\FH P Γ all r cs' (c.out k).k (jE fr o.dst (c.out k).v) (c.heap k H) (λ tr=>K (⟨(c.out k).rds,(c.out k).upd.map (·.1),k,(c.out k).k⟩::tr)) .mk) .mk
 else aEP (AT P Γ o (kV Γ fr) (AM.look H) k) (λ out=>FH P Γ all r cs out.k (jE fr o.dst out.v) (WS (WO o) H out.upd) (λ tr=>K (⟨out.rds,out.upd.map (·.1),k,out.k⟩::tr)) .mk) .mk) .mk) .mk:=rfl
theorem bHA{f:Out->List Orc->Prop}{X:Prop}{t:TiedP f X}:aEJ aC f X t=X:=rfl
theorem bGZ{x:Out×List Orc}{f:Out->List Orc->Prop}{X:Prop}{t:TiedP f X}:aEJ (aA x) f X t=f x.1 x.2:=rfl
theorem bHC{out:Out}{f:Out->Prop}{t:TiedF f}:aEP (aA out) f t=f out:=rfl
theorem bHB{c:Prop} [Decidable c]{out:Out}{f:Out->Prop}{t:TiedF f}:aEP (if c then aA out else aC) f t=(c/\f out):=bDW
theorem bHD{X Y:Prop}{t:Tied2 X Y}:JC (aA aB) X Y t=Y:=by simp[JC,UA]
theorem bHE{X Y:Prop}{t:Tied2 X Y}:JC (aA aE) X Y t=X:=by simp[JC,UA]
theorem kY{b:Bool}{X Y:Prop}{t:Tied2 X Y}(ht:b=aB->Y)(hf:b=aE->X):JC (aA b) X Y t:=a2E ht hf
theorem bHF{c:Orc}{f:Orc->List Orc->Prop}{t:TiedC f}:aWZ (c::cs) f t=f c cs:=rfl
end
section
variable{P:Program}{Γ:dL}{nt kb:Nat}{Q:AQ}{k:Nat}{fr:Fr}{H:aO}{c:Code}{p:List Nat}
theorem KT{id:Nat}{l:List Oper}(hc:hY c p= .region id l.toArray aE)(keep:List Nat)(cs:List Orc)(hd:mQ nt l.toArray=aB)
 (h:∀K:List Foot->Nat->Fr->aO->Prop,(∀tr k' fr' H',(kb<=k'->Q .normal k' (kU keep fr') H')->K tr k' fr' H')->FH P Γ l.toArray l cs k fr H K .mk):W P Γ nt kb (hY c p) Q k fr H:=a6N hc keep cs hd h
theorem aLT{id:Nat}{l:List Oper}(hc:hY c p= .region id l.toArray aB)(keep:List Nat)(cs:List Orc)(hm:P.follows .mixedOrders=aB)(hd:mQ nt l.toArray=aB)
 (h:∀K:List Foot->Nat->Fr->aO->Prop,(∀tr k' fr' H',kP l.toArray tr=aB->(kb<=k'->Q .normal k' (kU keep fr') H')->K tr k' fr' H')->FH P Γ l.toArray l cs k fr H K .mk):W P Γ nt kb (hY c p) Q k fr H:=a6O hc keep cs hm hd h
end
attribute [go_sem] bGX bHA bGZ bGY bHC bHB bHD bHE bHF aXZ aPP aYC aPR
section
variable{id j s:Nat}{l:List (List AVal)}{x:List AVal}{H H0:aO}{B:Blk}
theorem aPO:dG id (l++[x])= .sl id 0 (l.length+1):=by cases l<;>simp[dG]
theorem aPQ:cL id s (l++[x]) H=(id,⟨s,aB,l++[x]⟩)::H:=by cases l<;>simp[cL]
theorem GJ(h:id≠j):AM.look (cL id s l H) j=AM.look H j:=by cases l<;>simp[cL,AM.look,h]
theorem a3E(h:id≠j):del (cL id s l H) j=cL id s l (del H j):=by cases l<;>simp[cL,del,h]
def lX(H:aO)(id s:Nat)(l:List (List AVal)):Prop:=l≠[]->AM.look H id=aA ⟨s,aB,l⟩
theorem QI:lX (cL id s l H) id s l=True:=by
 simp only[lX,eq_iff_iff,iff_true]
 intro h;cases l with
 |nil=>exact absurd rfl h
 |cons a r=>simp[cL,AM.look]
theorem FG(h:j≠id):lX ((j,B)::H) id s l=lX H id s l:=by simp[lX,AM.look,h]
theorem aYB:lX ((id,⟨s,aB,l⟩)::H) id s l=True:=by simp[lX,AM.look]
theorem a1W:QS H0 (cL id s l H)=(lX H0 id s l/\QS H0 H):=by
 cases l with
 |nil=>simp[lX,cL]
 |cons a r=>simp[lX,cL,QS]
theorem MP{p:Nat->Bool}(h:p id=aB):oM p (cL id s l H)=oM p H:=by cases l<;>simp[cL,oM,h]
theorem aHJ{p:Nat->Bool}(h:p id=aB):bd p (dG id l)=aB:=by cases l<;>simp[dG,bd,LJ,iM,h]
theorem a4C{p:Nat->Bool}(h:p id=aB):iM p (dG id l)=aB:=by cases l<;>simp[dG,iM,h]
theorem aZW{a b:Nat}:AP a b (dG id l)=dG (sw a b id) l:=by cases l<;>simp[dG,AP]
theorem aZV{a b:Nat}:sw2 a b (dG id l)=dG (sw a b id) l:=by cases l<;>simp[dG,sw2,sw1,AP]
theorem aZR{a b:Nat}:swH a b (cL id s l H)=cL (sw a b id) s l (swH a b H):=by cases l<;>simp[cL,swH,swB]
theorem c_1{a b:Nat}{v:Value}:sw2 a b (.lit v)= .lit v:=rfl
theorem c_2{a b i r c:Nat}:sw2 a b (.ptr i r c)= .ptr (sw a b i) r c:=rfl
theorem c_3{a b i r c:Nat}:sw2 a b (.sl i r c)= .sl (sw a b i) r c:=rfl
theorem c_4{a b:Nat}{cs:List AVal}:sw2 a b (.agg cs)= .agg (cs.map (AP a b)):=rfl
theorem c_5{a b:Nat}{cs:List AVal}:sw2 a b (.rp cs)= .rp cs:=rfl
theorem c_6{a b i n:Nat}{f:Nat->List AVal}:sw2 a b (.rd i n f)= .rd i n f:=rfl
theorem c_7{a b:Nat}{g:FuncId}{cs:List AVal}:sw2 a b (.fn g cs)= .fn g (cs.map (AP a b)):=rfl
theorem bJR{a b:Nat}{v:Value}:AP a b (.lit v)= .lit v:=rfl
theorem bJQ{a b i r c:Nat}:AP a b (.ptr i r c)= .ptr (sw a b i) r c:=rfl
theorem bJP{a b i r c:Nat}:AP a b (.sl i r c)= .sl (sw a b i) r c:=rfl
theorem bJO{a b:Nat}{cs:List AVal}:AP a b (.rp cs)= .rp cs:=rfl
theorem bJN{a b i n:Nat}{f:Nat->List AVal}:AP a b (.rd i n f)= .rd i n f:=rfl
theorem aQW{a b:Nat}:swH a b ((id,B)::H)=(sw a b id,swB a b B)::swH a b H:=rfl
theorem aZP{a b:Nat}:swH a b []=[]:=rfl
theorem aQY{a b sz:Nat}{rows:List (List AVal)}:swB a b ⟨sz,aB,rows⟩=⟨sz,aB,rows⟩:=rfl
theorem aZU{a b sz:Nat}{rows:List (List AVal)}:swB a b ⟨sz,aE,rows⟩=⟨sz,aE,rows.map λ row=>row.map (AP a b)⟩:=rfl
theorem aQX{a b t:Nat}{v:AVal}{fr:Fr}:swF a b ((t,v)::fr)=(t,sw2 a b v)::swF a b fr:=rfl
theorem aZS{a b:Nat}:swF a b []=[]:=rfl
end
section
variable{P:Program}{Γ:dL}{nt kb:Nat}{Q:AQ}{k:Nat}{fr:Fr}{H:aO}{c:Code}{p:List Nat}
theorem Mv.app (a b:Nat){k1:Nat}{fr1:Fr}{H1:aO}(ha:kb<=a/\a<k)(hb:kb<=b/\b<k)(h:WkG kb k (swF a b fr) (swH a b H) k1 fr1 H1):Mv kb k fr H k1 fr1 H1:=(Mv.swap a b ha hb).trans (nV h)
theorem bAN{x y:Code}(hc:hY c p= .seq x y)(kx:Nat)(frx:Fr)(Hx:aO)
 (h1:W P Γ nt kb (hY c (0::p)) (mX (λ k' fr' H'=>Mv kb k' fr' H' kx frx Hx) Q) k fr H) (h2:W P Γ nt kb (hY c (1::p)) Q kx frx Hx):W P Γ nt kb (hY c p) Q k fr H:=
 a6L (X:=Unit) hc kx (λ _=>frx) (λ _=>Hx) (λ _=>True) (lI h1 λ e k1 fr1 H1 h=>by
  cases e with
  |normal=>exact⟨(),trivial,h⟩
  |_=>exact h) (λ _ _=>h2)
theorem pH{k1:Nat}{fr1:Fr}{H1:aO}(hb:kb<=k1)(hf:leF fr fr1)(hH:QS H H1)(h:bdF (jS k1) fr1=aB)(h':oM (jS k1) H1=aB):WkG kb k fr H k1 fr1 H1:=bBN hb hf hH (.inr ⟨h,h'⟩)
end
attribute [go_sem] aPO aPQ GJ a3E QI aYB FG a1W aZW aZV aZR aQW aZP aQY aZU aQX aZS sw c_1 c_2 c_3 c_4 c_5 c_6 c_7 bJR bJQ bJP bJO bJN MP aHJ a4C
theorem wL{kb k:Nat}{fr:Fr}{H:aO}{k1:Nat}{fr1:Fr}{H1:aO}(hb:kb<=k1:=by omega)(hf:leF fr fr1:=by simp-dsimp-implicitDefEqProofs only[go_sem,aM,Flt.row,eq_self,↓reduceIte])(hH:QS H H1:=by simp-dsimp-implicitDefEqProofs only[go_sem,aM,Flt.row,eq_self,↓reduceIte])(h:bdF (jS k1) fr1=aB:=by simp-dsimp-implicitDefEqProofs only[go_sem,aM,Flt.row,eq_self,↓reduceIte])(h':oM (jS k1) H1=aB:=by simp-dsimp-implicitDefEqProofs only[go_sem,aM,Flt.row,eq_self,↓reduceIte]):WkG kb k fr H k1 fr1 H1:=pH hb hf hH h h'
theorem wV{T:Prop}(u:T){kb k:Nat}{fr:Fr}{H:aO}{k1:Nat}{fr1:Fr}{H1:aO}(hb:kb<=k1:=by omega)(hf:T->leF fr fr1:=by intro uU;simp-dsimp-implicitDefEqProofs only[go_sem,uU,aM,Flt.row,eq_self,↓reduceIte])(hH:T->QS H H1:=by intro uU;simp-dsimp-implicitDefEqProofs only[go_sem,uU,aM,Flt.row,eq_self,↓reduceIte])(h:T->bdF (jS k1) fr1=aB:=by intro uU;simp-dsimp-implicitDefEqProofs only[go_sem,uU,aM,Flt.row,eq_self,↓reduceIte])(h':T->oM (jS k1) H1=aB:=by intro uU;simp-dsimp-implicitDefEqProofs only[go_sem,uU,aM,Flt.row,eq_self,↓reduceIte]):WkG kb k fr H k1 fr1 H1:=pH hb (hf u) (hH u) (h u) (h' u)
theorem DZ(a b:Nat){kb k:Nat}{fr:Fr}{H:aO}{k1:Nat}{fr1:Fr}{H1:aO}(h:WkG kb k (swF a b fr) (swH a b H) k1 fr1 H1)(ha:kb<=a/\a<k:=by omega)(hb:kb<=b/\b<k:=by omega):Mv kb k fr H k1 fr1 H1:=Mv.app a b ha hb h
theorem sL{p:Prop}(h:p:=by simp-dsimp-implicitDefEqProofs only[go_sem,aM,Flt.row,eq_self,↓reduceIte]):p:=h
theorem s0{p:Prop}(h:p:=by simp-dsimp-implicitDefEqProofs only[go_sem,eq_self,↓reduceIte]):p:=h
theorem sV{T p:Prop}(u:T)(h:T->p:=by intro uU;simp-dsimp-implicitDefEqProofs only[go_sem,uU,aM,Flt.row,eq_self,↓reduceIte]):p:=h u
theorem wW{T:Prop}(u:T){kb k:Nat}{fr:Fr}{H:aO}{k1:Nat}{fr1:Fr}{H1:aO}(hb:kb<=k1:=by omega)(hf:T->leF fr fr1:=by intro uU;simp-dsimp-implicitDefEqProofs (disch:=omega)only[go_sem,gY,uU,RE,ltB_iff,aM,Flt.row,eq_self,↓reduceIte])(hH:T->QS H H1:=by intro uU;simp-dsimp-implicitDefEqProofs (disch:=omega)only[go_sem,gY,uU,RE,ltB_iff,aM,Flt.row,eq_self,↓reduceIte])(h:T->bdF (jS k1) fr1=aB:=by intro uU;simp-dsimp-implicitDefEqProofs (disch:=omega)only[go_sem,gY,uU,RE,ltB_iff,aM,Flt.row,eq_self,↓reduceIte])(h':T->oM (jS k1) H1=aB:=by intro uU;simp-dsimp-implicitDefEqProofs (disch:=omega)only[go_sem,gY,uU,RE,ltB_iff,aM,Flt.row,eq_self,↓reduceIte]):WkG kb k fr H k1 fr1 H1:=pH hb (hf u) (hH u) (h u) (h' u)
theorem sW{T p:Prop}(u:T)(h:T->p:=by intro uU;simp-dsimp-implicitDefEqProofs (disch:=omega)only[go_sem,gY,uU,RE,ltB_iff,aM,Flt.row,eq_self,↓reduceIte]):p:=h u
theorem sT{A B:Prop}(b:B)(h:B->A:=by intro b1;simp-dsimp-implicitDefEqProofs only[go_sem,eq_self,↓reduceIte];exact b1):A:=h b
instance:Coe Unit AVal:=⟨λ _=> .lit (.slice aC 0 0)⟩
instance:Coe Int AVal:=⟨λ x=> .lit (.int .i64 x)⟩
instance:Coe Nat AVal:=⟨λ x=> .lit (.int .i64 (x:Int))⟩
instance:Coe Bool AVal:=⟨λ x=> .lit (.bool x)⟩
def rows(s:Nat)(l:List (List AVal)):AVal:= .rd s l.length (λ i=>l.getD i [])
section
variable{P:Program}{Γ:dL}{nt kb:Nat}{Q:AQ}{k:Nat}{fr:Fr}{H:aO}{c:Code}{p:List Nat}
theorem VLe.nil (s:Nat)(f:Nat->List AVal):VLe (.lit (.slice aC 0 0)) (.rd s 0 f):=λ w G ρ A cv hv=>by cases hv;exact .rd0
theorem VA {id s:Nat}{l:List (List AVal)}(t:Nat)(hf:look fr t=aA (dG id l))(hH:lX H id s l):Mv kb k fr H k [(t,rows s l)] []:=by
 cases l with
 |nil=>
  refine λ hk=>nV ⟨hk,λ t' v hv=>?_,λ i B hB=>by simp[look]at hB,.inl rfl⟩ hk;simp only[look]at hv;split at hv;.rename_i he;subst he;cases hv;exact⟨_,hf,VLe.nil _ _⟩
  cases hv
 |cons x r=>
  have h1:=hH (by simp);refine Mv.trans (gK id h1 rfl) (λ hk=>nV ⟨hk,λ t' v hv=>?_,λ i B hB=>by simp[look]at hB,.inl rfl⟩ hk);simp only[look]at hv;split at hv;.rename_i he;subst he;cases hv;refine⟨_,by unfold pS;rw[lQ,hf];rfl,?_⟩;simp only[dG,frz,kH,rows,fH,aF,and_self,if_true];exact bJ _
  cases hv
theorem aIF(hc:hY c p= .ret){id s:Nat}{l:List (List AVal)}(t:Nat)(hf:look fr t=aA (dG id l))(hH:lX H id s l)(h:Q .ret k [(t,rows s l)] []):W P Γ nt kb (hY c p) Q k fr H:=
 a6K hc (VA t hf hH) h
end
def sh(f:Foot):Bool×Bool:=(!f.rds.isEmpty,!f.mods.isEmpty)
def aHD(ops:Array Oper)(oj:Oper)(fj:Bool×Bool)(oi:Oper)(fi:Bool×Bool):Bool:=
 kL (GZ oj) (pC ops oi)||kL (GZ oj) (GZ oi)||kL (GZ oi) (pC ops oj)||(fj.2&&fi.1)||(fj.2&&fi.2)||(fj.1&&fi.2)
def aVT(ops:Array Oper)(tr:List (Bool×Bool)):Bool:=
 (aN ops.size).all λ i=>match ops[i]?,tr[i]? with
   |some oi,aA fi=>(oi.after.toList.all λ e=> !Region.binds .any e||decide (e.on<i))&&
      (aN i).all λ j=>match ops[j]?,tr[j]? with
        |some oj,aA fj=> !aHD ops oj fj oi fi||aHI ops ops.size j i
        |_,_=>aE
   |_,_=>aE
theorem OG{a b:List Nat}(h:kL a b=aB):(!a.isEmpty)=aB/\(!b.isEmpty)=aB:=by
 cases a with
 |nil=>simp[kL]at h
 |cons x r=>cases b with
  |nil=>simp[kL]at h
  |cons y q=>simp
theorem a3Q{ops:Array Oper}{oj oi:Oper}{fj fi:Foot}(h:aHD ops oj (sh fj) oi (sh fi)=aE):mR ops oj fj oi fi=aE:=by
 simp only[aHD,fO,sh]at h;simp only[mR,fO];obtain⟨⟨⟨⟨⟨h1,h2⟩,h3⟩,h4⟩,h5⟩,h6⟩:=h;refine⟨⟨⟨⟨⟨h1,h2⟩,h3⟩,?_⟩,?_⟩,?_⟩
 .cases hm:kL fj.mods fi.rds with
  |false=>rfl
  |true=>obtain⟨a,b⟩:=OG hm;rw[a,b]at h4;cases h4
 .cases hm:kL fj.mods fi.mods with
  |false=>rfl
  |true=>obtain⟨a,b⟩:=OG hm;rw[a,b]at h5;cases h5
 cases hm:kL fj.rds fi.mods with
 |false=>rfl
 |true=>obtain⟨a,b⟩:=OG hm;rw[a,b]at h6;cases h6
theorem JI{ops:Array Oper}{tr:List Foot}(h:aVT ops (tr.map sh)=aB)(hm:(tr.all λ f=>f.mods.all λ x=>decide (x<f.k'))=aB):kP ops tr=aB:=by
 simp only[aVT,aW]at h;simp only[kP,aW];intro i hi;have h1:=h i hi;rw[aP]at h1
 cases ho:ops[i]? with
 |none=>rw[ho]at h1;simp at h1
 |some oi=>
  cases ht:tr[i]? with
  |none=>rw[ho,ht]at h1;simp at h1
  |some fi=>
   rw[ho,ht]at h1;simp only[bU,aH,aW]at h1;simp only[aH,aW];refine⟨⟨h1.1,?_⟩,λ j hj=>?_⟩;.have:=aW.1 hm fi (iG ht);exact λ x hx=>aW.1 this x hx
   have h2:=h1.2 j hj;rw[aP]at h2
   cases hoj:ops[j]? with
   |none=>rw[hoj]at h2;simp at h2
   |some oj=>
    cases htj:tr[j]? with
    |none=>rw[hoj,htj]at h2;simp at h2
    |some fj=>
     rw[hoj,htj]at h2;simp only[bU,bL,bD]at h2;simp only[bL,bD];rcases h2 with h2|h2;.exact .inl (a3Q h2)
     exact .inr h2
section
variable{P:Program}{Γ:dL}{nt kb:Nat}{Q:AQ}{k:Nat}{fr:Fr}{H:aO}{c:Code}{p:List Nat}
theorem tX (f:Nat)(hf:f<k):Mv kb k fr H (k+1) (swF f k fr) (swH f k H):=λ hk=>⟨oO,λ Γ nt A0 w G ρ ac hA hi=>by
 have hAk:¬kS A0 kb k k:=λ h=>by
  rcases h with h|h;.have:=hA _ h;omega
  omega
 have hal:∀i,kS A0 kb k (sw f k i)->kS A0 kb (k+1) i:=λ i h=>by
  by_cases h1:i=f;.subst h1;simp only[sw,if_true]at h;exact absurd h hAk
  by_cases h2:i=k;.subst h2;exact .inr ⟨hk,oO⟩
  rw[YZ h1 h2]at h;rcases h with h|h;.exact .inl h
  exact .inr ⟨h.1,oO⟩
 have hρk:ρ k=aC:=by
  cases hl:look H k with
  |none=>exact hi.rel.dom k (by simp[bK,hl])
  |some B=>exact absurd (hi.rel.blk k B (kS A0 kb k) (by simp only[bK,hl,bU])).1 hAk
 have hV:∀v u cv,V w G (λ i=>ρ (sw f k i)) (λ i=>kS A0 kb k (sw f k i)) v cv->u=v->V w G (λ i=>ρ (sw f k i)) (kS A0 kb (k+1)) u cv:=λ v u cv h e=>by subst e;exact h.mono (λ _ h=>h) (λ _ _=>rfl) (λ _ _=>rfl) hal (λ _ _=> .inr rfl)
 refine⟨G,λ i=>ρ (sw f k i),⟨⟨λ id h=>?_,λ id B A h=>?_,λ i j x s t h1 h2=>?_,hi.rel.ro,hi.rel.glob⟩,hi.size,hi.defers,λ t v hv=>?_⟩,⟨aF _,λ _ _ _=>rfl,λ _ _=>rfl,λ _ h=>h,λ _ h=> .inl h,?_,λ id h=>?_,rfl,rfl,rfl⟩⟩;.simp only[bK,dO,BQ]at h;exact hi.rel.dom _ (by simp[bK,h])
 .simp only[bK,aG,BQ]at h;obtain⟨B',⟨C,hC,rfl⟩,he⟩:=h;cases he;obtain⟨h1,x,h2,h3,h4⟩:=hi.rel.blk (sw f k id) C _ (by simp only[bK,hC,bU];rfl);have hsz:(swB f k C).sz=C.sz:=by unfold swB;split<;>rfl
  refine⟨hal id h1,x,by rw[hsz];exact h2,h3,?_⟩;obtain⟨⟨Cs,ty,hCs,hrows⟩,hlen⟩:=h4;unfold swB;split
  .rename_i hp;refine⟨⟨Cs,ty,hCs,λ r row c v h5 h6=>?_⟩,hlen⟩;obtain⟨cv,h9,h10⟩:=hrows r row c v h5 h6;simp only[hp,if_true]at h10⊢
   exact⟨cv,h9,h10⟩
  rename_i hp;refine⟨⟨Cs,ty,hCs,λ r row c v h5 h6=>?_⟩,λ r row h5=>?_⟩;.rw[aP,aG]at h5;obtain⟨row0,h7,rfl⟩:=h5;rw[aP,aG]at h6;obtain⟨v0,h8,rfl⟩:=h6;obtain⟨cv,h9,h10⟩:=hrows r row0 c v0 h7 h8;simp only[hp]at h10;exact⟨cv,h9,by simp only[aS,if_false];exact hV _ _ _ (ZB h10) rfl⟩
  rw[aP,aG]at h5;obtain⟨row0,h7,rfl⟩:=h5;simpa using hlen r row0 h7
 .exact aQV (hi.rel.inj _ _ _ _ _ h1 h2)
 .unfold swF at hv;rw[lQ,aG]at hv;obtain⟨u,hu,rfl⟩:=hv;exact hV _ _ _ (a5J (hi.frm t u hu)) rfl
 .rintro x ⟨i,s,hx⟩;exact .inl ⟨_,s,hx⟩
 have h':id<kb:=h;by_cases h1:id=f;.subst h1;exact .inl (by show ρ (sw id k id)=aC;simp only[sw,if_true];exact hρk)
 exact .inr (by show ρ (sw f k id)=ρ id;rw[YZ h1 oO])⟩
def rN(P:Program)(Γ:dL)(nt kb:Nat)(c:Code)(Q:AQ):Nat->Nat->Fr->aO->Prop
 |0,_,_,_=>False
 |n+1,k,fr,H=>W P Γ nt kb c (mX (rN P Γ nt kb c Q n) Q) k fr H
theorem IC{x:Code}(hc:hY c p= .loop x)(n:Nat)(h:rN P Γ nt kb (hY c (0::p)) Q n k fr H):W P Γ nt kb (hY c p) Q k fr H:=by
 refine aYV hc (λ m k fr H=>rN P Γ nt kb (hY c (0::p)) Q m k fr H) n h ?_;intro m k fr H h
 cases m with
 |zero=>exact h.elim
 |succ m=>
  refine lI h λ e k1 fr1 H1 hq=>?_
  cases e with
  |normal=>exact⟨m,oO,hq⟩
  |_=>exact hq
theorem HQ{x:Code}(n:Nat)(h:rN P Γ nt kb x Q n k fr H):W P Γ nt kb (.loop x) Q k fr H:=by
 refine aYG (λ m k fr H=>rN P Γ nt kb x Q m k fr H) n h ?_;intro m k fr H h
 cases m with
 |zero=>exact h.elim
 |succ m=>
  refine lI h λ e k1 fr1 H1 hq=>?_
  cases e with
  |normal=>exact⟨m,oO,hq⟩
  |_=>exact hq
theorem rounds_succ{n:Nat}{c:Code}(h:W P Γ nt kb c (mX (rN P Γ nt kb c Q n) Q) k fr H):rN P Γ nt kb c Q (n+1) k fr H:=h
def IT(keep:List Nat)(u:Fr):Fr->Fr
 |[]=>u
 |(t,v)::r=>if keep.contains t=aB/\(look u t).isSome=aE then(t,v)::IT keep u r else IT keep u r
theorem a0U{keep:List Nat}{u:Fr}:IT keep u []=u:=rfl
theorem aSR{keep:List Nat}{u:Fr}{t:Nat}{v:AVal}{r:Fr}:IT keep u ((t,v)::r)=if keep.contains t=aB/\(look u t).isSome=aE then(t,v)::IT keep u r else IT keep u r:=rfl
end
theorem bY{P:Program}{Γ:dL}{nt kb:Nat}{Q:AQ}{k:Nat}{fr:Fr}{H:aO}{c:Code}{p:List Nat}{X:Type}{x:Code}(hc:hY c p= .loop x)(keep:List Nat)(kx:Nat)(u:X->Fr)(Hx:X->aO)(inv:X->Prop)(μ:X->Nat)(x0:X)
 (hs:Mv kb k fr H kx (IT keep (u x0) fr) (Hx x0)) (h0:inv x0)
 (round:∀x,inv x->W P Γ nt kb (hY c (0::p)) (mX (λ k' fr' H'=>∃y,inv y/\μ y<μ x/\Mv kb k' fr' H' kx (IT keep (u y) fr) (Hx y)) Q) kx (IT keep (u x) fr) (Hx x)):W P Γ nt kb (hY c p) Q k fr H:=bFZ hc kx (λ x=>IT keep (u x) fr) Hx inv μ x0 hs h0 round
theorem FI{P:Program}{Γ:dL}{nt kb:Nat}{Q:AQ}{k:Nat}{fr:Fr}{H:aO}{c:Code}{p:List Nat}{X:Type}{x y:Code}(hc:hY c p= .seq x y)(keep:List Nat)(kx:Nat)(u:X->Fr)(Hx:X->aO)(inv:X->Prop)
 (h1:W P Γ nt kb (hY c (0::p)) (mX (λ k' fr' H'=>∃z,inv z/\Mv kb k' fr' H' kx (IT keep (u z) fr) (Hx z)) Q) k fr H) (h2:∀z,inv z->W P Γ nt kb (hY c (1::p)) Q kx (IT keep (u z) fr) (Hx z)):W P Γ nt kb (hY c p) Q k fr H:=a6L hc kx (λ z=>IT keep (u z) fr) Hx inv h1 h2
theorem c_0:((0:Nat):Int)=0:=rfl
theorem c_S{n:Nat}:((n+1:Nat):Int)=(n:Int)+1:=rfl
attribute [go_sem] c_0 c_S
theorem wrap_u32{n:Int}(h1:0<=n)(h2:n<4294967296):lM.wrap n=n:=by rw[IntKind.wrap_u32];omega
theorem wrap_u64{n:Int}(h1:0<=n)(h2:n<18446744073709551616):aY.wrap n=n:=by simp[IntKind.wrap,IntKind.bits,IntKind.signed];omega
theorem nX{n:Int}(h1:0<=n)(h2:n<256):fA.wrap n=n:=by simp[IntKind.wrap,IntKind.bits,IntKind.signed];omega
def vV(id:Nat)(l:List (List AVal)):List (Nat×Option Blk):=match l with
 |[]=>[]
 |_::_=>[(id,aC)]
def pL(id:Nat)(l:List (List AVal)):List Nat:=match l with
 |[]=>[]
 |_::_=>[id]
def aPK(k:Nat)(l rows:List (List AVal))(m:Nat):AVal:=if rows.length=m/\0<m then dG k (l++rows)else .sl k 0 (l.length+m)
theorem a9M{k:Nat}{l:List (List AVal)}{x:List AVal}:aPK k l [x] 1=dG k (l++[x]):=by simp[aPK]
theorem a4G(k:Nat)(l rows:List (List AVal))(m:Nat):aPK k l rows m= .sl k 0 (l.length+m):=by
 unfold aPK;split
 .rename_i h
  cases rows with
  |nil=>simp at h;omega
  |cons a r=>
   cases l with
   |nil=>simp[dG,<-h.1]
   |cons b q=>simp[dG,<-h.1,gD,bKT 1]
 rfl
def appR(s by' k id:Nat)(l:List (List AVal))(src:Option (Nat×Nat×List (List AVal)×Bool×List Nat)):Option Out:=
 match src with
 |some (s',m,rows,p,ids)=>if m=0 then aA ⟨dG id l,k,[],pL id l++ids⟩else if s'=s/\0<m/\l.length+m<=9223372036854775807/\(l.length+m)*by'<=140737488355328/\(rows.all λ row=>row.all one)=aB then
    aA ⟨aPK k l rows m,k+1,(k,aA ⟨s,p,l++rows⟩)::vV id l,pL id l++ids⟩else aC
 |none=>aC
theorem aVR{s by' k id:Nat}{l:List (List AVal)}{s' m:Nat}{rows:List (List AVal)}{p:Bool}{ids:List Nat}:appR s by' k id l (aA (s',m,rows,p,ids))=
 if m=0 then aA ⟨dG id l,k,[],pL id l++ids⟩else if s'=s/\0<m/\l.length+m<=9223372036854775807/\(l.length+m)*by'<=140737488355328/\(rows.all λ row=>row.all one)=aB then
  aA ⟨aPK k l rows m,k+1,(k,aA ⟨s,p,l++rows⟩)::vV id l,pL id l++ids⟩else aC:=rfl
theorem zU{P:Program}{t s by':Nat}{z:List AVal}{H0:aO}{k id:Nat}{l:List (List AVal)}{y:Option AVal}(hz:gV P t=aA (s,by',z))(hin:lX H0 id s l)(hid:id<k):
 kI P (AM.look H0) k t (aA (dG id l)) y=appR s by' k id l (y.bind (CK (AM.look H0))):=by
 cases hy:y.bind (CK (AM.look H0))with
 |none=>cases l<;>simp[dG,kI,hz,hy,appR]
 |some x=>
  obtain⟨s',m,rows,p,ids⟩:=x;rw[aVR,a4G]
  cases l with
  |nil=>simp[dG,kI,hz,hy,vV,pL]
  |cons b q=>have hl:=hin (by simp);simp[dG,kI,hz,hy,hl,vV,pL,hid]
theorem YU{id s:Nat}{l:List (List AVal)}{H:aO}(h:del H id=H):lK (cL id s l H) (vV id l)=H:=by
 cases l with
 |nil=>rfl
 |cons a r=>simp[cL,vV,lK,del,h]
theorem aMB{id:Nat}{l:List (List AVal)}{H:aO}{j:Nat}{B:Blk}(hj:j≠id):lK ((j,B)::H) (vV id l)=(j,B)::lK H (vV id l):=by
 cases l with
 |nil=>rfl
 |cons a r=>simp[vV,lK,del,hj]
theorem a2C{id s:Nat}{l:List (List AVal)}{H H0:aO}:inH (AM.look H0) (cL id s l H)=(lX H0 id s l/\inH (AM.look H0) H):=by
 cases l with
 |nil=>simp[lX,cL]
 |cons a r=>simp[lX,cL,inH]
theorem a1U{P:Program}{H0:aO}{k t id:Nat}{l:List (List AVal)}{s:Nat}(hs:fX P t=aB)(hin:lX H0 id s l):yQ P (AM.look H0) k t (aA (dG id l))=aA ⟨.lit (.int .i64 (l.length:Int)),k,[],pL id l⟩:=by
 cases l with
 |nil=>simp[dG,yQ,hs,mY,pL]
 |cons a r=>have hl:=hin (by simp);simp[dG,yQ,hs,hl,pL]
attribute [go_sem] a0U aSR a9M aVR YU aMB a2C
end Go.AM
end
