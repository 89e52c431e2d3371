import Derived.Test.YteimiejbhhgljaaGreatDoorZAC
import Derived.KernelRfl
set_option linter.unusedVariables false
set_option linter.unusedSimpArgs false
set_option maxHeartbeats 0
set_option maxRecDepth 100000
open Bool renaming and_eq_true->aC,and_false->qP,and_self->a0W,and_true->qO,eq_false_iff->dS,false_and->kD,false_eq_true->aO,false_or->FW,not_eq_true'->aT,not_true->a0V,or_eq_false_iff->fQ,or_eq_true->bH,true_and->kQ,true_eq_false->bM,true_or->yV
open Int renaming toNat_natCast->gX
open Go.IntKind renaming u32->jF,u64->bN
open List renaming all_cons->hY,all_eq_true->aW,any_eq_true->aHT,append_nil->aR,cons_append->dQ,contains_iff_mem->bGA,getD_eq_getElem?_getD->bD,getElem?_append->kY,getElem?_append_left->fU,getElem?_append_right->gQ,getElem?_cons_succ->eW,getElem?_cons_zero->iX,getElem?_eq_some_iff->aG,getElem?_map->aQ,getElem?_toArray->cH,getElem_mem->bKH,length_append->bQ,length_cons->lZ,length_map->bP,map->jL,map_append->aH,map_cons->bG,map_map->jD,map_nil->aV,mem_cons->jK,mem_map->cL,mem_of_getElem?->jC,nil_append->cN,range->aM,range_succ->CI
open Nat renaming add_assoc->fS,add_comm->bFX,add_sub_cancel->rN,add_sub_cancel_left->iW,add_zero->jX,beq->sD,eq_of_beq_eq_true->bZ,le_of_ble_eq_true->qU,le_refl->aF,mul_one->bAM,sub_self->PG,zero_add->dV
open Option renaming bind_some->bKF,isSome_none->lA,map_eq_none_iff->dG,map_eq_some_iff->aB,map_none->oC,map_some->cB,some->mB
section
namespace Go.AM
section
variable{P:Program}{Γ:List (Nat×List AVal)}{all:Array Oper}{r:List Oper}{cs:List Orc}{k:Nat}{fr:Fr}{H:aS}{K:List Foot->Nat->Fr->aS->Prop}{o:Oper}
variable{d:Option Nat}{ty:TypeId}{pos:String}{af:Array Edge}{g:Option (Nat×Bool)}{ev:Operand->Option AVal}{get:Nat->Option Blk}
def YH:List Oper->Nat->Option Nat
 |[],_=>none
 |o::_,0=>o.dst
 |_::r,n+1=>YH r n
theorem aGQ:∀(l:List Oper) (n:Nat),YH l n=(l[n]?).bind (·.dst)
 |[],n=>by simp[YH]
 |o::r,0=>rfl
 |o::r,n+1=>by rw[YH,aGQ r n,eW]
theorem a8Y{l:List Oper}:YH (o::l) 0=o.dst:=rfl
theorem a8X{l:List Oper}{n:Nat}:YH (o::l) (n+1)=YH l n:=rfl
theorem a8I{c:Prop} [Decidable c]{out:Out}{f:Out->Prop}:XF (if c then some out else none) f=(c/\f out):=by by_cases h:c<;>simp[XF,h]
theorem aXY{b:Bool}{X Y:Prop}(ht:b=true->Y)(hf:b=false->X):RD (some b) X Y:=by
 cases b;.exact hf rfl
 exact ht rfl
theorem a8J{v:AVal}{k':Nat}{loc Hc Hout:aS}:Orc.out (.far v k' loc Hc Hout) k=iO v k' Hc Hout:=rfl
theorem a4T{v:AVal}:Orc.heap (.ret v) k H=H:=rfl
theorem a4U{v:AVal}{k':Nat}{Hc Hout:aS}:Orc.heap (.gen v k' Hc Hout) k H=lD H (iO v k' Hc Hout).upd:=rfl
theorem a8W{v:AVal}{k':Nat}{loc Hc Hout:aS}:Orc.heap (.far v k' loc Hc Hout) k H=loc++Hout:=rfl
theorem a8V{u:List (Nat×Option Blk)}:TS false H u=lD H u:=rfl
theorem a8U{u:List (Nat×Option Blk)}:TS true H u=IT H u:=rfl
theorem a7V:IT H []=H:=rfl
theorem a7U{i:Nat}{B:Blk}{u:List (Nat×Option Blk)}:IT H ((i,some B)::u)=zQ (IT H u) i B:=rfl
theorem a7X{i:Nat}{B:Blk}:zQ [] i B=[(i,B)]:=rfl
theorem a7W{a i:Nat}{x B:Blk}{r:aS}:zQ ((a,x)::r) i B=if a=i then(a,B)::r else(a,x)::zQ r i B:=rfl
theorem bDT:TM o=match o.op with| .store .. =>true|_=>false:=rfl
theorem a8C{d:Option Nat}{v:AVal}{k':Nat}{loc Hc Hout:aS}{l:List Orc}:ED d (.far v k' loc Hc Hout::l)=none:=rfl
theorem a8G{d:Option Nat}:ED d []=none:=rfl
theorem a8F{d:Option Nat}{v:AVal}{l:List Orc}:ED d (.ret v::l)=none:=rfl
theorem a8E{d:Option Nat}{v:AVal}{k':Nat}{Hc Hout:aS}{l:List Orc}:ED d (.gen v k' Hc Hout::l)=none:=rfl
theorem a8D{d d':Option Nat}{out:Out}{l:List Orc}:ED d (.raw d' out::l)=if d=d' then some (out,l)else none:=rfl
theorem bDM:aOA o cs=match ED o.dst cs with|some x=>x.2|none=>if uE o=true then cs.tail else cs:=rfl
theorem bDY{op:Op}:mJ all fr ⟨d,op,ty,pos,af,none⟩=some true:=rfl
def aGO(want:Bool):Option AVal->Option Bool
 |some (.lit v)=>some (a7I want v)
 |_=>none
theorem bDV{want:Bool}:aGO want (some (.lit undef))=some false:=rfl
theorem bDX{op:Op}{l:List Oper}{j:Nat}{want:Bool}:mJ l.toArray fr ⟨d,op,ty,pos,af,some (j,want)⟩=aGO want ((YH l j).bind (AM.look fr)):=by
 rw[aGQ];simp only[mJ,cH];generalize hall:l.toArray=all;have e:l=all.toList:=by rw[<-hall]
 subst e;generalize((all.toList[j]?).bind (·.dst)).bind (AM.look fr)=x
 cases x with
 |none=>rfl
 |some v=>cases v with
  |lit u=>cases u<;>rfl
  |_=>rfl
theorem bDW{b:Bool}:aGO true (some (.lit (.bool b)))=some b:=by cases b<;>rfl
theorem a8Z{b:Bool}:aGO false (some (.lit (.bool b)))=some !b:=by cases b<;>rfl
theorem a4W{f:Operand}{args:Array Operand}{tys:Array TypeId}{c:Orc}:CallReq P Γ ⟨d,.call {callee:= .value f,args:=args,argTypes:=tys},ty,pos,af,g⟩ ev get k c=
 match ev f,rF ev args.toList with
 | some (.fn g caps),some vs=>aL P g=true/\(match c with
   | .ret v=>(vs++caps).all (bd λ _=>false)=true/\Pure P Γ g (vs++caps) v
   | .gen v k' Hc Hout=>(vs++caps).all (bd (dX Hc))=true/\rG (dX Hc) Hc=true/\inH get Hc/\k<=k'/\Tr P Γ g k (vs++caps) Hc (λ k1 r1 H1=>k1=k'/\r1=v/\H1=Hout)
   | .raw _ _=>False
   | .far v k' loc Hc Hout=>(vs++caps).all (bd (dX Hc))=true/\rG (dX Hc) Hc=true/\eqG get (loc++Hc)/\DL loc Hc Hout/\k<=k'/\Tr P Γ g k (vs++caps) Hc (λ k1 r1 H1=>k1=k'/\r1=v/\H1=Hout))
 | some (.bfn g i r0 c0),some vs=>aL P g=true/\(match c with
   | .ret _=>False
   | .gen v k' Hc Hout=>(.ptr i r0 c0::vs).all (bd (dX Hc))=true/\rG (dX Hc) Hc=true/\inH get Hc/\k<=k'/\Tr P Γ g k (.ptr i r0 c0::vs) Hc (λ k1 r1 H1=>k1=k'/\r1=v/\H1=Hout)
   | .raw _ _=>False
   | .far v k' loc Hc Hout=>(.ptr i r0 c0::vs).all (bd (dX Hc))=true/\rG (dX Hc) Hc=true/\eqG get (loc++Hc)/\DL loc Hc Hout/\k<=k'/\Tr P Γ g k (.ptr i r0 c0::vs) Hc (λ k1 r1 H1=>k1=k'/\r1=v/\H1=Hout))
 |_,_=>False:=rfl
theorem a4M{v:AVal}:Orc.out (.ret v) k=⟨v,k,[],[]⟩:=rfl
theorem a4N{v:AVal}{k':Nat}{Hc Hout:aS}:Orc.out (.gen v k' Hc Hout) k=iO v k' Hc Hout:=rfl
theorem a4O{x:Operand}:BV P Γ ⟨d,.move x,ty,pos,af,g⟩ ev get k=pO k (ev x):=rfl
theorem aSE{x:Operand}:BV P Γ ⟨d,.assign x,ty,pos,af,g⟩ ev get k=pO k (ev x):=rfl
theorem a4L{c x y:Operand}:BV P Γ ⟨d,.pick c x y,ty,pos,af,g⟩ ev get k=aFK k (ev c) (ev x) (ev y):=rfl
theorem a8M{x:Operand}:BV P Γ ⟨d,.nilCheck x,ty,pos,af,g⟩ ev get k=aPI get k (ev x):=rfl
theorem bEB{s f:Nat}{x:Operand}:BV P Γ ⟨d,.fieldAddr s x f,ty,pos,af,g⟩ ev get k=MR get k (bT P s f) (ev x):=rfl
theorem bDU{t:Nat}{x y:Operand}:BV P Γ ⟨d,.indexAddr t x y,ty,pos,af,g⟩ ev get k=pK P get k t (ev x) (ev y):=rfl
theorem a4Q{t:Nat}{x:Operand}:BV P Γ ⟨d,.load t x,ty,pos,af,g⟩ ev get k=FJ P get k t (ev x):=rfl
theorem aYO{t:Nat}{x y:Operand}:BV P Γ ⟨d,.store t x y,ty,pos,af,g⟩ ev get k=HL P get k t (ev x) (ev y):=rfl
theorem aYW{t:Nat}:BV P Γ ⟨d,.alloc t,ty,pos,af,g⟩ ev get k=aBS P k t (gS P t):=rfl
theorem a9E{t:Nat}{x:Operand}:BV P Γ ⟨d,.box t x,ty,pos,af,g⟩ ev get k=aBS P k t ((ev x).bind uZ):=rfl
theorem aYV{t:Nat}{parts:Array (Nat×Operand)}:BV P Γ ⟨d,.build t parts,ty,pos,af,g⟩ ev get k=NX P k t (mL ev parts.toList):=rfl
theorem a9D{t n:Nat}{parts:Array (Nat×Operand)}:BV P Γ ⟨d,.buildSlice t n parts,ty,pos,af,g⟩ ev get k=rY P k t n (mL ev parts.toList):=rfl
theorem a4P{t:Nat}{x y:Operand}:BV P Γ ⟨d,.makeSlice t x y,ty,pos,af,g⟩ ev get k=ZU P k t (ev x) (ev y):=rfl
theorem aYP{t:Nat}{x:Operand}{lo hi:Option Operand}:BV P Γ ⟨d,.slice t x lo hi none,ty,pos,af,g⟩ ev get k=NW P ev get k t x lo hi:=rfl
theorem aYT{s f:Nat}{x:Operand}:BV P Γ ⟨d,.field s x f,ty,pos,af,g⟩ ev get k=JS k (fieldAt P s f) (ev x):=rfl
theorem aYS{t:Nat}{x y:Operand}:BV P Γ ⟨d,.index t x y,ty,pos,af,g⟩ ev get k=TP P k t (ev x) (ev y):=rfl
theorem a1Q{i:Nat}{x:Operand}:BV P Γ ⟨d,.extract x i,ty,pos,af,g⟩ ev get k=ET k (ev x) i:=rfl
theorem a9A{f:Nat}{caps:Array Operand}:BV P Γ ⟨d,.makeFunc (.func f) #[] caps,ty,pos,af,g⟩ ev get k=aXZ k f (rF ev caps.toList):=rfl
theorem a8O{t:Nat}{x:Operand}:BV P Γ ⟨d,.call {callee:= .builtin .len,args:= #[x],argTypes:= #[t]},ty,pos,af,g⟩ ev get k=AF P get k t (ev x):=rfl
theorem a9G{t:Nat}{x y:Operand}:BV P Γ ⟨d,.call {callee:= .builtin .append,args:= #[x,y],argTypes:= #[t,t]},ty,pos,af,g⟩ ev get k=iP P get k t (ev x) (ev y):=by simp[BV,RU]
theorem a8N{tys:Array TypeId}{x y:Operand}:BV P Γ ⟨d,.call {callee:= .builtin .max,args:= #[x,y],argTypes:=tys},ty,pos,af,g⟩ ev get k=aPS k (ev x) (ev y):=rfl
theorem a9F{op:BinOp}{t t':Nat}{x y:Operand}:BV P Γ ⟨d,.binOp op t x y t',ty,pos,af,g⟩ ev get k=aEA P get k op t (ev x) (ev y):=rfl
theorem bDH{op:UnOp}{t:Nat}{x:Operand}:BV P Γ ⟨d,.unOp op t x,ty,pos,af,g⟩ ev get k=unO k op (ev x):=rfl
theorem a4X{s t:Nat}{x:Operand}:BV P Γ ⟨d,.convert s t x,ty,pos,af,g⟩ ev get k=aHF k (xE P s) (xE P t) (pG P t) (ev x):=rfl
theorem a7S{t:Nat}:kB Γ fr (.tmp t)=AM.look fr t:=rfl
theorem aYU{v:Value}:kB Γ fr (.const v)=some (.lit v):=rfl
theorem a4V{f:Nat}:kB Γ fr (.func f)=some (.fn f []):=rfl
theorem bDS{α:Type}{a i:Nat}{x:α}{l:List (Nat×α)}:AM.look ((a,x)::l) i=if a=i then some x else AM.look l i:=rfl
theorem bDR{α:Type}{i:Nat}:AM.look ([]:List (Nat×α)) i=none:=rfl
theorem bEE{α:Type}{a i:Nat}{x:α}{l:List (Nat×α)}:del ((a,x)::l) i=if a=i then del l i else(a,x)::del l i:=rfl
theorem bED{α:Type}{i:Nat}:del ([]:List (Nat×α)) i=[]:=rfl
theorem a8H{t:Nat}{v:AVal}:gK fr (some t) v=(t,v)::del fr t:=rfl
theorem a4K{v:AVal}:gK fr none v=fr:=rfl
theorem bDK:lD H []=H:=rfl
theorem bDJ{i:Nat}{B:Blk}{u:List (Nat×Option Blk)}:lD H ((i,some B)::u)=(i,B)::del (lD H u) i:=rfl
theorem bDI{i:Nat}{u:List (Nat×Option Blk)}:lD H ((i,none)::u)=del (lD H u) i:=rfl
theorem a7Z{keep:List Nat}:kA keep []=[]:=rfl
theorem a7Y{keep:List Nat}{t:Nat}{v:AVal}:kA keep ((t,v)::fr)=if keep.contains t=true then(t,v)::kA keep fr else kA keep fr:=rfl
theorem bDQ{v:AVal}:pO k (some v)=some (pF k v):=rfl
theorem bDN{t:Bool}{x y:Option AVal}:aFK k (some (.lit (.bool t))) x y=pO k (if t=true then x else y):=rfl
theorem a8L{c:List AVal}:aPI get k (some (.rp c))=some (pF k (.rp c)):=rfl
theorem a8K{i r c:Nat}:aPI get k (some (.ptr i r c))=if(get i).isSome=true then some ⟨.ptr i r c,k,[],[i]⟩else none:=rfl
theorem a9C{off:Nat}{c:List AVal}:MR get k (some off) (some (.rp c))=some (pF k (.rp (c.drop off))):=rfl
theorem a9B{off i r c:Nat}:MR get k (some off) (some (.ptr i r c))=if(get i).isSome=true then some ⟨.ptr i r (c+off),k,[],[i]⟩else none:=rfl
theorem bDO{t:Nat}{cells:List AVal}:aBS P k t (some cells)=some ⟨.ptr k 0 0,k+1,[(k,some (AA P t cells))],[]⟩:=rfl
theorem bDZ{off n:Nat}{ag:Bool}{cells:List AVal}:JS k (some (off,n,ag)) (some (.agg cells))=pO k (gD ag n cells off):=rfl
theorem a8T{t:Nat}{cells:List AVal}{kk:IntKind}{i:Int}:TP P k t (some (.agg cells)) (some (.lit (.int kk i)))=match aED P t with
 |some (m,s,ag)=>if 0<=i/\i<m then pO k (gD ag s cells (i.toNat*s))else none
 |none=>none:=rfl
theorem bEC{vs:List AVal}{i:Nat}:ET k (some (.tup vs)) i=pO k (vs[i]?):=rfl
theorem bEA{f:Nat}{vs:List AVal}:aXZ k f (some vs)=some (pF k (.fn f vs)):=rfl
theorem a8Q{t s n:Nat}{f:Nat->List AVal}:AF P get k t (some (.rd s n f))=if fN P t=true then some (pF k (.lit (.int .i64 n)))else none:=rfl
theorem a8P{t i r n:Nat}:AF P get k t (some (.sl i r n))=if fN P t=true/\(get i).isSome=true then some ⟨.lit (.int .i64 n),k,[],[i]⟩else none:=rfl
theorem bEG{op:BinOp}{t:Nat}{a b:Value}:aEA P get k op t (some (.lit a)) (some (.lit b))=pO k ((aLN P op t a b).map .lit):=rfl
theorem bDG{op:UnOp}{a:Value}:unO k op (some (.lit a))=pO k ((unV op a).map .lit):=rfl
theorem bEF{k1 k2 k3:IntKind}{n:Int}{st:Bool}:aHF k (some k1) (some k2) st (some (.lit (.int k3 n)))=some (pF k (.lit (.int k2 (k2.wrap n)))):=rfl
theorem bDP{kk:IntKind}{a b:Int}:aPS k (some (.lit (.int kk a))) (some (.lit (.int kk b)))=some (pF k (.lit (.int kk (if b>a then b else a)))):=by simp[aPS]
theorem a9L{t s n:Nat}{f:Nat->List AVal}{kk:IntKind}{i:Int}:pK P get k t (some (.rd s n f)) (some (.lit (.int kk i)))=if CD P t=some s/\0<=i/\i<n then some ⟨.rp (f i.toNat),k,[],[]⟩else none:=rfl
theorem a9K{t id r n:Nat}{kk:IntKind}{i:Int}:pK P get k t (some (.sl id r n)) (some (.lit (.int kk i)))=match get id with
 |some B=>if CD P t=some B.sz/\0<=i/\i<n then some ⟨.ptr id (r+i.toNat) 0,k,[],[id]⟩else none
 |none=>none:=rfl
theorem a9J{t id r c:Nat}{kk:IntKind}{i:Int}:pK P get k t (some (.ptr id r c)) (some (.lit (.int kk i)))=match BT P t,get id with
 |some (m,s),some B=>if 0<=i/\i<m then some ⟨if B.sz=s/\c=0 then .ptr id (r+i.toNat) 0 else .ptr id r (c+i.toNat*s),k,[],[id]⟩else none
 |_,_=>none:=rfl
def aPZ(k:Nat)(ag:Option Bool)(n:Option Nat)(cells:List AVal):Option Out:=
 match ag,n with
 |some ag,some n=>pO k (gD ag n cells 0)
 |_,_=>none
theorem a8S{t:Nat}{cells:List AVal}:FJ P get k t (some (.rp cells))=aPZ k (iS P t) (oK P t) cells:=by
 unfold FJ aPZ;cases iS P t<;>cases oK P t<;>try rfl
 simp only[pF];cases gD _ _ _ _<;>rfl
theorem a4S{ag:Bool}{n:Nat}{cells:List AVal}:aPZ k (some ag) (some n) cells=pO k (gD ag n cells 0):=rfl
def aPY(k:Nat)(ag:Option Bool)(n:Option Nat)(B:Option Blk)(id r c:Nat):Option Out:=
 match ag,n,B with
 |some ag,some n,some B=>if r=0/\c=0/\B.sz<n then(gD ag n B.rows.flatten 0).map λ v=>⟨v,k,[],[id]⟩else match B.rows[r]? with
    |some row=>(gD ag n row c).map λ v=>⟨v,k,[],[id]⟩
    |none=>none
 |_,_,_=>none
theorem a8R{t id r c:Nat}:FJ P get k t (some (.ptr id r c))=aPY k (iS P t) (oK P t) (get id) id r c:=by
 unfold FJ aPY;cases iS P t<;>cases oK P t<;>try rfl
 cases hg:get id with
 |none=>simp only[hg]
 |some B=>simp only[hg];all_goals(cases B.rows[r]? <;>rfl)
theorem a4R{ag:Bool}{n:Nat}{B:Blk}{id r c:Nat}:aPY k (some ag) (some n) (some B) id r c=if r=0/\c=0/\B.sz<n then(gD ag n B.rows.flatten 0).map λ v=>⟨v,k,[],[id]⟩else match B.rows[r]? with
 |some row=>(gD ag n row c).map λ v=>⟨v,k,[],[id]⟩
 |none=>none:=rfl
theorem a9I{t:Nat}{y:Option AVal}:iP P get k t (some (.lit (.slice none 0 0))) y=match iB P t,y.bind (xW get)with
 | some (s,by',_),some (s',m,rows,p,ids)=>if m=0 then some ⟨.lit (.slice none 0 0),k,[],ids⟩
   else if s'=s/\0<m/\m<=9223372036854775807/\m*by'<=140737488355328/\(rows.all λ row=>row.all one)=true then some ⟨.sl k 0 m,k+1,[(k,some ⟨s,p,rows⟩)],ids⟩else none
 |_,_=>none:=by unfold iP;cases iB P t<;>cases y.bind (xW get)<;>rfl
theorem a9H{t id n:Nat}{y:Option AVal}:iP P get k t (some (.sl id 0 n)) y=match iB P t,y.bind (xW get)with
 | some (s,by',_),some (s',m,rows,p,ids)=>match get id with
   | some B=>if m=0 then some ⟨.sl id 0 n,k,[],id::ids⟩
     else if s'=s/\B.sz=s/\B.rows.length=n/\id<k/\0<m/\n+m<=9223372036854775807/\(n+m)*by'<=140737488355328/\(rows.all λ row=>row.all one)=true then
      some ⟨.sl k 0 (n+m),k+1,[(k,some ⟨s,B.pure&&p,B.rows++rows⟩),(id,none)],id::ids⟩else none
   |none=>none
 |_,_=>none:=by unfold iP;cases iB P t<;>cases y.bind (xW get)<;>rfl
theorem a8B{n c:Nat}{row:List AVal}:gD false n row c=row[c]? :=rfl
theorem a8A{n c:Nat}{row:List AVal}:gD true n row c=if c+n<=row.length then some (.agg ((row.drop c).take n))else none:=rfl
def aAU(k:Nat)(n:Option Nat)(B:Option Blk)(id r c:Nat)(cells:Option (List AVal)):Option Out:=
 match n,cells,B with
 |some n,some cells,some B=>if r=0/\c=0/\B.sz<n then(if cells.length=n/\cells.all one=true/\0<B.sz/\n=B.rows.length*B.sz then some ⟨.junk,k,[(id,some ⟨B.sz,cells.all clean,oP B.sz B.rows.length cells⟩)],[id]⟩else none)else match B.rows[r]? with
    |some row=>if cells.length=n/\cells.all one=true/\c+n<=row.length then some ⟨.junk,k,[(id,some ⟨B.sz,B.pure&&cells.all clean,B.rows.set r (kZ row cells c)⟩)],[id]⟩else none
    |none=>none
 |_,_,_=>none
theorem bDL{t id r c:Nat}{y:Option AVal}:HL P get k t (some (.ptr id r c)) y=aAU k (oK P t) (get id) id r c (y.bind uZ):=by
 unfold HL aAU;cases oK P t<;>cases y.bind uZ<;>try rfl
 cases hg:get id with
 |none=>simp only[hg]
 |some B=>simp only[hg];all_goals(cases B.rows[r]? <;>rfl)
theorem a7T{n id r c:Nat}{B:Blk}{cells:List AVal}:aAU k (some n) (some B) id r c (some cells)=if r=0/\c=0/\B.sz<n then(if cells.length=n/\cells.all one=true/\0<B.sz/\n=B.rows.length*B.sz then some ⟨.junk,k,[(id,some ⟨B.sz,cells.all clean,oP B.sz B.rows.length cells⟩)],[id]⟩else none)else match B.rows[r]? with
 |some row=>if cells.length=n/\cells.all one=true/\c+n<=row.length then some ⟨.junk,k,[(id,some ⟨B.sz,B.pure&&cells.all clean,B.rows.set r (kZ row cells c)⟩)],[id]⟩else none
 |none=>none:=rfl
end
section
variable{p:Nat->Bool}{cs:List AVal}{i r c:Nat}{v:Value}{f:Nat->List AVal}{g:FuncId}
theorem bEZ:bdF p []=true:=rfl
theorem bEY{t:Nat}{x:AVal}{fr:Fr}:bdF p ((t,x)::fr)=(bd p x&&bdF p fr):=rfl
theorem bEX:rG p []=true:=rfl
theorem bEW{B:Blk}{H:aS}:rG p ((i,B)::H)=((p i&&(B.pure||B.rows.all λ row=>row.all (iC p)))&&rG p H):=rfl
theorem b_2:bd p (.lit v)=true:=rfl
theorem b_3:bd p (.ptr i r c)=p i:=rfl
theorem b_4:bd p (.sl i r c)=p i:=rfl
theorem b_5:bd p (.rp cs)=true:=rfl
theorem b_6:bd p (.rd i r f)=true:=rfl
theorem b_7:bd p (.agg cs)=cs.all (iC p):=rfl
theorem b_8:bd p (.fn g cs)=cs.all (iC p):=rfl
theorem b_9:bd p (.tup cs)=cs.all (JX p):=rfl
theorem bFJ:JX p (.lit v)=true:=rfl
theorem bFI:JX p (.ptr i r c)=p i:=rfl
theorem bFH:JX p (.rd i r f)=true:=rfl
theorem bFG:JX p (.agg cs)=cs.all (iC p):=rfl
theorem bFF:iC p .junk=true:=rfl
theorem bFE:iC p (.lit v)=true:=rfl
theorem bFD:iC p (.ptr i r c)=p i:=rfl
theorem bFC:iC p (.sl i r c)=p i:=rfl
theorem bFB:iC p (.rp cs)=true:=rfl
theorem bFA:iC p (.rd i r f)=true:=rfl
end
attribute [go_sem] a8J a4T a4U a8W a8V a8U a7V a7U a7X a7W bDT a8C bDM a8G a8F a8E a8D List.tail_cons List.tail_nil a8Y a8X a8I bDY bDX bDW a8Z bDV a4W a4M a4N a4O aSE a4L a8M bEB bDU a4Q aYO aYW a9E aYV a9D a4P aYP aYT aYS a1Q a9A a8O a9G a8N a9F bDH a4X a7S aYU a4V bDS bDR bEE bED a8H a4K bDK bDJ bDI bDQ bDN a8L a8K a9C a9B bDO bDZ a8T bEC bEA a8Q a8P bEG bDG bEF bDP a9L a9K a9J a8S a4S a8R a4R a8B a8A bDL a7T uE pF aLN aCD JO aFG aAT unV dTt dFn decide_true decide_false cB oC bKF Option.bind_none Option.isSome_some mB.injEq cH eW iX bG aV List.drop_succ_cons List.drop_zero List.drop_nil List.take_succ_cons List.take_zero lZ List.length_nil hY List.all_nil qO a0W kQ kD qP a0V Bool.not_false true_and and_true and_self false_and and_false uX beq_self_eq_true dV jX uZ one clean Value.oneCell' mL rF aR cN dQ CM kZ List.set_cons_zero List.set_cons_succ AA pL a7Z a7Y List.contains_cons List.contains_nil Bool.or_false Bool.or_true yV FW aO if_true if_false bM true_implies false_implies implies_true forall_const imp_self not_true_eq_false not_false_eq_true AG aEq MD pD dN dR CK List.isEmpty_nil NX rY ZU a9I a9H xW NW bound Option.map oP List.flatten_cons List.flatten_nil List.replicate_succ List.replicate_zero yD IU PZ aWM yT leF OO bEZ bEY bEX bEW b_2 b_3 b_4 b_5 b_6 b_7 b_8 b_9 bFJ bFI bFH bFG bFF bFE bFD bFC bFB bFA List.isEmpty_cons kW dX inH iO
section
variable{P:Program}{Γ:List (Nat×List AVal)}{nt kb:Nat}{Q:AQ}{k:Nat}{fr:Fr}{H:aS}{c:Code}{p:List Nat}
theorem aI {v v':AVal}(h:v=v'):VLe v v':=h▸aK v
theorem a6G{k1:Nat}{fr1:Fr}{H1:aS}(hb:kb<=k1)(hf:leF fr fr1)(hH:OO H H1)(h:k1=k\/(bdF (kW k1) fr1=true/\rG (kW k1) H1=true)):WkG kb k fr H k1 fr1 H1:=
 ⟨hb,λ t v hv=>⟨v,LZ hf t v hv,aK v⟩,λ id B hB=>⟨B,EL hH id B hB,pE B⟩,h⟩
end
def sw(a b i:Nat):Nat:=if i=a then b else if i=b then a else i
theorem jZ(a b i:Nat):sw a b (sw a b i)=i:=by unfold sw;split<;>(try split)<;>(try split)<;>(try split)<;>omega
theorem aNG{a b i j:Nat}(h:sw a b i=sw a b j):i=j:=by rw[<-jZ a b i,h,jZ]
theorem WE{a b i:Nat}(h1:i≠a)(h2:i≠b):sw a b i=i:=by simp[sw,h1,h2]
def CO(a b:Nat):AVal->AVal
 | .ptr i r c=> .ptr (sw a b i) r c
 | .sl i r n=> .sl (sw a b i) r n
 | .slc i r n c=> .slc (sw a b i) r n c
 | .bfn f i r c=> .bfn f (sw a b i) r c
 | .mp i=> .mp (sw a b i)
 | .it i=> .it (sw a b i)
 | .agg _=> .junk
 | .tup _=> .junk
 | .fn f caps=>if caps.isEmpty then .fn f []else .junk
 |v=>v
def sw1(a b:Nat):AVal->AVal
 | .agg cs=> .agg (cs.map (CO a b))
 | .fn f cs=> .fn f (cs.map (CO a b))
 |v=>CO a b v
def sw2(a b:Nat):AVal->AVal
 | .tup cs=> .tup (cs.map (sw1 a b))
 |v=>sw1 a b v
def swF(a b:Nat)(fr:Fr):Fr:=fr.map λ x=>(x.1,sw2 a b x.2)
def swB(a b:Nat)(C:Blk):Blk:=if C.pure then C else⟨C.sz,false,C.rows.map λ row=>row.map (CO a b)⟩
def swH(a b:Nat)(H:aS):aS:=H.map λ x=>(sw a b x.1,swB a b x.2)
theorem AC(a b:Nat):∀(H:aS) (i:Nat),look (swH a b H) i=(look H (sw a b i)).map (swB a b)
 |[],i=>rfl
 |(j,B)::r,i=>by
  simp only[swH,bG,look];by_cases h:sw a b j=i
  .have h':j=sw a b i:=by rw[<-h,jZ]
   rw[if_pos h,if_pos h'];rfl
  have h':¬j=sw a b i:=λ e=>h (by rw[e,jZ]);rw[if_neg h,if_neg h'];exact AC a b r i
section
variable{w:World}{G:Nat->Prop}{ρ:cM}{A:bU}{a b:Nat}
theorem WI{v:AVal}{cv:Value}(h:V w G ρ A v cv):V w G (λ i=>ρ (sw a b i)) (λ i=>A (sw a b i)) (CO a b v) cv:=by
 cases h with
 |nn=>exact .nn
 |dangc h1 h2=>exact .dangc (by simpa [jZ]using h1) (by simpa [jZ]using h2)
 |slc h1 h2 h3 h4 h5 h6 h7=>exact .slc (by simpa [jZ]using h1) (by simpa [jZ]using h2) h3 h4 h5 h6 h7
 |bfn h=>cases h with
  |dang h1 h2=>exact .bfn (.dang (by simpa [jZ]using h1) (by simpa [jZ]using h2))
  |ptr h1 h2 h3=>exact .bfn (.ptr (by simpa [jZ]using h1) (by simpa [jZ]using h2) h3)
 |junk=>exact .junk
 |lit=>exact .lit
 |dang h1 h2=>exact .dang (by simpa [jZ]using h1) (by simpa [jZ]using h2)
 |dangs h1 h2=>exact .dangs (by simpa [jZ]using h1) (by simpa [jZ]using h2)
 |ptr h1 h2 h3=>exact .ptr (by simpa [jZ]using h1) (by simpa [jZ]using h2) h3
 |dangm h1 h2=>exact .dangm (by simpa [jZ]using h1) (by simpa [jZ]using h2)
 |mp h1 h2 h3=>exact .mp (by simpa [jZ]using h1) (by simpa [jZ]using h2) h3
 |dangi h1 h2=>exact .dangi (by simpa [jZ]using h1) (by simpa [jZ]using h2)
 |it h1 h2 h3=>exact .it (by simpa [jZ]using h1) (by simpa [jZ]using h2) h3
 |sl h1 h2 h3 h4 h5 h6 h7=>exact .sl (by simpa [jZ]using h1) (by simpa [jZ]using h2) h3 h4 h5 h6 h7
 |sl0 h1 h2=>exact .sl0 (by simpa [jZ]using h1) (by simpa [jZ]using h2)
 |rp g h1 h2 h3=>exact .rp g h1 h2 h3
 |rd0=>exact .rd0
 |rd g h1 h2 h3 h4 h5 h6=>exact .rd g h1 h2 h3 h4 h5 h6
 |agg h1 h2=>exact .junk
 |tup h1 h2=>exact .junk
 |fn h1 h2=>
  rename_i f caps cs;simp only[CO];split
  .rename_i he;have:caps=[]:=by simpa using he
   subst this;exact .fn h1 (λ j v hj=>by simp at hj)
  exact .junk
theorem a1B{v:AVal}{cv:Value}(h:V w G ρ A v cv):V w G (λ i=>ρ (sw a b i)) (λ i=>A (sw a b i)) (sw1 a b v) cv:=by
 cases v with
 |agg cells=>
  cases h with
  |agg h1 h2=>refine .agg (by simpa using h1) λ j u hj=>?_;rw[aQ,aB]at hj;obtain⟨u',hu',rfl⟩:=hj;exact WI (h2 j u' hu')
 |fn f cells=>
  cases h with
  |fn h1 h2=>refine .fn (by simpa using h1) λ j u hj=>?_;rw[aQ,aB]at hj;obtain⟨u',hu',rfl⟩:=hj;exact WI (h2 j u' hu')
 |_=>exact WI h
theorem a1A{v:AVal}{cv:Value}(h:V w G ρ A v cv):V w G (λ i=>ρ (sw a b i)) (λ i=>A (sw a b i)) (sw2 a b v) cv:=by
 cases v with
 |tup cells=>
  cases h with
  |tup h1 h2=>refine .tup (by simpa using h1) λ j u hj=>?_;rw[aQ,aB]at hj;obtain⟨u',hu',rfl⟩:=hj;exact a1B (h2 j u' hu')
 |_=>exact a1B h
end
section
variable{P:Program}{Γ:List (Nat×List AVal)}{nt kb:Nat}{Q:AQ}{k:Nat}{fr:Fr}{H:aS}{c:Code}{p:List Nat}
def Mv(kb k:Nat)(fr:Fr)(H:aS)(k1:Nat)(fr1:Fr)(H1:aS):Prop:=
 kb<=k->kb<=k1/\∀Γ nt A0 w G ρ a,(∀i,A0 i->i<kb)->Inv Γ nt w G ρ (jA A0 kb k) a fr H->∃G' ρ',Inv Γ nt w G' ρ' (jA A0 kb k1) a fr1 H1/\Step (kN kb) w G ρ w G' ρ'
theorem Mv.trans {k1 k2:Nat}{fr1 fr2:Fr}{H1 H2:aS}(h:Mv kb k fr H k1 fr1 H1)(g:Mv kb k1 fr1 H1 k2 fr2 H2):Mv kb k fr H k2 fr2 H2:=λ hk=>by obtain⟨h1,h2⟩:=h hk;obtain⟨g1,g2⟩:=g h1;refine⟨g1,λ Γ nt A0 w G ρ a hA hi=>?_⟩;obtain⟨G',ρ',hi',hs⟩:=h2 Γ nt A0 w G ρ a hA hi;obtain⟨G2,ρ2,hi2,hs2⟩:=g2 Γ nt A0 w G' ρ' a hA hi';exact⟨G2,ρ2,hi2,hs.trans hs2 (λ _ h=>h)⟩
theorem wI:Mv kb k fr H k fr H:=λ hk=>⟨hk,λ _ _ _ _ G ρ _ _ hi=>⟨G,ρ,hi,jT _ _ _ _⟩⟩
theorem kU {k1:Nat}{fr1:Fr}{H1:aS}(h:WkG kb k fr H k1 fr1 H1):Mv kb k fr H k1 fr1 H1:=λ _=>⟨h.base,λ Γ nt A0 w G ρ a hA hi=>by obtain⟨ρ',h1,h2⟩:=h.inv hi;exact⟨G,ρ',h1,h2 _⟩⟩
theorem dJ (id:Nat){B:Blk}(hB:look H id=some B)(hp:B.pure=true):Mv kb k fr H k (kX id B fr) (yK id B H):=λ hk=>⟨hk,λ Γ nt A0 w G ρ a hA hi=>by obtain⟨G',ρ',h1,h2⟩:=aCL hB hp hi;exact⟨G',ρ',h1,h2 _⟩⟩
theorem iT (a b:Nat)(ha:kb<=a/\a<k)(hb:kb<=b/\b<k):Mv kb k fr H k (swF a b fr) (swH a b H):=λ hk=>⟨hk,λ Γ nt A0 w G ρ ac hA hi=>by
 have hal:∀i,jA A0 kb k (sw a b i)->jA A0 kb k i:=λ i h=>by
  by_cases h1:i=a;.subst h1;exact .inr ha
  by_cases h2:i=b;.subst h2;exact .inr hb
  rw[WE h1 h2]at h;exact h
 have hV:∀v u cv,V w G (λ i=>ρ (sw a b i)) (λ i=>jA A0 kb k (sw a b i)) v cv->u=v->V w G (λ i=>ρ (sw a b i)) (jA A0 kb k) u cv:=λ v u cv h e=>by subst e;exact h.mono (λ _ h=>h) (λ _ _=>rfl) (λ _ _=>rfl) hal (λ _ _=> .inr rfl)
 refine⟨G,λ i=>ρ (sw a b i),⟨⟨λ id h=>?_,λ id B A h=>?_,λ i j x s t h1 h2=>?_,hi.rel.ro,hi.rel.glob⟩,hi.size,hi.defers,λ t v hv=>?_⟩,⟨aF _,λ _ _ _=>rfl,λ _ _=>rfl,λ _ h=>h,λ _ h=> .inl h,?_,λ id h=>?_,rfl,rfl,rfl⟩⟩;.simp only[bK,dG,AC]at h;exact hi.rel.dom _ (by simp[bK,h])
 .simp only[bK,aB,AC]at h;obtain⟨B',⟨C,hC,rfl⟩,he⟩:=h;cases he;obtain⟨h1,x,h2,h3,h4⟩:=hi.rel.blk (sw a b id) C _ (by simp only[bK,hC,cB];rfl);have hsz:(swB a b C).sz=C.sz:=by unfold swB;split<;>rfl
  refine⟨hal id h1,x,by rw[hsz];exact h2,h3,?_⟩;obtain⟨⟨Cs,ty,hCs,hrows⟩,hlen⟩:=h4;unfold swB;split
  .rename_i hp;refine⟨⟨Cs,ty,hCs,λ r row c v h5 h6=>?_⟩,hlen⟩;obtain⟨cv,h9,h10⟩:=hrows r row c v h5 h6;simp only[hp,if_true]at h10⊢
   exact⟨cv,h9,h10⟩
  rename_i hp;refine⟨⟨Cs,ty,hCs,λ r row c v h5 h6=>?_⟩,λ r row h5=>?_⟩;.rw[aQ,aB]at h5;obtain⟨row0,h7,rfl⟩:=h5;rw[aQ,aB]at h6;obtain⟨v0,h8,rfl⟩:=h6;obtain⟨cv,h9,h10⟩:=hrows r row0 c v0 h7 h8;simp only[hp]at h10;exact⟨cv,h9,by simp only[aO,if_false];exact hV _ _ _ (WI h10) rfl⟩
  rw[aQ,aB]at h5;obtain⟨row0,h7,rfl⟩:=h5;simpa using hlen r row0 h7
 .exact aNG (hi.rel.inj _ _ _ _ _ h1 h2)
 .unfold swF at hv;rw[kJ,aB]at hv;obtain⟨u,hu,rfl⟩:=hv;exact hV _ _ _ (a1A (hi.frm t u hu)) rfl
 .rintro x ⟨i,s,hx⟩;exact .inl ⟨_,s,hx⟩
 have h':id<kb:=h;exact .inr (by show ρ (sw a b id)=ρ id;rw[WE oO oO])⟩
theorem dI{k1:Nat}{fr1:Fr}{H1:aS}(hm:Mv kb k fr H k1 fr1 H1)(h:W P Γ nt kb c Q k1 fr1 H1):W P Γ nt kb c Q k fr H:=λ A0 hA0 hk w G ρ a hi=>by obtain⟨h1,h2⟩:=hm hk;obtain⟨G',ρ',hi',hs⟩:=h2 Γ nt A0 w G ρ a hA0 hi;exact wp_mono (h A0 hA0 h1 w G' ρ' a hi') λ _ _ _ hp=>Post.trans hs hp
def upM(kb:Nat)(Q:AQ):AQ:=λ e k fr H=>∃k1 fr1 H1,Mv kb k fr H k1 fr1 H1/\Q e k1 fr1 H1
theorem pS(h:W P Γ nt kb c (upM kb Q) k fr H):W P Γ nt kb c Q k fr H:=λ A0 hA0 hk w G ρ a hi=>
 wp_mono (h A0 hA0 hk w G ρ a hi) λ e a' w' hp=>by obtain⟨G',ρ',k',fr',H',⟨k1,fr1,H1,hm,hQ⟩,hk',hi',hst⟩:=hp;obtain⟨h1,h2⟩:=hm hk';obtain⟨G1,ρ1,hi1,hs1⟩:=h2 Γ nt A0 w' G' ρ' a' hA0 hi';exact⟨G1,ρ1,k1,fr1,H1,hQ,h1,hi1,hst.trans hs1 (λ _ h=>h)⟩
theorem aHR{X:Type}{x:Code}(hc:fR c p= .loop x)(kx:Nat)(frx:X->Fr)(Hx:X->aS)(inv:X->Prop)(μ:X->Nat)(x0:X)(hs:Mv kb k fr H kx (frx x0) (Hx x0))(h0:inv x0)
 (round:∀x,inv x->W P Γ nt kb (fR c (0::p)) (pL (λ k' fr' H'=>∃y,inv y/\μ y<μ x/\Mv kb k' fr' H' kx (frx y) (Hx y)) Q) kx (frx x) (Hx x)):W P Γ nt kb (fR c p) Q k fr H:=by
 refine dI hs ?_;refine aVB hc (λ m k' fr' H'=>∃y,inv y/\μ y<=m/\k'=kx/\fr'=frx y/\H'=Hx y) (μ x0) ⟨x0,h0,aF _,rfl,rfl,rfl⟩ ?_;rintro m k' fr' H' ⟨y,hy,hm,rfl,rfl,rfl⟩;refine pS (kT (round y hy) ?_);intro e k1 fr1 H1 hq
 cases e with
 |normal=>obtain⟨z,hz,hlt,hw⟩:=hq;exact⟨_,_,_,hw,μ z,oO,z,hz,aF _,rfl,rfl,rfl⟩
 |exit id=>exact⟨k1,fr1,H1,wI,hq⟩
 |goto l=>exact⟨k1,fr1,H1,wI,hq⟩
 |ret=>exact⟨k1,fr1,H1,wI,hq⟩
 |panic ch=>exact⟨k1,fr1,H1,wI,hq⟩
 |outgrown=>exact⟨k1,fr1,H1,wI,hq⟩
theorem SF{X:Type}{x y:Code}(hc:fR c p= .seq x y)(kx:Nat)(frx:X->Fr)(Hx:X->aS)(inv:X->Prop)
 (h1:W P Γ nt kb (fR c (0::p)) (pL (λ k' fr' H'=>∃z,inv z/\Mv kb k' fr' H' kx (frx z) (Hx z)) Q) k fr H) (h2:∀z,inv z->W P Γ nt kb (fR c (1::p)) Q kx (frx z) (Hx z)):W P Γ nt kb (fR c p) Q k fr H:=by
 refine bY hc (pS (kT h1 ?_));intro e k1 fr1 H1 hq
 cases e with
 |normal=>obtain⟨z,hz,hw⟩:=hq;exact⟨_,_,_,hw,h2 z hz⟩
 |exit id=>exact⟨k1,fr1,H1,wI,hq⟩
 |goto l=>exact⟨k1,fr1,H1,wI,hq⟩
 |ret=>exact⟨k1,fr1,H1,wI,hq⟩
 |panic ch=>exact⟨k1,fr1,H1,wI,hq⟩
 |outgrown=>exact⟨k1,fr1,H1,wI,hq⟩
theorem aHQ(hc:fR c p= .ret){k1:Nat}{fr1:Fr}{H1:aS}(hm:Mv kb k fr H k1 fr1 H1)(h:Q .ret k1 fr1 H1):W P Γ nt kb (fR c p) Q k fr H:=dI hm (aX hc h)
end
def bV(id:Nat)(l:List (List AVal)):AVal:=match l with
 |[]=> .lit (.slice none 0 0)
 |_::_=> .sl id 0 l.length
def cA(id sz:Nat)(l:List (List AVal))(H:aS):aS:=match l with
 |[]=>H
 |_::_=>(id,⟨sz,true,l⟩)::H
theorem aUJ{id:Nat}:bV id []= .lit (.slice none 0 0):=rfl
theorem BW{id:Nat}{x:List AVal}{l:List (List AVal)}:bV id (x::l)= .sl id 0 (l.length+1):=rfl
theorem aUM{id sz:Nat}{H:aS}:cA id sz [] H=H:=rfl
theorem BX{id sz:Nat}{x:List AVal}{l:List (List AVal)}{H:aS}:cA id sz (x::l) H=(id,⟨sz,true,x::l⟩)::H:=rfl
inductive Tied2 (X Y:Prop):Type|mk
inductive TiedF (f:Out->Prop):Type|mk
inductive TiedC (f:Orc->List Orc->Prop):Type|mk
inductive TiedR (all:Array Oper) (l:List Oper) (K:List Foot->Nat->Fr->aS->Prop):Type|mk
inductive TiedP (f:Out->List Orc->Prop) (X:Prop):Type|mk
def GX(g:Option Bool)(X Y:Prop)(_:Tied2 X Y):Prop:=RD g X Y
def TD(g:Option Out)(f:Out->Prop)(_:TiedF f):Prop:=XF g f
def aTI(cs:List Orc)(f:Orc->List Orc->Prop)(_:TiedC f):Prop:=aTJ cs f
def aBI(g:Option (Out×List Orc))(f:Out->List Orc->Prop)(X:Prop)(_:TiedP f X):Prop:=aPA g f X
def DN(P:Program)(Γ:List (Nat×List AVal))(all:Array Oper)(l:List Oper)(cs:List Orc)(k:Nat)(fr:Fr)(H:aS)(K:List Foot->Nat->Fr->aS->Prop)(_:TiedR all l K):Prop:=RunF P Γ all l cs k fr H K
section
variable{P:Program}{Γ:List (Nat×List AVal)}{all:Array Oper}{r:List Oper}{cs:List Orc}{k:Nat}{fr:Fr}{H:aS}{K:List Foot->Nat->Fr->aS->Prop}{o:Oper}
theorem bBH{t:TiedR all [] K}:DN P Γ all [] cs k fr H K t=K [] k fr H:=rfl
theorem bBI{t:TiedR all (o::r) K}:DN P Γ all (o::r) cs k fr H K t=GX (mJ all fr o) (DN P Γ all r (aOA o cs) k (gK fr o.dst (.lit undef)) H (λ tr=>K (⟨[],[],k,k⟩::tr)) .mk)
 (aBI (ED o.dst cs) (λ out cs'=>Good P Γ o (kB Γ fr) (AM.look H) k out/\DN P Γ all r cs' out.k (gK fr o.dst out.v) (IT H out.upd) (λ tr=>K (⟨out.rds,out.upd.map (·.1),k,out.k⟩::tr)) .mk)
 (if uE o=true then aTI cs (λ c cs'=>CallReq P Γ o (kB Γ fr) (AM.look H) k c/\DN P Γ all r cs' (c.out k).k (gK fr o.dst (c.out k).v) (c.heap k H) (λ tr=>K (⟨(c.out k).rds,(c.out k).upd.map (·.1),k,(c.out k).k⟩::tr)) .mk) .mk
 else TD (BV P Γ o (kB Γ fr) (AM.look H) k) (λ out=>DN P Γ all r cs out.k (gK fr o.dst out.v) (TS (TM o) H out.upd) (λ tr=>K (⟨out.rds,out.upd.map (·.1),k,out.k⟩::tr)) .mk) .mk) .mk) .mk:=rfl
theorem bBK{f:Out->List Orc->Prop}{X:Prop}{t:TiedP f X}:aBI none f X t=X:=rfl
theorem bBJ{x:Out×List Orc}{f:Out->List Orc->Prop}{X:Prop}{t:TiedP f X}:aBI (some x) f X t=f x.1 x.2:=rfl
theorem bBN{out:Out}{f:Out->Prop}{t:TiedF f}:TD (some out) f t=f out:=rfl
theorem bBL{f:Out->Prop}{t:TiedF f}:TD none f t=False:=rfl
theorem bBM{c:Prop} [Decidable c]{out:Out}{f:Out->Prop}{t:TiedF f}:TD (if c then some out else none) f t=(c/\f out):=a8I
theorem bBO{X Y:Prop}{t:Tied2 X Y}:GX (some true) X Y t=Y:=by simp[GX,RD]
theorem bBP{X Y:Prop}{t:Tied2 X Y}:GX (some false) X Y t=X:=by simp[GX,RD]
theorem iI{b:Bool}{X Y:Prop}{t:Tied2 X Y}(ht:b=true->Y)(hf:b=false->X):GX (some b) X Y t:=aXY ht hf
theorem bBQ{c:Orc}{f:Orc->List Orc->Prop}{t:TiedC f}:aTI (c::cs) f t=f c cs:=rfl
end
section
variable{P:Program}{Γ:List (Nat×List AVal)}{nt kb:Nat}{Q:AQ}{k:Nat}{fr:Fr}{H:aS}{c:Code}{p:List Nat}
theorem iF{id:Nat}{l:List Oper}(hc:fR c p= .region id l.toArray false)(keep:List Nat)(cs:List Orc)(hd:mM nt l.toArray=true)
 (h:∀K:List Foot->Nat->Fr->aS->Prop,(∀tr k' fr' H',(kb<=k'->Q .normal k' (kA keep fr') H')->K tr k' fr' H')->DN P Γ l.toArray l cs k fr H K .mk):W P Γ nt kb (fR c p) Q k fr H:=a2B hc keep cs hd h
theorem bAK{id:Nat}{l:List Oper}(hc:fR c p= .region id l.toArray true)(keep:List Nat)(cs:List Orc)(hm:P.follows .mixedOrders=true)(hd:mM nt l.toArray=true)
 (h:∀K:List Foot->Nat->Fr->aS->Prop,(∀tr k' fr' H',kS l.toArray tr=true->(kb<=k'->Q .normal k' (kA keep fr') H')->K tr k' fr' H')->DN P Γ l.toArray l cs k fr H K .mk):W P Γ nt kb (fR c p) Q k fr H:=a2C hc keep cs hm hd h
end
attribute [go_sem] bBH bBK bBJ bBI bBN bBL bBM bBO bBP bBQ aUJ BW aUM BX
section
variable{id j s:Nat}{l:List (List AVal)}{x:List AVal}{H H0:aS}{B:Blk}
theorem aLY:bV id (l++[x])= .sl id 0 (l.length+1):=by cases l<;>simp[bV]
theorem aMA:cA id s (l++[x]) H=(id,⟨s,true,l++[x]⟩)::H:=by cases l<;>simp[cA]
theorem XR(h:id≠j):AM.look (cA id s l H) j=AM.look H j:=by cases l<;>simp[cA,AM.look,h]
theorem aZD(h:id≠j):del (cA id s l H) j=cA id s l (del H j):=by cases l<;>simp[cA,del,h]
def iU(H:aS)(id s:Nat)(l:List (List AVal)):Prop:=l≠[]->AM.look H id=some ⟨s,true,l⟩
theorem aEM:iU (cA id s l H) id s l=True:=by
 simp only[iU,eq_iff_iff,iff_true]
 intro h;cases l with
 |nil=>exact absurd rfl h
 |cons a r=>simp[cA,AM.look]
theorem aEN(h:j≠id):iU ((j,B)::H) id s l=iU H id s l:=by simp[iU,AM.look,h]
theorem aLZ{j t:Nat}{m:List (List AVal)}(h:j≠id):iU (cA j t m H) id s l=iU H id s l:=by simp[iU,XR h]
theorem aUL:iU ((id,⟨s,true,l⟩)::H) id s l=True:=by simp[iU,AM.look]
theorem aXM:OO H0 (cA id s l H)=(iU H0 id s l/\OO H0 H):=by
 cases l with
 |nil=>simp[iU,cA]
 |cons a r=>simp[iU,cA,OO]
theorem aZX{p:Nat->Bool}(h:p id=true):rG p (cA id s l H)=rG p H:=by cases l<;>simp[cA,rG,h]
theorem a5F{p:Nat->Bool}(h:p id=true):bd p (bV id l)=true:=by cases l<;>simp[bV,bd,JX,iC,h]
theorem aZY{p:Nat->Bool}(h:p id=true):iC p (bV id l)=true:=by cases l<;>simp[bV,iC,h]
theorem aWB{a b:Nat}:CO a b (bV id l)=bV (sw a b id) l:=by cases l<;>simp[bV,CO]
theorem aVX{a b:Nat}:swH a b (cA id s l H)=cA (sw a b id) s l (swH a b H):=by cases l<;>simp[cA,swH,swB]
theorem c_1{a b:Nat}{v:Value}:sw2 a b (.lit v)= .lit v:=rfl
theorem c_2{a b i r c:Nat}:sw2 a b (.ptr i r c)= .ptr (sw a b i) r c:=rfl
theorem c_3{a b i r c:Nat}:sw2 a b (.sl i r c)= .sl (sw a b i) r c:=rfl
theorem c_4{a b:Nat}{cs:List AVal}:sw2 a b (.agg cs)= .agg (cs.map (CO a b)):=rfl
theorem c_5{a b:Nat}{cs:List AVal}:sw2 a b (.rp cs)= .rp cs:=rfl
theorem c_6{a b i n:Nat}{f:Nat->List AVal}:sw2 a b (.rd i n f)= .rd i n f:=rfl
theorem c_7{a b:Nat}{g:FuncId}{cs:List AVal}:sw2 a b (.fn g cs)= .fn g (cs.map (CO a b)):=rfl
theorem bEQ{a b:Nat}{v:Value}:CO a b (.lit v)= .lit v:=rfl
theorem bEP{a b i r c:Nat}:CO a b (.ptr i r c)= .ptr (sw a b i) r c:=rfl
theorem bEO{a b i r c:Nat}:CO a b (.sl i r c)= .sl (sw a b i) r c:=rfl
theorem bEN{a b:Nat}{cs:List AVal}:CO a b (.rp cs)= .rp cs:=rfl
theorem bEM{a b i n:Nat}{f:Nat->List AVal}:CO a b (.rd i n f)= .rd i n f:=rfl
theorem aNH{a b:Nat}:swH a b ((id,B)::H)=(sw a b id,swB a b B)::swH a b H:=rfl
theorem aVV{a b:Nat}:swH a b []=[]:=rfl
theorem aNJ{a b sz:Nat}{rows:List (List AVal)}:swB a b ⟨sz,true,rows⟩=⟨sz,true,rows⟩:=rfl
theorem aWA{a b sz:Nat}{rows:List (List AVal)}:swB a b ⟨sz,false,rows⟩=⟨sz,false,rows.map λ row=>row.map (CO a b)⟩:=rfl
theorem aNI{a b t:Nat}{v:AVal}{fr:Fr}:swF a b ((t,v)::fr)=(t,sw2 a b v)::swF a b fr:=rfl
theorem aVY{a b:Nat}:swF a b []=[]:=rfl
end
section
variable{P:Program}{Γ:List (Nat×List AVal)}{nt kb:Nat}{Q:AQ}{k:Nat}{fr:Fr}{H:aS}{c:Code}{p:List Nat}
theorem Mv.app (a b:Nat){k1:Nat}{fr1:Fr}{H1:aS}(ha:kb<=a/\a<k)(hb:kb<=b/\b<k)(h:WkG kb k (swF a b fr) (swH a b H) k1 fr1 H1):Mv kb k fr H k1 fr1 H1:=(iT a b ha hb).trans (kU h)
theorem a5S{x y:Code}(hc:fR c p= .seq x y)(kx:Nat)(frx:Fr)(Hx:aS)
 (h1:W P Γ nt kb (fR c (0::p)) (pL (λ k' fr' H'=>Mv kb k' fr' H' kx frx Hx) Q) k fr H) (h2:W P Γ nt kb (fR c (1::p)) Q kx frx Hx):W P Γ nt kb (fR c p) Q k fr H:=
 SF (X:=Unit) hc kx (λ _=>frx) (λ _=>Hx) (λ _=>True) (kT h1 λ e k1 fr1 H1 h=>by
  cases e with
  |normal=>exact⟨(),trivial,h⟩
  |_=>exact h) (λ _ _=>h2)
theorem vY{k1:Nat}{fr1:Fr}{H1:aS}(hb:kb<=k1)(hf:leF fr fr1)(hH:OO H H1)(h:bdF (kW k1) fr1=true)(h':rG (kW k1) H1=true):WkG kb k fr H k1 fr1 H1:=a6G hb hf hH (.inr ⟨h,h'⟩)
end
attribute [go_sem] aLY aMA XR aZD aEM aUL aEN aLZ aXM aWB aVX aNH aVV aNJ aWA aNI aVY sw c_1 c_2 c_3 c_4 c_5 c_6 c_7 bEQ bEP bEO bEN bEM aZX a5F aZY
theorem wL{kb k:Nat}{fr:Fr}{H:aS}{k1:Nat}{fr1:Fr}{H1:aS}(hb:kb<=k1:=by omega)(hf:leF fr fr1:=by simp-dsimp-implicitDefEqProofs only[go_sem,aH,Flt.row,eq_self,↓reduceIte])(hH:OO H H1:=by simp-dsimp-implicitDefEqProofs only[go_sem,aH,Flt.row,eq_self,↓reduceIte])(h:bdF (kW k1) fr1=true:=by simp-dsimp-implicitDefEqProofs only[go_sem,aH,Flt.row,eq_self,↓reduceIte])(h':rG (kW k1) H1=true:=by simp-dsimp-implicitDefEqProofs only[go_sem,aH,Flt.row,eq_self,↓reduceIte]):WkG kb k fr H k1 fr1 H1:=vY hb hf hH h h'
theorem wV{T:Prop}(u:T){kb k:Nat}{fr:Fr}{H:aS}{k1:Nat}{fr1:Fr}{H1:aS}(hb:kb<=k1:=by omega)(hf:T->leF fr fr1:=by intro uU;simp-dsimp-implicitDefEqProofs only[go_sem,uU,aH,Flt.row,eq_self,↓reduceIte])(hH:T->OO H H1:=by intro uU;simp-dsimp-implicitDefEqProofs only[go_sem,uU,aH,Flt.row,eq_self,↓reduceIte])(h:T->bdF (kW k1) fr1=true:=by intro uU;simp-dsimp-implicitDefEqProofs only[go_sem,uU,aH,Flt.row,eq_self,↓reduceIte])(h':T->rG (kW k1) H1=true:=by intro uU;simp-dsimp-implicitDefEqProofs only[go_sem,uU,aH,Flt.row,eq_self,↓reduceIte]):WkG kb k fr H k1 fr1 H1:=vY hb (hf u) (hH u) (h u) (h' u)
theorem lM(a b:Nat){kb k:Nat}{fr:Fr}{H:aS}{k1:Nat}{fr1:Fr}{H1:aS}(h:WkG kb k (swF a b fr) (swH a b H) k1 fr1 H1)(ha:kb<=a/\a<k:=by omega)(hb:kb<=b/\b<k:=by omega):Mv kb k fr H k1 fr1 H1:=Mv.app a b ha hb h
theorem sL{p:Prop}(h:p:=by simp-dsimp-implicitDefEqProofs only[go_sem,aH,Flt.row,eq_self,↓reduceIte]):p:=h
theorem s0{p:Prop}(h:p:=by simp-dsimp-implicitDefEqProofs only[go_sem,eq_self,↓reduceIte]):p:=h
theorem sV{T p:Prop}(u:T)(h:T->p:=by intro uU;simp-dsimp-implicitDefEqProofs only[go_sem,uU,aH,Flt.row,eq_self,↓reduceIte]):p:=h u
theorem wW{T:Prop}(u:T){kb k:Nat}{fr:Fr}{H:aS}{k1:Nat}{fr1:Fr}{H1:aS}(hb:kb<=k1:=by omega)(hf:T->leF fr fr1:=by intro uU;simp-dsimp-implicitDefEqProofs (disch:=omega)only[go_sem,iN,uU,nq5,ltB_iff,aH,Flt.row,eq_self,↓reduceIte])(hH:T->OO H H1:=by intro uU;simp-dsimp-implicitDefEqProofs (disch:=omega)only[go_sem,iN,uU,nq5,ltB_iff,aH,Flt.row,eq_self,↓reduceIte])(h:T->bdF (kW k1) fr1=true:=by intro uU;simp-dsimp-implicitDefEqProofs (disch:=omega)only[go_sem,iN,uU,nq5,ltB_iff,aH,Flt.row,eq_self,↓reduceIte])(h':T->rG (kW k1) H1=true:=by intro uU;simp-dsimp-implicitDefEqProofs (disch:=omega)only[go_sem,iN,uU,nq5,ltB_iff,aH,Flt.row,eq_self,↓reduceIte]):WkG kb k fr H k1 fr1 H1:=vY hb (hf u) (hH u) (h u) (h' u)
theorem sW{T p:Prop}(u:T)(h:T->p:=by intro uU;simp-dsimp-implicitDefEqProofs (disch:=omega)only[go_sem,iN,uU,nq5,ltB_iff,aH,Flt.row,eq_self,↓reduceIte]):p:=h u
theorem sT{A B:Prop}(b:B)(h:B->A:=by intro b1;simp-dsimp-implicitDefEqProofs only[go_sem,eq_self,↓reduceIte];exact b1):A:=h b
instance:Coe Unit AVal:=⟨λ _=> .lit (.slice none 0 0)⟩
instance:Coe Int AVal:=⟨λ x=> .lit (.int .i64 x)⟩
instance:Coe Nat AVal:=⟨λ x=> .lit (.int .i64 (x:Int))⟩
instance:Coe Bool AVal:=⟨λ x=> .lit (.bool x)⟩
def rows(s:Nat)(l:List (List AVal)):AVal:= .rd s l.length (λ i=>l.getD i [])
section
variable{P:Program}{Γ:List (Nat×List AVal)}{nt kb:Nat}{Q:AQ}{k:Nat}{fr:Fr}{H:aS}{c:Code}{p:List Nat}
theorem VLe.nil (s:Nat)(f:Nat->List AVal):VLe (.lit (.slice none 0 0)) (.rd s 0 f):=λ w G ρ A cv hv=>by cases hv;exact .rd0
theorem HS {id s:Nat}{l:List (List AVal)}(t:Nat)(hf:look fr t=some (bV id l))(hH:iU H id s l):Mv kb k fr H k [(t,rows s l)] []:=by
 cases l with
 |nil=>
  refine λ hk=>kU ⟨hk,λ t' v hv=>?_,λ i B hB=>by simp[look]at hB,.inl rfl⟩ hk;simp only[look]at hv;split at hv;.rename_i he;subst he;cases hv;exact⟨_,hf,VLe.nil _ _⟩
  cases hv
 |cons x r=>
  have h1:=hH (by simp);refine Mv.trans (dJ id h1 rfl) (λ hk=>kU ⟨hk,λ t' v hv=>?_,λ i B hB=>by simp[look]at hB,.inl rfl⟩ hk);simp only[look]at hv;split at hv;.rename_i he;subst he;cases hv;refine⟨_,by unfold kX;rw[kJ,hf];rfl,?_⟩;simp only[bV,VW,jE,rows,dV,aF,and_self,if_true];exact aK _
  cases hv
theorem DO(hc:fR c p= .ret){id s:Nat}{l:List (List AVal)}(t:Nat)(hf:look fr t=some (bV id l))(hH:iU H id s l)(h:Q .ret k [(t,rows s l)] []):W P Γ nt kb (fR c p) Q k fr H:=
 aHQ hc (HS t hf hH) h
end
def sh(f:Foot):Bool×Bool:=(!f.rds.isEmpty,!f.mods.isEmpty)
def aDV(ops:Array Oper)(oj:Oper)(fj:Bool×Bool)(oi:Oper)(fi:Bool×Bool):Bool:=
 jO (EX oj) (pC ops oi)||jO (EX oj) (EX oi)||jO (EX oi) (pC ops oj)||(fj.2&&fi.1)||(fj.2&&fi.2)||(fj.1&&fi.2)
def aSH(ops:Array Oper)(tr:List (Bool×Bool)):Bool:=
 (aM ops.size).all λ i=>match ops[i]?,tr[i]? with
   |some oi,some fi=>(oi.after.toList.all λ e=> !Region.binds .any e||decide (e.on<i))&&
      (aM i).all λ j=>match ops[j]?,tr[j]? with
        |some oj,some fj=> !aDV ops oj fj oi fi||aEB ops ops.size j i
        |_,_=>false
   |_,_=>false
theorem LR{a b:List Nat}(h:jO a b=true):(!a.isEmpty)=true/\(!b.isEmpty)=true:=by
 cases a with
 |nil=>simp[jO]at h
 |cons x r=>cases b with
  |nil=>simp[jO]at h
  |cons y q=>simp
theorem aZL{ops:Array Oper}{oj oi:Oper}{fj fi:Foot}(h:aDV ops oj (sh fj) oi (sh fi)=false):nB ops oj fj oi fi=false:=by
 simp only[aDV,fQ,sh]at h;simp only[nB,fQ];obtain⟨⟨⟨⟨⟨h1,h2⟩,h3⟩,h4⟩,h5⟩,h6⟩:=h;refine⟨⟨⟨⟨⟨h1,h2⟩,h3⟩,?_⟩,?_⟩,?_⟩
 .cases hm:jO fj.mods fi.rds with
  |false=>rfl
  |true=>obtain⟨a,b⟩:=LR hm;rw[a,b]at h4;cases h4
 .cases hm:jO fj.mods fi.mods with
  |false=>rfl
  |true=>obtain⟨a,b⟩:=LR hm;rw[a,b]at h5;cases h5
 cases hm:jO fj.rds fi.mods with
 |false=>rfl
 |true=>obtain⟨a,b⟩:=LR hm;rw[a,b]at h6;cases h6
theorem BR{ops:Array Oper}{tr:List Foot}(h:aSH ops (tr.map sh)=true)(hm:(tr.all λ f=>f.mods.all λ x=>decide (x<f.k'))=true):kS ops tr=true:=by
 simp only[aSH,aW]at h;simp only[kS,aW];intro i hi;have h1:=h i hi;rw[aQ]at h1
 cases ho:ops[i]? with
 |none=>rw[ho]at h1;simp at h1
 |some oi=>
  cases ht:tr[i]? with
  |none=>rw[ho,ht]at h1;simp at h1
  |some fi=>
   rw[ho,ht]at h1;simp only[cB,aC,aW]at h1;simp only[aC,aW];refine⟨⟨h1.1,?_⟩,λ j hj=>?_⟩;.have:=aW.1 hm fi (jC ht);exact λ x hx=>aW.1 this x hx
   have h2:=h1.2 j hj;rw[aQ]at h2
   cases hoj:ops[j]? with
   |none=>rw[hoj]at h2;simp at h2
   |some oj=>
    cases htj:tr[j]? with
    |none=>rw[hoj,htj]at h2;simp at h2
    |some fj=>
     rw[hoj,htj]at h2;simp only[cB,bH,aT]at h2;simp only[bH,aT];rcases h2 with h2|h2;.exact .inl (aZL h2)
     exact .inr h2
section
variable{P:Program}{Γ:List (Nat×List AVal)}{nt kb:Nat}{Q:AQ}{k:Nat}{fr:Fr}{H:aS}{c:Code}{p:List Nat}
theorem BY (f:Nat)(hf:f<k):Mv kb k fr H (k+1) (swF f k fr) (swH f k H):=λ hk=>⟨oO,λ Γ nt A0 w G ρ ac hA hi=>by
 have hAk:¬jA A0 kb k k:=λ h=>by
  rcases h with h|h;.have:=hA _ h;omega
  omega
 have hal:∀i,jA A0 kb k (sw f k i)->jA A0 kb (k+1) i:=λ i h=>by
  by_cases h1:i=f;.subst h1;simp only[sw,if_true]at h;exact absurd h hAk
  by_cases h2:i=k;.subst h2;exact .inr ⟨hk,oO⟩
  rw[WE h1 h2]at h;rcases h with h|h;.exact .inl h
  exact .inr ⟨h.1,oO⟩
 have hρk:ρ k=none:=by
  cases hl:look H k with
  |none=>exact hi.rel.dom k (by simp[bK,hl])
  |some B=>exact absurd (hi.rel.blk k B (jA A0 kb k) (by simp only[bK,hl,cB])).1 hAk
 have hV:∀v u cv,V w G (λ i=>ρ (sw f k i)) (λ i=>jA A0 kb k (sw f k i)) v cv->u=v->V w G (λ i=>ρ (sw f k i)) (jA A0 kb (k+1)) u cv:=λ v u cv h e=>by subst e;exact h.mono (λ _ h=>h) (λ _ _=>rfl) (λ _ _=>rfl) hal (λ _ _=> .inr rfl)
 refine⟨G,λ i=>ρ (sw f k i),⟨⟨λ id h=>?_,λ id B A h=>?_,λ i j x s t h1 h2=>?_,hi.rel.ro,hi.rel.glob⟩,hi.size,hi.defers,λ t v hv=>?_⟩,⟨aF _,λ _ _ _=>rfl,λ _ _=>rfl,λ _ h=>h,λ _ h=> .inl h,?_,λ id h=>?_,rfl,rfl,rfl⟩⟩;.simp only[bK,dG,AC]at h;exact hi.rel.dom _ (by simp[bK,h])
 .simp only[bK,aB,AC]at h;obtain⟨B',⟨C,hC,rfl⟩,he⟩:=h;cases he;obtain⟨h1,x,h2,h3,h4⟩:=hi.rel.blk (sw f k id) C _ (by simp only[bK,hC,cB];rfl);have hsz:(swB f k C).sz=C.sz:=by unfold swB;split<;>rfl
  refine⟨hal id h1,x,by rw[hsz];exact h2,h3,?_⟩;obtain⟨⟨Cs,ty,hCs,hrows⟩,hlen⟩:=h4;unfold swB;split
  .rename_i hp;refine⟨⟨Cs,ty,hCs,λ r row c v h5 h6=>?_⟩,hlen⟩;obtain⟨cv,h9,h10⟩:=hrows r row c v h5 h6;simp only[hp,if_true]at h10⊢
   exact⟨cv,h9,h10⟩
  rename_i hp;refine⟨⟨Cs,ty,hCs,λ r row c v h5 h6=>?_⟩,λ r row h5=>?_⟩;.rw[aQ,aB]at h5;obtain⟨row0,h7,rfl⟩:=h5;rw[aQ,aB]at h6;obtain⟨v0,h8,rfl⟩:=h6;obtain⟨cv,h9,h10⟩:=hrows r row0 c v0 h7 h8;simp only[hp]at h10;exact⟨cv,h9,by simp only[aO,if_false];exact hV _ _ _ (WI h10) rfl⟩
  rw[aQ,aB]at h5;obtain⟨row0,h7,rfl⟩:=h5;simpa using hlen r row0 h7
 .exact aNG (hi.rel.inj _ _ _ _ _ h1 h2)
 .unfold swF at hv;rw[kJ,aB]at hv;obtain⟨u,hu,rfl⟩:=hv;exact hV _ _ _ (a1A (hi.frm t u hu)) rfl
 .rintro x ⟨i,s,hx⟩;exact .inl ⟨_,s,hx⟩
 have h':id<kb:=h;by_cases h1:id=f;.subst h1;exact .inl (by show ρ (sw id k id)=none;simp only[sw,if_true];exact hρk)
 exact .inr (by show ρ (sw f k id)=ρ id;rw[WE h1 oO])⟩
def rJ(P:Program)(Γ:List (Nat×List AVal))(nt kb:Nat)(c:Code)(Q:AQ):Nat->Nat->Fr->aS->Prop
 |0,_,_,_=>False
 |n+1,k,fr,H=>W P Γ nt kb c (pL (rJ P Γ nt kb c Q n) Q) k fr H
theorem FV{x:Code}(hc:fR c p= .loop x)(n:Nat)(h:rJ P Γ nt kb (fR c (0::p)) Q n k fr H):W P Γ nt kb (fR c p) Q k fr H:=by
 refine aVB hc (λ m k fr H=>rJ P Γ nt kb (fR c (0::p)) Q m k fr H) n h ?_;intro m k fr H h
 cases m with
 |zero=>exact h.elim
 |succ m=>
  refine kT h λ e k1 fr1 H1 hq=>?_
  cases e with
  |normal=>exact⟨m,oO,hq⟩
  |_=>exact hq
theorem FK{x:Code}(n:Nat)(h:rJ P Γ nt kb x Q n k fr H):W P Γ nt kb (.loop x) Q k fr H:=by
 refine aUQ (λ m k fr H=>rJ P Γ nt kb x Q m k fr H) n h ?_;intro m k fr H h
 cases m with
 |zero=>exact h.elim
 |succ m=>
  refine kT h λ e k1 fr1 H1 hq=>?_
  cases e with
  |normal=>exact⟨m,oO,hq⟩
  |_=>exact hq
theorem rounds_succ{n:Nat}{c:Code}(h:W P Γ nt kb c (pL (rJ P Γ nt kb c Q n) Q) k fr H):rJ P Γ nt kb c Q (n+1) k fr H:=h
def XC(keep:List Nat)(u:Fr):Fr->Fr
 |[]=>u
 |(t,v)::r=>if keep.contains t=true/\(look u t).isSome=false then(t,v)::XC keep u r else XC keep u r
theorem aWT{keep:List Nat}{u:Fr}:XC keep u []=u:=rfl
theorem aPD{keep:List Nat}{u:Fr}{t:Nat}{v:AVal}{r:Fr}:XC keep u ((t,v)::r)=if keep.contains t=true/\(look u t).isSome=false then(t,v)::XC keep u r else XC keep u r:=rfl
end
theorem bE{P:Program}{Γ:List (Nat×List AVal)}{nt kb:Nat}{Q:AQ}{k:Nat}{fr:Fr}{H:aS}{c:Code}{p:List Nat}{X:Type}{x:Code}(hc:fR c p= .loop x)(keep:List Nat)(kx:Nat)(u:X->Fr)(Hx:X->aS)(inv:X->Prop)(μ:X->Nat)(x0:X)
 (hs:Mv kb k fr H kx (XC keep (u x0) fr) (Hx x0)) (h0:inv x0)
 (round:∀x,inv x->W P Γ nt kb (fR c (0::p)) (pL (λ k' fr' H'=>∃y,inv y/\μ y<μ x/\Mv kb k' fr' H' kx (XC keep (u y) fr) (Hx y)) Q) kx (XC keep (u x) fr) (Hx x)):W P Γ nt kb (fR c p) Q k fr H:=aHR hc kx (λ x=>XC keep (u x) fr) Hx inv μ x0 hs h0 round
theorem yU{P:Program}{Γ:List (Nat×List AVal)}{nt kb:Nat}{Q:AQ}{k:Nat}{fr:Fr}{H:aS}{c:Code}{p:List Nat}{X:Type}{x y:Code}(hc:fR c p= .seq x y)(keep:List Nat)(kx:Nat)(u:X->Fr)(Hx:X->aS)(inv:X->Prop)
 (h1:W P Γ nt kb (fR c (0::p)) (pL (λ k' fr' H'=>∃z,inv z/\Mv kb k' fr' H' kx (XC keep (u z) fr) (Hx z)) Q) k fr H) (h2:∀z,inv z->W P Γ nt kb (fR c (1::p)) Q kx (XC keep (u z) fr) (Hx z)):W P Γ nt kb (fR c p) Q k fr H:=SF hc kx (λ z=>XC keep (u z) fr) Hx inv h1 h2
theorem c_0:((0:Nat):Int)=0:=rfl
theorem c_S{n:Nat}:((n+1:Nat):Int)=(n:Int)+1:=rfl
attribute [go_sem] c_0 c_S
theorem wrap_u32{n:Int}(h1:0<=n)(h2:n<4294967296):jF.wrap n=n:=by rw[IntKind.wrap_u32];omega
theorem fF{n:Int}(h1:0<=n)(h2:n<18446744073709551616):bN.wrap n=n:=by simp[IntKind.wrap,IntKind.bits,IntKind.signed];omega
theorem jV{n:Int}(h1:0<=n)(h2:n<256):IntKind.u8.wrap n=n:=by simp[IntKind.wrap,IntKind.bits,IntKind.signed];omega
theorem OD {kb k:Nat}{fr:Fr}{H:aS}{id s m:Nat}{f:Nat->List AVal}(t:Nat)(hf:look fr t=some (.sl id 0 m))(hH:look H id=some ⟨s,true,(aM m).map f⟩):Mv kb k fr H k [(t,.rd s m f)] []:=by
 refine Mv.trans (dJ id hH rfl) (λ hk=>kU ⟨hk,λ t' v hv=>?_,λ i B hB=>by simp[look]at hB,.inl rfl⟩ hk);simp only[look]at hv;split at hv;.rename_i he;subst he;cases hv;refine⟨_,by unfold kX;rw[kJ,hf];rfl,?_⟩;simp only[VW,jE,dV,bP,List.length_range,aF,and_self,if_true];exact VLe.rd λ i hi=>by simp[bD,hi]
 cases hv
def wH(id:Nat)(l:List (List AVal)):List (Nat×Option Blk):=match l with
 |[]=>[]
 |_::_=>[(id,none)]
def pJ(id:Nat)(l:List (List AVal)):List Nat:=match l with
 |[]=>[]
 |_::_=>[id]
def aLS(k:Nat)(l rows:List (List AVal))(m:Nat):AVal:=if rows.length=m/\0<m then bV k (l++rows)else .sl k 0 (l.length+m)
theorem a4Y{k:Nat}{l:List (List AVal)}{x:List AVal}:aLS k l [x] 1=bV k (l++[x]):=by simp[aLS]
theorem a0D(k:Nat)(l rows:List (List AVal))(m:Nat):aLS k l rows m= .sl k 0 (l.length+m):=by
 unfold aLS;split
 .rename_i h
  cases rows with
  |nil=>simp at h;omega
  |cons a r=>
   cases l with
   |nil=>simp[bV,<-h.1]
   |cons b q=>simp[bV,<-h.1,fS,bFX 1]
 rfl
def appR(s by' k id:Nat)(l:List (List AVal))(src:Option (Nat×Nat×List (List AVal)×Bool×List Nat)):Option Out:=
 match src with
 |some (s',m,rows,p,ids)=>if m=0 then some ⟨bV id l,k,[],pJ id l++ids⟩else if s'=s/\0<m/\l.length+m<=9223372036854775807/\(l.length+m)*by'<=140737488355328/\(rows.all λ row=>row.all one)=true then
    some ⟨aLS k l rows m,k+1,(k,some ⟨s,p,l++rows⟩)::wH id l,pJ id l++ids⟩else none
 |none=>none
theorem aSF{s by' k id:Nat}{l:List (List AVal)}{s' m:Nat}{rows:List (List AVal)}{p:Bool}{ids:List Nat}:appR s by' k id l (some (s',m,rows,p,ids))=
 if m=0 then some ⟨bV id l,k,[],pJ id l++ids⟩else if s'=s/\0<m/\l.length+m<=9223372036854775807/\(l.length+m)*by'<=140737488355328/\(rows.all λ row=>row.all one)=true then
  some ⟨aLS k l rows m,k+1,(k,some ⟨s,p,l++rows⟩)::wH id l,pJ id l++ids⟩else none:=rfl
theorem rM{P:Program}{t s by':Nat}{z:List AVal}{H0:aS}{k id:Nat}{l:List (List AVal)}{y:Option AVal}(hz:iB P t=some (s,by',z))(hin:iU H0 id s l)(hid:id<k):
 iP P (AM.look H0) k t (some (bV id l)) y=appR s by' k id l (y.bind (xW (AM.look H0))):=by
 cases hy:y.bind (xW (AM.look H0))with
 |none=>cases l<;>simp[bV,iP,hz,hy,appR]
 |some x=>
  obtain⟨s',m,rows,p,ids⟩:=x;rw[aSF,a0D]
  cases l with
  |nil=>simp[bV,iP,hz,hy,wH,pJ]
  |cons b q=>have hl:=hin (by simp);simp[bV,iP,hz,hy,hl,wH,pJ,hid]
theorem aMW{id s:Nat}{l:List (List AVal)}{H:aS}(h:del H id=H):lD (cA id s l H) (wH id l)=H:=by
 cases l with
 |nil=>rfl
 |cons a r=>simp[cA,wH,lD,del,h]
theorem aIC{id:Nat}{l:List (List AVal)}{H:aS}{j:Nat}{B:Blk}(hj:j≠id):lD ((j,B)::H) (wH id l)=(j,B)::lD H (wH id l):=by
 cases l with
 |nil=>rfl
 |cons a r=>simp[wH,lD,del,hj]
theorem aXW{id s:Nat}{l:List (List AVal)}{H H0:aS}:inH (AM.look H0) (cA id s l H)=(iU H0 id s l/\inH (AM.look H0) H):=by
 cases l with
 |nil=>simp[iU,cA]
 |cons a r=>simp[iU,cA,inH]
theorem aXJ{P:Program}{H0:aS}{k t id:Nat}{l:List (List AVal)}{s:Nat}(hs:fN P t=true)(hin:iU H0 id s l):AF P (AM.look H0) k t (some (bV id l))=some ⟨.lit (.int .i64 (l.length:Int)),k,[],pJ id l⟩:=by
 cases l with
 |nil=>simp[bV,AF,hs,pF,pJ]
 |cons a r=>have hl:=hin (by simp);simp[bV,AF,hs,hl,pJ]
attribute [go_sem] aWT aPD a4Y aSF aMW aIC aXW
structure Ev where
 call:FuncId->Nat->List AVal->aS->Option (Nat×AVal×aS)
 loop:Nat->Code->Nat->Fr->aS->Option (Exit×Nat×Fr×aS)
def nm0:AVal->List Nat
 | .ptr i _ _=>[i]
 | .sl i _ _=>[i]
 | .slc i _ _ _=>[i]
 | .bfn _ i _ _=>[i]
 | .mp i=>[i]
 | .it i=>[i]
 |_=>[]
def nm1:AVal->List Nat
 | .agg cs=>cs.flatMap nm0
 | .fn _ cs=>cs.flatMap nm0
 |v=>nm0 v
def nm2:AVal->List Nat
 | .tup cs=>cs.flatMap nm1
 |v=>nm1 v
def CC:List Nat->Nat->Bool
 |[],_=>false
 |a::r,i=>sD a i||CC r i
def IC{α:Type}:List (Nat×α)->Nat->Option α
 |[],_=>none
 | (a,x)::r,k=>match sD a k with
   |true=>some x
   |false=>IC r k
theorem AE{α:Type}:∀(l:List (Nat×α)) (i:Nat),IC l i=look l i
 |[],i=>rfl
 |(a,x)::r,i=>by
  simp only[IC,look];by_cases h:a=i;.subst h;simp
  have:sD a i=false:=by rw[dS];exact λ hb=>h (bZ hb)
  rw[this,if_neg h];exact AE r i
def pN(H:aS):Nat->List Nat->List Nat->List Nat
 |0,_,seen=>seen
 |_+1,[],seen=>seen
 | n+1,i::r,seen=>match CC seen i with
   |true=>pN H n r seen
   | false=>match IC H i with
     | some B=>match B.pure with
       |true=>pN H n r (i::seen)
       |false=>pN H n ((B.rows.flatMap λ row=>row.flatMap nm0)++r) (i::seen)
     |none=>pN H n r seen
def vA(p:List Nat):aS->aS
 |[]=>[]
 | (i,B)::r=>match CC p i with
   |true=>(i,B)::vA p r
   |false=>vA p r
theorem xB(p:List Nat):∀(H:aS) (i:Nat) (B:Blk),look (vA p H) i=some B->look H i=some B
 |[],i,B,h=>by simp[vA,look]at h
 |(j,C)::r,i,B,h=>by
  simp only[vA]at h
  cases hp:CC p j with
  |true=>
   rw[hp]at h;simp only[look]at h⊢
   split at h;.rename_i he;rw[if_pos he];exact h
   rename_i he;rw[if_neg he];exact xB p r i B h
  |false=>
   rw[hp]at h;have h1:=xB p r i B h;simp only[look];split
   .rename_i he;subst he;exfalso
    have:∀(l:aS),look (vA p l) j=none:=by
     intro l
     induction l with
     |nil=>rfl
     |cons y ys ih=>
      obtain⟨b,D⟩:=y;simp only[vA]
      cases hb:CC p b with
      |true=>
       simp only[look];split;.rename_i e;subst e;rw[hp]at hb;cases hb
       exact ih
      |false=>exact ih
    rw[this r]at h;cases h
   exact h1
def aOJ:AVal->AVal->Bool
 | .lit (.int k a),.lit (.int k' b)=>decide (k=k')&&decide (a=b)
 | .lit (.bool a),.lit (.bool b)=>a==b
 | .lit (.pointer none),.lit (.pointer none)=>true
 |_,_=>false
theorem aOI{a b:AVal}(h:aOJ a b=true):a=b:=by
 unfold aOJ at h;split at h;.simp only[aC,dTt]at h;rw[h.1,h.2]
 .simp only[beq_iff_eq]at h;rw[h]
 .rfl
 cases h
def EB{α:Type}(f:α->α->Bool):List α->List α->Bool
 |[],[]=>true
 |a::r,b::q=>f a b&&EB f r q
 |_,_=>false
theorem zR{α:Type}{f:α->α->Bool}(hf:∀a b,f a b=true->a=b):∀ {l m:List α},EB f l m=true->l=m
 |[],[],_=>rfl
 |a::r,b::q,h=>by simp only[EB,aC]at h;rw[hf _ _ h.1,zR hf h.2]
 |[],_::_,h=>by simp[EB]at h
 |_::_,[],h=>by simp[EB]at h
def aOM(B C:Blk):Bool:=(B.pure&&C.pure)&&(sD B.sz C.sz&&EB (EB aOJ) B.rows C.rows)
theorem aOL{B C:Blk}(h:aOM B C=true):B=C/\B.pure=true:=by simp only[aOM,aC]at h;obtain⟨⟨h1,h2⟩,h3,h4⟩:=h;refine⟨?_,h1⟩;cases B;cases C;simp only at h1 h2 h3 h4;rw[h1,h2,bZ h3,zR (λ a b h=>zR (λ _ _=>aOI) h) h4]
def aRA(Hc Hout:aS)(i:Nat):Bool:=
 match IC Hc i with
 | some B=>match IC Hout i with
   |some C=>aOM B C
   |none=>false
 |none=>false
def BG(Hc Hout:aS):aS->List Nat
 |[]=>[]
 | (i,_)::r=>match aRA Hc Hout i with
   |true=>i::BG Hc Hout r
   |false=>BG Hc Hout r
theorem zS{Hc Hout:aS}{id:Nat}:∀ {H:aS},id∈BG Hc Hout H->∃B,look Hc id=some B/\look Hout id=some B/\B.pure=true
 |[],h=>by simp[BG]at h
 |(i,B)::r,h=>by
  simp only[BG]at h;split at h
  .rename_i hs;rcases jK.1 h with rfl|h
   .unfold aRA at hs;rw[AE,AE]at hs;split at hs
    .rename_i B' hB;split at hs;.rename_i C hC;obtain⟨rfl,hp⟩:=aOL hs;exact⟨B',hB,hC,hp⟩
     cases hs
    cases hs
   exact zS h
  exact zS h
def UQ(same:List Nat):List (Nat×Option Blk)->List (Nat×Option Blk)
 |[]=>[]
 | (i,B)::r=>match CC same i with
   |true=>UQ same r
   |false=>(i,B)::UQ same r
theorem hasN_iff{l:List Nat}{i:Nat}:CC l i=true↔i∈l:=by
 induction l with
 |nil=>simp[CC]
 |cons a r ih=>
  simp only[CC,bH,ih,jK];constructor
  .rintro(h|h);.exact .inl (bZ h).symm
   exact .inr h
  rintro(h|h);.exact .inl (by rw[h];simp)
  exact .inr h
theorem KF{H:lP}{A:bU}{same:List Nat}{id:Nat}:∀(u:List (Nat×Option Blk)),iR H A (UQ same u) id=if CC same id=true then H id else iR H A u id
 |[]=>by simp[UQ,iR]
 |(i,B)::r=>by
  have ih:=KF (H:=H) (A:=A) (same:=same) (id:=id) r;simp only[UQ]
  cases hs:CC same i with
  |true=>
   rw[ih];by_cases hi:CC same id=true;.simp only[hi,if_true]
   simp only[hi];have:id≠i:=λ e=>hi (e▸hs);cases B<;>simp[iR,this]
  |false=>
   by_cases he:id=i;.subst he;cases B<;>simp[iR,hs]
   cases B<;>simp[iR,he,ih]
theorem aKN{P:Program}{Γ:List (Nat×List AVal)}{o:Oper}{ev:Operand->Option AVal}{get:Nat->Option Blk}{k k':Nat}{v:AVal}{Hc Hout:aS}{same:List Nat}(hs:∀id,id∈same->∃B,look Hc id=some B/\get id=some B/\look Hout id=some B/\B.pure=true)(h:Good P Γ o ev get k (iO v k' Hc Hout)):Good P Γ o ev get k ⟨v,k',UQ same (iO v k' Hc Hout).upd,Hc.map (·.1)⟩:=by
 refine⟨?_,h.rds,h.le⟩;intro w G ρ H A a hr hA hf hrd hop next Q hn
 refine h.ok w G ρ H A a hr hA hf hrd hop next Q λ w' G' ρ' cv hrel hv hst=>hn w' G' ρ' cv ?_ hv hst
 have hold:∀id,CC same id=true->∃B A',H id=some (B,A')/\iR H (λ i=>A i\/(k<=i/\i<k')) (iO v k' Hc Hout).upd id=some (B,λ i=>A i\/(k<=i/\i<k'))/\B.pure=true/\A' id:=λ id hid=>by obtain⟨B,h1,h2,h3,h4⟩:=hs id (hasN_iff.1 hid);obtain⟨B',A',h5,h6,h7⟩:=hrd id (by simp only[iO,cL];exact⟨(id,B),EK h1,rfl⟩);rw[h2]at h5;cases h5;refine⟨B,A',h6,?_,h4,(hr.blk id B A' h6).1⟩;have hm:=CW Hc Hout id;rw[h3]at hm;rw[mQ];have hm':uA (iO v k' Hc Hout).upd id=some (some B):=hm;rw[hm'];rfl
 refine⟨λ id hid=>?_,λ id B A1 hid=>?_,hrel.inj,hrel.ro,hrel.glob⟩
 .change iR H (λ i=>A i\/(k<=i/\i<k')) (UQ same (iO v k' Hc Hout).upd) id=none at hid;rw[KF]at hid;by_cases hi:CC same id=true;.obtain⟨B,A',h1,_⟩:=hold id hi;rw[if_pos hi,h1]at hid;cases hid
  rw[if_neg hi]at hid;exact hrel.dom id hid
 change iR H (λ i=>A i\/(k<=i/\i<k')) (UQ same (iO v k' Hc Hout).upd) id=some (B,A1)at hid;rw[KF]at hid;by_cases hi:CC same id=true
 .obtain⟨B',A',h1,h2,h3,h4⟩:=hold id hi;rw[if_pos hi,h1]at hid;cases hid;obtain⟨_,b,h6,h7,h8⟩:=hrel.blk id B _ h2;refine⟨h4,b,h6,h7,⟨?_,h8.len⟩⟩;have h9:=h8.ex;simp only[h3,if_true]at h9⊢
  exact h9
 rw[if_neg hi]at hid;exact hrel.blk id B A1 hid
def UB(e:Ev)(P:Program)(o:Oper)(ev:Operand->Option AVal)(H:aS)(k:Nat):Option Out:=
 match o.op with
 | .call {callee:= .value f,args:=args,argTypes:=_}=>match ev f,rF ev args.toList with
   | some (.fn g caps),some vs=>
     match aL P g&&((vs++caps).all (bd (CC (pN H 100000 ((vs++caps).flatMap nm2) [])))&&rG (dX (vA (pN H 100000 ((vs++caps).flatMap nm2) []) H)) (vA (pN H 100000 ((vs++caps).flatMap nm2) []) H))&&((vs++caps).all (bd (dX (vA (pN H 100000 ((vs++caps).flatMap nm2) []) H))))with
     | true=>match e.call g k (vs++caps) (vA (pN H 100000 ((vs++caps).flatMap nm2) []) H)with
       | some (k',v,Hout)=>match Nat.ble k k' with
         |true=>some ⟨v,k',UQ (BG (vA (pN H 100000 ((vs++caps).flatMap nm2) []) H) Hout (vA (pN H 100000 ((vs++caps).flatMap nm2) []) H)) (iO v k' (vA (pN H 100000 ((vs++caps).flatMap nm2) []) H) Hout).upd,(vA (pN H 100000 ((vs++caps).flatMap nm2) []) H).map (·.1)⟩
         |false=>none
       |none=>none
     |false=>none
   |_,_=>none
 |_=>none
def RK(e:Ev)(P:Program)(Γ:List (Nat×List AVal))(all:Array Oper):List Oper->Nat->Fr->aS->Option (List Foot×Nat×Fr×aS)
 |[],k,fr,H=>some ([],k,fr,H)
 | o::r,k,fr,H=>match mJ all fr o with
   |none=>none
   | some false=>match RK e P Γ all r k (gK fr o.dst (.lit undef)) H with
     |none=>none
     |some (tr,x)=>some (⟨[],[],k,k⟩::tr,x)
   | some true=>match(match uE o with|true=>UB e P o (kB Γ fr) H k|false=>BV P Γ o (kB Γ fr) (look H) k)with
     |none=>none
     | some out=>match RK e P Γ all r out.k (gK fr o.dst out.v) (lD H out.upd)with
       |none=>none
       |some (tr,x)=>some (⟨out.rds,out.upd.map (·.1),k,out.k⟩::tr,x)
def jR(e:Ev)(P:Program)(Γ:List (Nat×List AVal))(nt:Nat):Code->Nat->Fr->aS->Option (Exit×Nat×Fr×aS)
 | .skip,k,fr,H=>some (.normal,k,fr,H)
 | .ret,k,fr,H=>some (.ret,k,fr,H)
 | .exit id,k,fr,H=>some (.exit id,k,fr,H)
 | .seq x y,k,fr,H=>match jR e P Γ nt x k fr H with
   |some (.normal,k1,fr1,H1)=>jR e P Γ nt y k1 fr1 H1
   |r=>r
 | .cond c x y,k,fr,H=>match kB Γ fr c with
   |some (.lit (.bool true))=>jR e P Γ nt x k fr H
   |some (.lit (.bool false))=>jR e P Γ nt y k fr H
   |_=>none
 | .block id c,k,fr,H=>match jR e P Γ nt c k fr H with
   | some (.exit id',k1,fr1,H1)=>match sD id' id with
     |true=>some (.normal,k1,fr1,H1)
     |false=>some (.exit id',k1,fr1,H1)
   |r=>r
 | .loop c,k,fr,H=>match jR e P Γ nt c k fr H with
   |some (.normal,k1,fr1,H1)=>e.loop nt c k1 fr1 H1
   |r=>r
 | .region _ ops d,k,fr,H=>match mM nt ops with
   |false=>none
   | true=>match RK e P Γ ops ops.toList k fr H with
     |none=>none
     | some (tr,k1,fr1,H1)=>match(!d)||(P.follows .mixedOrders&&kS ops tr)with
       |true=>some (.normal,k1,fr1,H1)
       |false=>none
 |_,_,_,_=>none
def aCZ(e:Ev)(P:Program)(Γ:List (Nat×List AVal))(nt:Nat)(c:Code)(k:Nat)(fr:Fr)(H:aS):Option (Exit×Nat×Fr×aS):=
 match jR e P Γ nt c k fr H with
 |some (.normal,k1,fr1,H1)=>e.loop nt c k1 fr1 H1
 |r=>r
def XQ(k:Nat):aS->List Nat
 |[]=>[]
 | (i,_)::r=>match Nat.blt i k with
   |true=>i::XQ k r
   |false=>XQ k r
def aDB(e:Ev)(P:Program)(Γ:List (Nat×List AVal))(f:FuncId)(k:Nat)(args:List AVal)(H:aS):Option (Nat×AVal×aS):=
 match P.funcs[f]? with
 |none=>none
 | some fn=>match fn.body with
   |none=>none
   | some c=>match Nat.ble args.length fn.ntmps with
     |false=>none
     | true=>match jR e P Γ fn.ntmps c k (uX 0 args) H with
       | some (.normal,k1,fr1,H1)=>match IU P fn fr1 H1 with
         |some r=>some (k1,r,vA (pN H1 100000 (nm2 r++XQ k H1) []) H1)
         |none=>none
       | some (.ret,k1,fr1,H1)=>match IU P fn fr1 H1 with
         |some r=>some (k1,r,vA (pN H1 100000 (nm2 r++XQ k H1) []) H1)
         |none=>none
       |_=>none
def ev(P:Program)(Γ:List (Nat×List AVal)):Nat->Ev
 |0=>⟨λ _ _ _ _=>none,λ _ _ _ _ _=>none⟩
 |n+1=>⟨λ f k args H=>aDB (ev P Γ n) P Γ f k args H,λ nt c k fr H=>aCZ (ev P Γ n) P Γ nt c k fr H⟩
section
variable{P:Program}{Γ:List (Nat×List AVal)}{nt kb:Nat}{k:Nat}{fr:Fr}{H:aS}{e:Ev}
def isQ(ex:Exit)(k:Nat)(fr:Fr)(H:aS):AQ:=λ e1 k1 fr1 H1=>e1=ex/\k1=k/\fr1=fr/\H1=H
structure EvOk (P:Program) (Γ:List (Nat×List AVal)) (e:Ev):Prop where
 call:∀f k args H k' v H',e.call f k args H=some (k',v,H')->Tr P Γ f k args H (λ k1 r1 H1=>k1=k'/\r1=v/\H1=H')
 loop:∀nt c k fr H ex k' fr' H',e.loop nt c k fr H=some (ex,k',fr',H')->∀kb,∃n,rJ P Γ nt kb c (isQ ex k' fr' H') n k fr H
theorem II(he:EvOk P Γ e){o:Oper}{out:Out}(h:UB e P o (kB Γ fr) H k=some out):Good P Γ o (kB Γ fr) (look H) k out:=by
 unfold UB at h;split at h
 .rename_i f args ty ho;split at h
  .rename_i g caps vs hf ha;generalize hHc:vA (pN H 100000 ((vs++caps).flatMap nm2) []) H=Hc at h;split at h
   .rename_i hc;simp only[aC]at hc;split at h
    .rename_i k' v Hout hcall;split at h
     .rename_i hle;cases h;have hin:∀id B,look Hc id=some B->look H id=some B:=λ id B hB=>by subst hHc;exact xB _ _ _ _ hB
      refine aKN (λ id hid=>?_) (JV ho hc.1.1 hf ha hc.2 hc.1.2.2 hin (he.call _ _ _ _ _ _ _ hcall) (qU hle));obtain⟨B,h1,h2,h3⟩:=zS hid;exact⟨B,h1,hin id B h1,h2,h3⟩
     cases h
    cases h
   cases h
  cases h
 cases h
theorem RJ(he:EvOk P Γ e){all:Array Oper}:∀(l:List Oper) (k:Nat) (fr:Fr) (H:aS) (tr:List Foot) (k':Nat) (fr':Fr) (H':aS) (K:List Foot->Nat->Fr->aS->Prop),RK e P Γ all l k fr H=some (tr,k',fr',H')->K tr k' fr' H'->Run P Γ all l k fr H K:=by
 intro l
 induction l with
 |nil=>intro k fr H tr k' fr' H' K h hK;simp only[RK]at h;cases h;exact hK
 |cons o r ih=>
  intro k fr H tr k' fr' H' K h hK;simp only[RK]at h;split at h;.cases h
  .rename_i hg;split at h;.cases h
   rename_i tr1 x hx;obtain⟨k1,fr1,H1⟩:=x;cases h;exact .inl ⟨hg,ih _ _ _ _ _ _ _ _ hx hK⟩
  rename_i hg;split at h;.cases h
  rename_i out ho;split at h;.cases h
  rename_i tr1 x hx;obtain⟨k1,fr1,H1⟩:=x;cases h;refine .inr ⟨hg,out,?_,ih _ _ _ _ _ _ _ _ hx hK⟩;split at ho;.exact II he ho
  exact uY ho
theorem HC(he:EvOk P Γ e):∀(c:Code) (k:Nat) (fr:Fr) (H:aS) (ex:Exit) (k':Nat) (fr':Fr) (H':aS),jR e P Γ nt c k fr H=some (ex,k',fr',H')->W P Γ nt kb c (isQ ex k' fr' H') k fr H:=by
 intro c
 induction c with
 |skip=>intro k fr H ex k' fr' H' h;simp only[jR]at h;cases h;exact aEQ ⟨rfl,rfl,rfl,rfl⟩
 |ret=>intro k fr H ex k' fr' H' h;simp only[jR]at h;cases h;exact aUP ⟨rfl,rfl,rfl,rfl⟩
 |exit id=>intro k fr H ex k' fr' H' h;simp only[jR]at h;cases h;exact aER ⟨rfl,rfl,rfl,rfl⟩
 |seq x y ihx ihy=>
  intro k fr H ex k' fr' H' h;simp only[jR]at h
  cases hx:jR e P Γ nt x k fr H with
  |none=>rw[hx]at h;cases h
  |some r=>
   obtain⟨e1,k1,fr1,H1⟩:=r;rw[hx]at h;refine aUO (kT (ihx _ _ _ _ _ _ _ hx) ?_);rintro e2 k2 fr2 H2 ⟨rfl,rfl,rfl,rfl⟩
   cases e2 with
   |normal=>exact ihy _ _ _ _ _ _ _ h
   |exit id=>cases h;exact⟨rfl,rfl,rfl,rfl⟩
   |goto l=>cases h;exact⟨rfl,rfl,rfl,rfl⟩
   |ret=>cases h;exact⟨rfl,rfl,rfl,rfl⟩
   |panic ch=>cases h;exact⟨rfl,rfl,rfl,rfl⟩
   |outgrown=>cases h;exact⟨rfl,rfl,rfl,rfl⟩
 |cond c x y ihx ihy=>
  intro k fr H ex k' fr' H' h;simp only[jR]at h;split at h;.rename_i hc;exact NZ true hc (λ _=>ihx _ _ _ _ _ _ _ h) (λ hh=>by cases hh)
  .rename_i hc;exact NZ false hc (λ hh=>by cases hh) (λ _=>ihy _ _ _ _ _ _ _ h)
  cases h
 |block id c ih=>
  intro k fr H ex k' fr' H' h;simp only[jR]at h
  cases hx:jR e P Γ nt c k fr H with
  |none=>rw[hx]at h;cases h
  |some r=>
   obtain⟨e1,k1,fr1,H1⟩:=r;rw[hx]at h;refine VH (kT (ih _ _ _ _ _ _ _ hx) ?_);rintro e2 k2 fr2 H2 ⟨rfl,rfl,rfl,rfl⟩
   cases e2 with
   |normal=>cases h;exact⟨rfl,rfl,rfl,rfl⟩
   |exit id'=>
    simp only[yT];by_cases hid:id'=id;.subst hid;simp only[Nat.beq_refl]at h;cases h;rw[if_pos rfl];exact⟨rfl,rfl,rfl,rfl⟩
    have hb:sD id' id=false:=by rw[dS];exact λ hb=>hid (bZ hb)
    simp only[hb]at h;cases h;rw[if_neg hid];exact⟨rfl,rfl,rfl,rfl⟩
   |goto l=>cases h;exact⟨rfl,rfl,rfl,rfl⟩
   |ret=>cases h;exact⟨rfl,rfl,rfl,rfl⟩
   |panic ch=>cases h;exact⟨rfl,rfl,rfl,rfl⟩
   |outgrown=>cases h;exact⟨rfl,rfl,rfl,rfl⟩
 |loop c ih=>
  intro k fr H ex k' fr' H' h;simp only[jR]at h
  cases hx:jR e P Γ nt c k fr H with
  |none=>rw[hx]at h;cases h
  |some r=>
   obtain⟨e1,k1,fr1,H1⟩:=r;rw[hx]at h
   cases e1 with
   |normal=>obtain⟨n,hn⟩:=he.loop _ _ _ _ _ _ _ _ _ h kb;refine FK (n+1) (kT (ih _ _ _ _ _ _ _ hx) ?_);rintro e2 k2 fr2 H2 ⟨rfl,rfl,rfl,rfl⟩;exact hn
   |_=>cases h;refine FK 1 (kT (ih _ _ _ _ _ _ _ hx) ?_);rintro e2 k2 fr2 H2 ⟨rfl,rfl,rfl,rfl⟩;exact⟨rfl,rfl,rfl,rfl⟩
 |region id ops d=>
  intro k fr H ex k' fr' H' h;simp only[jR]at h;split at h;.cases h
  rename_i hd;split at h;.cases h
  rename_i tr k1 fr1 H1 hx;split at h
  .rename_i hdr;cases h
   cases d with
   |false=>exact NY hd (RJ he _ _ _ _ _ _ _ _ _ hx (λ _=>⟨rfl,rfl,rfl,rfl⟩))
   |true=>simp only[a0V,FW,aC]at hdr;exact aES hdr.1 hd (RJ he _ _ _ _ _ _ _ _ _ hx ⟨hdr.2,λ _=>⟨rfl,rfl,rfl,rfl⟩⟩)
  cases h
 |_=>intro k fr H ex k' fr' H' h;simp[jR]at h
theorem aKX(he:EvOk P Γ e){c:Code}{ex:Exit}{k':Nat}{fr':Fr}{H':aS}(h:aCZ e P Γ nt c k fr H=some (ex,k',fr',H')):∃n,rJ P Γ nt kb c (isQ ex k' fr' H') n k fr H:=by
 unfold aCZ at h
 cases hx:jR e P Γ nt c k fr H with
 |none=>rw[hx]at h;cases h
 |some r=>
  obtain⟨e1,k1,fr1,H1⟩:=r;rw[hx]at h
  cases e1 with
  |normal=>obtain⟨n,hn⟩:=he.loop _ _ _ _ _ _ _ _ _ h kb;refine⟨n+1,kT (HC he c _ _ _ _ _ _ _ hx) ?_⟩;rintro e2 k2 fr2 H2 ⟨rfl,rfl,rfl,rfl⟩;exact hn
  |_=>cases h;refine⟨1,kT (HC he c _ _ _ _ _ _ _ hx) ?_⟩;rintro e2 k2 fr2 H2 ⟨rfl,rfl,rfl,rfl⟩;exact⟨rfl,rfl,rfl,rfl⟩
theorem aKY(he:EvOk P Γ e){f:FuncId}{args:List AVal}{k':Nat}{v:AVal}{H':aS}(h:aDB e P Γ f k args H=some (k',v,H')):Tr P Γ f k args H (λ k1 r1 H1=>k1=k'/\r1=v/\H1=H'):=by
 unfold aDB at h;split at h;.cases h
 rename_i fn hfn;split at h;.cases h
 rename_i c hc;split at h;.cases h
 rename_i hn
 have main:∀ex k1 fr1 H1 r,(ex= .normal\/ex= .ret)->jR e P Γ fn.ntmps c k (uX 0 args) H=some (ex,k1,fr1,H1)->IU P fn fr1 H1=some r→
  some (k1,r,vA (pN H1 100000 (nm2 r++XQ k H1) []) H1)=some (k',v,H')->Tr P Γ f k args H (λ k1 r1 H1=>k1=k'/\r1=v/\H1=H'):=by
  intro ex k1 fr1 H1 r hex hev hr hq
  cases hq
  refine(JZ (Q:=λ k2 r2 H2=>k2=k'/\r2=v/\H2=H1) hfn hc (qU hn) (kT (HC he c _ _ _ _ _ _ _ hev) ?_)).weaken ?_
  · rintro e2 k2 fr2 H2 ⟨rfl,rfl,rfl,rfl⟩
    rcases hex with rfl|rfl
    · exact⟨_,hr,rfl,rfl,rfl⟩
    · exact⟨_,hr,rfl,rfl,rfl⟩
  · rintro k2 r2 H2 hk ⟨rfl,rfl,rfl⟩
    exact⟨_,_,_,hk,aK _,λ id B hB=>⟨B,xB _ _ _ _ hB,pE B⟩,.inl rfl,rfl,rfl,rfl⟩
 split at h
 .rename_i k1 fr1 H1 hev;split at h;.rename_i r hr;exact main _ _ _ _ _ (.inl rfl) hev hr h
  cases h
 .rename_i k1 fr1 H1 hev;split at h;.rename_i r hr;exact main _ _ _ _ _ (.inr rfl) hev hr h
  cases h
 cases h
theorem aRX:∀n,EvOk P Γ (ev P Γ n)
 |0=>⟨λ _ _ _ _ _ _ _ h=>(by simp[ev]at h),λ _ _ _ _ _ _ _ _ _ h=>(by simp[ev]at h)⟩
 |n+1=>⟨λ _ _ _ _ _ _ _ h=>aKY (aRX n) h,λ _ _ _ _ _ _ _ _ _ h _=>aKX (aRX n) h⟩
theorem bAJ(n:Nat){f:FuncId}{args:List AVal}{k':Nat}{v:AVal}{H':aS}(h:(ev P Γ n).call f k args H=some (k',v,H')):Tr P Γ f k args H (λ k1 r1 H1=>k1=k'/\r1=v/\H1=H'):=(aRX n).call _ _ _ _ _ _ _ h
end
theorem VP{P:Program}{Γ:List (Nat×List AVal)}(n:Nat){f:FuncId}{args:List AVal}{v:AVal}{k':Nat}(ha:args.all (bd λ _=>false)=true)(hv:bd (λ _=>false) v=true)
 (h:(ev P Γ n).call f 0 args []=some (k',v,[])):Pure P Γ f args v:=λ k=>by
 have hT:=bAJ n h
 intro A hA w G ρ cargs hr hvs
 have hrel:∀A1 w1 G1 ρ1 A2,HRel Γ w1 G1 ρ1 (bK [] A1)->HRel Γ w1 G1 ρ1 (bK [] A2):=λ A1 w1 G1 ρ1 A2 h=>
  ⟨λ id _=>h.dom id rfl,λ id B A' hid=>by simp[bK,look]at hid,h.inj,h.ro,h.glob⟩
 have hno:∀w1 G1 ρ1 A1 A2 u cu,V w1 G1 ρ1 A1 u cu->bd (λ _=>false) u=true->V w1 G1 ρ1 A2 u cu:=λ w1 G1 ρ1 A1 A2 u cu h hb=>
  (aEV h hb).mono (λ _ h=>h) (λ _ _=>rfl) (λ _ _=>rfl) (λ i hi=>by simp at hi) (λ _ _=> .inr rfl)
 refine(hT cF (λ i hi=>hi.elim) w G ρ cargs (hrel _ _ _ _ _ hr) ⟨hvs.1,λ j u hj=>hno _ _ _ _ _ _ _ (hvs.2 j u hj) (gP ha hj)⟩).mono ?_
 rintro e w' ⟨cv,G',ρ',k1,r,H1,rfl,⟨rfl,rfl,rfl⟩,hk1,hrel1,hv1,hst⟩
 exact⟨cv,G',ρ',k,_,[],rfl,⟨rfl,rfl,rfl⟩,aF _,hrel _ _ _ _ _ hrel1,hno _ _ _ _ _ _ _ hv1 hv,
  ⟨hst.size,hst.keep,hst.shape,hst.g,hst.g',hst.own,λ id _=> .inl (hrel1.dom id rfl),hst.os,hst.tape,hst.output⟩⟩
section
variable{P:Program}{get:Nat->Option Blk}{k t:Nat}{op:BinOp}{z:AVal}
theorem bEJ{cs:List AVal}:aEA P get k op t (some (.agg cs)) (some z)=match AG op with|some neg=>aEq P get k t neg (.agg cs) z|none=>none:=by cases z<;>rfl
theorem bEI{cs:List AVal}:aEA P get k op t (some (.rp cs)) (some z)=match AG op with|some neg=>aEq P get k t neg (.rp cs) z|none=>none:=by cases z<;>rfl
theorem bEH{i n:Nat}{f:Nat->List AVal}:aEA P get k op t (some (.rd i n f)) (some z)=match AG op with|some neg=>aEq P get k t neg (.rd i n f) z|none=>none:=by cases z<;>rfl
theorem aUI{f:Nat->List AVal}{n:Nat}(h:∀i,(f i).all one=true):(((aM n).map f).all λ row=>row.all one)=true:=by simp only[List.all_map,aW,Function.comp];intro i _ v hv;exact aW.1 (h i) v hv
theorem aYQ{v:Value}{r:List AVal}:mY (.lit v::r)=(mY r).map (v:: ·):=by simp only[mY];cases mY r<;>rfl
theorem aYR:mY []=some []:=rfl
end
section
variable{P:Program}{Γ:List (Nat×List AVal)}{nt kb:Nat}{Q:AQ}{k:Nat}{fr:Fr}{H:aS}{c:Code}{p:List Nat}
theorem gL{id:Nat}{l:List Oper}(hc:fR c p= .region id l.toArray false)(keep:List Nat)(_hn:(l.all λ o=> !uE o&& !aFJ o)=true)(hd:mM nt l.toArray=true)
 (h:∀K:List Foot->Nat->Fr->aS->Prop,(∀tr k' fr' H',(kb<=k'->Q .normal k' (kA keep fr') H')->K tr k' fr' H')->DN P Γ l.toArray l [] k fr H K .mk):W P Γ nt kb (fR c p) Q k fr H:=a2B hc keep [] hd h
theorem aUV{id:Nat}{l:List Oper}(hc:fR c p= .region id l.toArray true)(keep:List Nat)(_hn:(l.all λ o=> !uE o&& !aFJ o)=true)(hm:P.follows .mixedOrders=true)(hd:mM nt l.toArray=true)
 (h:∀K:List Foot->Nat->Fr->aS->Prop,(∀tr k' fr' H',kS l.toArray tr=true->(kb<=k'->Q .normal k' (kA keep fr') H')->K tr k' fr' H')->DN P Γ l.toArray l [] k fr H K .mk):W P Γ nt kb (fR c p) Q k fr H:=a2C hc keep [] hm hd h
end
attribute [go_sem] bEJ bEI bEH aUI aYQ aYR NV sX IJ lA
def VLes:List AVal->List AVal->Prop
 |[],[]=>True
 |u::us,v::vs=>VLe u v/\VLes us vs
 |_,_=>False
theorem VLes.nil:VLes [] []:=trivial
theorem VLes.cons {u v:AVal}{us vs:List AVal}(h:VLe u v)(hr:VLes us vs):VLes (u::us) (v::vs):=⟨h,hr⟩
theorem VLes.spec:∀ {us vs:List AVal},VLes us vs->us.length=vs.length/\∀(j:Nat) u v,us[j]? =some u->vs[j]? =some v->VLe u v
 |[],[],_=>⟨rfl,λ j u v h=>by simp at h⟩
 |u::us,v::vs,⟨h1,h2⟩=>by
  obtain⟨h3,h4⟩:=VLes.spec h2;refine⟨by simp[h3],λ j a b ha hb=>?_⟩
  cases j with
  |zero=>cases ha;cases hb;exact h1
  |succ j=>exact h4 j a b (by simpa using ha) (by simpa using hb)
 |[],_::_,h=>h.elim
 |_::_,[],h=>h.elim
theorem aUS:∀(us:List AVal),VLes us us
 |[]=>trivial
 |u::us=>⟨aK u,aUS us⟩
theorem oA {us vs:List AVal}(h:VLes us vs):VLe (.agg us) (.agg vs):=by obtain⟨h1,h2⟩:=h.spec;exact VLe.agg h1 h2
theorem VLe.copy (s n:Nat)(f:Nat->List AVal):VLe (.rd s n (λ j=>((aM n).map f).getD (0+j) [])) (.rd s n f):=VLe.rd λ i hi=>by simp[bD,hi]
theorem nQ (s n:Nat)(f:Nat->List AVal):VLe (.rd s n (λ j=>((aM n).map f).getD j [])) (.rd s n f):=VLe.rd λ i hi=>by simp[bD,hi]
theorem wE{α:Type}(l:List (Nat×α))(i j:Nat)(x:α):look ((i,x)::del l i) j=if i=j then some x else look l j:=by
 simp only[look];split;.rfl
 rename_i h
 induction l with
 |nil=>rfl
 |cons y ys ih=>
  obtain⟨a,b⟩:=y;simp only[del];split;.rename_i he;subst he;simp only[look,if_neg h];exact ih
  simp only[look];split;.rfl
  exact ih
theorem Mv.row {kb k:Nat}{fr:Fr}{H:aS}(id:Nat){s:Nat}{p:Bool}{l:List (List AVal)}{r:List AVal}(r':List AVal)(hH:look H id=some ⟨s,p,l++[r]⟩)(hr:VLes r r')(hc:((l++[r']).all λ row=>row.all clean)=true):
 Mv kb k fr H k fr ((id,⟨s,true,l++[r']⟩)::del H id):=λ hk=>kU ⟨hk,λ t v h=>⟨v,h,aK v⟩,λ i B hB=>by
 rw[wE]at hB
 split at hB
 · rename_i he
   subst he
   cases hB
   obtain⟨h1,h2⟩:=hr.spec
   refine⟨_,hH,rfl,λ q row' hq=>?_,λ _=> .inr hc⟩
   rw[kY]at hq
   split at hq
   · rename_i hlt
     exact⟨row',by rw[fU hlt];exact hq,rfl,λ c u v hu hv=>by rw[hu]at hv;cases hv;exact aK _⟩
   · rename_i hge
     have hq0:q-l.length=0:=by have:=(aG.1 hq).1;simp at this;exact this
     rw[hq0]at hq
     cases hq
     exact⟨r,by rw[gQ oO,hq0];rfl,h1,λ c u v hu hv=>h2 c u v hu hv⟩
 · exact⟨B,hB,pE B⟩,.inl rfl⟩ hk
theorem SA{f:Nat->List AVal}{n:Nat}(h:∀i,(f i).all clean=true):(((aM n).map f).all λ row=>row.all clean)=true:=by simp only[List.all_map,aW,Function.comp];intro i _ v hv;exact aW.1 (h i) v hv
theorem aCK{id:Nat}{B:Blk}{v:AVal}(h:clean v=true):jE id B v=v:=by cases v<;>simp_all [clean,jE]
theorem iJ{id:Nat}{B:Blk}:∀ {l:List (List AVal)},(l.all λ row=>row.all clean)=true->l.map (λ row=>row.map (jE id B))=l
 |[],_=>rfl
 |r::q,h=>by
  simp only[hY,aC]at h;rw[bG,iJ h.2];congr 1
  have:∀ {m:List AVal},m.all clean=true->m.map (jE id B)=m:=by
   intro m hm
   induction m with
   |nil=>rfl
   |cons a b ih=>simp only[hY,aC]at hm;rw[bG,aCK hm.1,ih hm.2]
  exact this h.1
def GM(id:Nat):Nat->Bool:=λ i=>decide (i≠id)
theorem aGR{id:Nat}{B:Blk}{v:AVal}(h:JX (GM id) v=true):VW id B v=v:=by
 have h0:∀u,iC (GM id) u=true->jE id B u=u:=λ u hu=>by
  cases u with
  |ptr i r c=>simp only[iC,GM,dTt]at hu;simp[jE,hu]
  |sl i r c=>simp only[iC,GM,dTt]at hu;simp[jE,hu]
  |_=>rfl
 have hl:∀(cs:List AVal),cs.all (iC (GM id))=true->cs.map (jE id B)=cs:=λ cs=>by
  induction cs with
  |nil=>intro _;rfl
  |cons a b ih=>intro hm;simp only[hY,aC]at hm;rw[bG,h0 _ hm.1,ih hm.2]
 cases v with
 |agg cs=>simp only[VW];rw[hl cs h]
 |fn f cs=>simp only[VW];rw[hl cs h]
 |ptr i r c=>exact h0 (.ptr i r c) h
 |sl i r c=>exact h0 (.sl i r c) h
 |_=>rfl
def XY(fr:Fr)(id:Nat):Fr->Prop
 |[]=>True
 |(t,v)::r=>look fr t=some v/\JX (GM id) v=true/\XY fr id r
def ID(H:aS)(id:Nat):aS->Prop
 |[]=>True
 |(i,B)::r=>i≠id/\look H i=some B/\B.pure=true/\ID H id r
theorem uD{fr:Fr}{id:Nat}:∀ {fr1:Fr},XY fr id fr1->∀t v,look fr1 t=some v->look fr t=some v/\JX (GM id) v=true
 |[],_,t,v,h=>by simp[look]at h
 |(t',v')::r,⟨h1,h2,h3⟩,t,v,h=>by
  simp only[look]at h;split at h;.rename_i he;subst he;cases h;exact⟨h1,h2⟩
  exact uD h3 t v h
theorem uC{H:aS}{id:Nat}:∀ {H1:aS},ID H id H1->∀i B,look H1 i=some B->i≠id/\look H i=some B/\B.pure=true
 |[],_,t,v,h=>by simp[look]at h
 |(t',v')::r,⟨h1,h2,h3,h4⟩,t,v,h=>by
  simp only[look]at h;split at h;.rename_i he;subst he;cases h;exact⟨h1,h2,h3⟩
  exact uC h4 t v h
theorem xX {kb k:Nat}{fr:Fr}{H:aS}{id s:Nat}{l:List (List AVal)}(t:Nat)(v:AVal)(H1:aS)(hf:look fr t=some (bV id l))(hH:iU H id s l)(hv:VLe (rows s l) v)(h1:XY fr id (del fr t))(h2:ID H id H1):
 Mv kb k fr H k ((t,v)::del fr t) H1:=by
 have hvle:∀u u',VLe u u'->VLe u' v->VLe u v:=λ u u' a b w G ρ A cv h=>b w G ρ A cv (a w G ρ A cv h)
 cases l with
 |nil=>
  refine λ hk=>kU ⟨hk,λ t' u hu=>?_,λ i B hB=>⟨B,(uC h2 i B hB).2.1,pE B⟩,.inl rfl⟩ hk;simp only[look]at hu;split at hu;.rename_i he;subst he;cases hu;exact⟨_,hf,hvle _ _ (VLe.nil s _) hv⟩
  exact⟨u,(uD h1 t' u hu).1,aK u⟩
 |cons x r=>
  have h3:=hH (by simp);refine Mv.trans (dJ id h3 rfl) (λ hk=>kU ⟨hk,λ t' u hu=>?_,λ i B hB=>?_,.inl rfl⟩ hk)
  .simp only[look]at hu;split at hu;.rename_i he;subst he;cases hu;refine⟨_,by unfold kX;rw[kJ,hf];rfl,?_⟩;simp only[bV,VW,jE,dV,aF,and_self,if_true];exact hv
   obtain⟨h4,h5⟩:=uD h1 t' u hu;refine⟨u,?_,aK u⟩;unfold kX;rw[kJ,h4,cB,aGR h5]
  obtain⟨h4,h5,h6⟩:=uC h2 i B hB;refine⟨B,?_,pE B⟩;unfold yK;rw[kJ,gI,if_neg h4,h5];simp[IX,h6]
attribute [go_sem] XY ID GM
theorem fE{id:Nat}{B:Blk}{l m:List (List AVal)}:jL (λ row=>jL (jE id B) row) (l++m)=jL (λ row=>jL (jE id B) row) l++jL (λ row=>jL (jE id B) row) m:=aH
theorem CT{f:Nat->List AVal}{n:Nat}:(aM (n+1)).map f=(aM n).map f++[f n]:=by rw[CI,aH];rfl
def shG(g:Nat->Nat)(f:Foot):List Nat×List Nat:=(f.rds.map g,f.mods.map g)
def HJ(ops:Array Oper)(oj:Oper)(fj:List Nat×List Nat)(oi:Oper)(fi:List Nat×List Nat):Bool:=
 jO (EX oj) (pC ops oi)||jO (EX oj) (EX oi)||jO (EX oi) (pC ops oj)||jO fj.2 fi.1||jO fj.2 fi.2||jO fj.1 fi.2
def IL(ops:Array Oper)(tr:List (List Nat×List Nat)):Bool:=
 (aM ops.size).all λ i=>match ops[i]?,tr[i]? with
   |some oi,some fi=>(oi.after.toList.all λ e=> !Region.binds .any e||decide (e.on<i))&&
      (aM i).all λ j=>match ops[j]?,tr[j]? with
        |some oj,some fj=> !HJ ops oj fj oi fi||aEB ops ops.size j i
        |_,_=>false
   |_,_=>false
theorem GP{g:Nat->Nat}{a b:List Nat}(h:jO (a.map g) (b.map g)=false):jO a b=false:=by
 cases hm:jO a b with
 |false=>rfl
 |true=>
  unfold jO at hm h;obtain⟨x,hx,hb⟩:=aHT.1 hm
  have:((a.map g).any λ y=>(b.map g).contains y)=true:=aHT.2 ⟨g x,cL.2 ⟨x,hx,rfl⟩,by
   simp only[bGA]at hb⊢
   exact cL.2 ⟨x,hb,rfl⟩⟩
  rw[this]at h;cases h
theorem aHH{g:Nat->Nat}{ops:Array Oper}{oj oi:Oper}{fj fi:Foot}(h:HJ ops oj (shG g fj) oi (shG g fi)=false):nB ops oj fj oi fi=false:=by simp only[HJ,fQ,shG]at h;simp only[nB,fQ];obtain⟨⟨⟨⟨⟨h1,h2⟩,h3⟩,h4⟩,h5⟩,h6⟩:=h;exact⟨⟨⟨⟨⟨h1,h2⟩,h3⟩,GP h4⟩,GP h5⟩,GP h6⟩
theorem yR{ops:Array Oper}{tr:List Foot}(g:Nat->Nat){L:List (List Nat×List Nat)}(hL:tr.map (shG g)=L)(h:IL ops L=true)(hm:(tr.all λ f=>f.mods.all λ x=>decide (x<f.k'))=true):kS ops tr=true:=by
 subst hL;simp only[IL,aW]at h;simp only[kS,aW];intro i hi;have h1:=h i hi;rw[aQ]at h1
 cases ho:ops[i]? with
 |none=>rw[ho]at h1;simp at h1
 |some oi=>
  cases ht:tr[i]? with
  |none=>rw[ho,ht]at h1;simp at h1
  |some fi=>
   rw[ho,ht]at h1;simp only[cB,aC,aW]at h1;simp only[aC,aW];refine⟨⟨h1.1,?_⟩,λ j hj=>?_⟩;.have:=aW.1 hm fi (jC ht);exact λ x hx=>aW.1 this x hx
   have h2:=h1.2 j hj;rw[aQ]at h2
   cases hoj:ops[j]? with
   |none=>rw[hoj]at h2;simp at h2
   |some oj=>
    cases htj:tr[j]? with
    |none=>rw[hoj,htj]at h2;simp at h2
    |some fj=>
     rw[hoj,htj]at h2;simp only[cB,bH,aT]at h2;simp only[bH,aT];rcases h2 with h2|h2;.exact .inl (aHH h2)
     exact .inr h2
theorem VR{P:Program}{Γ:List (Nat×List AVal)}{nt kb:Nat}{Q:AQ}{k:Nat}{fr:Fr}{H:aS}{c:Code}{p:List Nat}{x y:Code}(hc:fR c p= .seq x y)(keep:List Nat)(kx:Nat)(u:Fr)(Hx:aS)
 (h1:W P Γ nt kb (fR c (0::p)) (pL (λ k' fr' H'=>Mv kb k' fr' H' kx (XC keep u fr) Hx) Q) k fr H) (h2:W P Γ nt kb (fR c (1::p)) Q kx (XC keep u fr) Hx):W P Γ nt kb (fR c p) Q k fr H:=a5S hc kx _ Hx h1 h2
theorem lY{P:Program}{Γ:List (Nat×List AVal)}{nt kb:Nat}{Q:AQ}{k:Nat}{fr:Fr}{H:aS}{c:Code}(keep:List Nat)(kx:Nat)(u:Fr)(Hx:aS)
 (h1:W P Γ nt kb c (λ e k' fr' H'=>e= .normal/\Mv kb k' fr' H' kx (XC keep u fr) Hx) k fr H) (h2:Q .normal kx (XC keep u fr) Hx):W P Γ nt kb c Q k fr H:=
 pS (kT h1 λ e k' fr' H' h=>by obtain⟨rfl,hm⟩:=h;exact⟨_,_,_,hm,h2⟩)
section
variable{id j s:Nat}{l:List (List AVal)}{H H0:aS}{B:Blk}{u:List (Nat×Option Blk)}
def IQ(H:aS)(id:Nat)(l:List (List AVal)):Prop:=l≠[]->(AM.look H id).isSome=true
theorem aEK:IQ (cA id s l H) id l=True:=by
 simp only[IQ,eq_iff_iff,iff_true]
 intro h;cases l with
 |nil=>exact absurd rfl h
 |cons a r=>simp[cA,AM.look]
theorem aEL(h:j≠id):IQ ((j,B)::H) id l=IQ H id l:=by simp[IQ,AM.look,h]
theorem aTY(h:IQ H0 id l):iC (dX H0) (bV id l)=true:=by
 cases l with
 |nil=>rfl
 |cons a r=>simp only[bV,iC,dX];exact h (by simp)
theorem aZW(h:IQ H0 id l):bd (dX H0) (bV id l)=true:=by
 cases l with
 |nil=>rfl
 |cons a r=>simp only[bV,bd,JX,iC,dX];exact h (by simp)
theorem aTW(h:IQ H0 id l):rG (dX H0) (cA id s l H)=rG (dX H0) H:=by
 cases l with
 |nil=>rfl
 |cons a r=>have h':=h (by simp);simp[cA,rG,dX,h']
theorem aIA(h:del (lD H u) id=lD H u):lD H (jL (λ x=>(x.1,some x.2)) (cA id s l [])++u)=cA id s l (lD H u):=by
 cases l with
 |nil=>rfl
 |cons a r=>simp[cA,lD,h]
theorem aIB:lD H (jL (λ x=>(x.1,none)) (cA id s l []))=lD H (wH id l):=by
 cases l with
 |nil=>rfl
 |cons a r=>rfl
theorem aYB:jL (λ x=>x.1) (cA id s l [])=pJ id l:=by cases l<;>rfl
theorem aRI:jL (λ x:Nat×Option Blk=>x.1) (jL (λ x:Nat×Blk=>(x.1,some x.2)) (cA id s l []))=pJ id l:=by cases l<;>rfl
theorem aRJ:jL (λ x:Nat×Option Blk=>x.1) (jL (λ x:Nat×Blk=>(x.1,(none:Option Blk))) (cA id s l []))=pJ id l:=by cases l<;>rfl
end
theorem aYA{a b:List (Nat×Option Blk)}:jL (λ x:Nat×Option Blk=>x.1) (a++b)=jL (λ x=>x.1) a++jL (λ x=>x.1) b:=aH
theorem aEJ{id:Nat}{l:List (List AVal)}{p:Nat->Bool}(h:p id=true):(pJ id l).all p=true:=by cases l<;>simp[pJ,h]
section
variable{j:Nat}{B C:Blk}{H:aS}
theorem aRK:yK j B []=[]:=rfl
theorem aYD:yK j B ((j,C)::H)=yK j B H:=by simp[yK,del]
theorem aYC{i:Nat}(h:i≠j):yK j B ((i,C)::H)=(i,IX j B C)::yK j B H:=by simp[yK,del,h]
theorem aRM{id s:Nat}{l:List (List AVal)}(h:id≠j):yK j B (cA id s l H)=cA id s l (yK j B H):=by
 cases l with
 |nil=>rfl
 |cons a r=>simp[cA,yK,del,h,IX]
theorem aKO{sz:Nat}{rows:List (List AVal)}:IX j B ⟨sz,true,rows⟩=⟨sz,true,rows⟩:=rfl
theorem aRN{sz:Nat}{rows:List (List AVal)}:IX j B ⟨sz,false,rows⟩=⟨sz,false,rows.map λ row=>row.map (jE j B)⟩:=rfl
theorem aRP{id:Nat}{l:List (List AVal)}(h:id≠j):jE j B (bV id l)=bV id l:=by cases l<;>simp[bV,jE,h]
theorem frz_acc{id:Nat}{l:List (List AVal)}(h:id≠j):VW j B (bV id l)=bV id l:=by cases l<;>simp[bV,VW,jE,h]
theorem z_1{v:Value}:jE j B (.lit v)= .lit v:=rfl
theorem z_2{i r n:Nat}:jE j B (.sl i r n)=if i=j/\r+n<=B.rows.length then .rd B.sz n (λ q=>B.rows.getD (r+q) [])else .sl i r n:=rfl
theorem z_3{i r c:Nat}:jE j B (.ptr i r c)=if i=j/\r<B.rows.length then .rp ((B.rows.getD r []).drop c)else .ptr i r c:=rfl
theorem z_4{s n:Nat}{f:Nat->List AVal}:jE j B (.rd s n f)= .rd s n f:=rfl
theorem z_5{cs:List AVal}:jE j B (.rp cs)= .rp cs:=rfl
theorem y_1{v:Value}:VW j B (.lit v)= .lit v:=rfl
theorem y_2{i r n:Nat}:VW j B (.sl i r n)=jE j B (.sl i r n):=rfl
theorem y_3{i r c:Nat}:VW j B (.ptr i r c)=jE j B (.ptr i r c):=rfl
theorem y_4{s n:Nat}{f:Nat->List AVal}:VW j B (.rd s n f)= .rd s n f:=rfl
theorem y_5{cs:List AVal}:VW j B (.rp cs)= .rp cs:=rfl
theorem y_7{f:FuncId}{cs:List AVal}:VW j B (.fn f cs)= .fn f (cs.map (jE j B)):=rfl
theorem y_8{cs:List AVal}:VW j B (.agg cs)= .agg (cs.map (jE j B)):=rfl
end
attribute [go_sem] aRK aYD aYC aRM aKO aRN aRP frz_acc z_1 z_2 z_3 z_4 z_5 y_1 y_2 y_3 y_4 y_5 y_7 y_8 aYA aEJ List.all_append
attribute [go_sem] aEK aEL aTY aZW aTW aIA aIB aYB aRI aRJ
theorem Mv.pure {kb k:Nat}{fr:Fr}{H:aS}(id:Nat){s:Nat}{p:Bool}{rows:List (List AVal)}(hH:look H id=some ⟨s,p,rows⟩)(hc:(rows.all λ row=>row.all clean)=true):
 Mv kb k fr H k fr ((id,⟨s,true,rows⟩)::del H id):=λ hk=>kU ⟨hk,λ t v h=>⟨v,h,aK v⟩,λ i B hB=>by
 rw[wE]at hB
 split at hB
 · rename_i he
   subst he
   cases hB
   exact⟨_,hH,rfl,λ q row hq=>⟨row,hq,rfl,λ c u v hu hv=>by rw[hu]at hv;cases hv;exact aK _⟩,λ _=> .inr hc⟩
 · exact⟨B,hB,pE B⟩,.inl rfl⟩ hk
theorem dW{L k:Nat}(h:L<k):(∀c,(k+c=L)=False)/\(∀c,(L=k+c)=False)/\((k=L)=False)/\((L=k)=False)/\(∀c,(L<k+c)=True)/\((L<k)=True):=
 ⟨λ c=>by simp;omega,λ c=>by simp;omega,by simp;omega,by simp;omega,λ c=>by simp;omega,by simp[h]⟩
theorem iE{L F:Nat}(h:L≠F):((L=F)=False)/\((F=L)=False):=⟨eq_false h,eq_false (λ e=>h e.symm)⟩
theorem nf:(∀(p:Prop) [Decidable p],(decide p=true)=p)/\(∀(p:Prop) [Decidable p],decide p=false↔¬p)/\(∀(α:Type) [BEq α] [LawfulBEq α] (a b:α),(a !=b)=true↔a≠b)/\(∀(α:Type) [BEq α] [LawfulBEq α] (a b:α),(a==b)=true↔a=b)/\(∀(α:Type) [BEq α] [LawfulBEq α] (a:α),(a !=a)=false)/\(∀(α:Type) [BEq α] [LawfulBEq α] (a:α),(a==a)=true)/\(∀(α:Type) (a b:α),(a≠b)=¬(a=b))/\(∀b:Bool,((!b)=true)=(b=false))/\(∀b:Bool,((!b)=false)=(b=true))/\(∀b:Bool,(!!b)=b)/\(∀(α:Type) [BEq α] [LawfulBEq α] (a b:α),(a !=b)=false↔a=b)/\(∀(α:Type) [BEq α] [LawfulBEq α] (a b:α),(a==b)=false↔a≠b)/\((false=true)=False)/\((true=false)=False)/\(∀a b:Int,¬a<b↔b<=a)/\(∀a b:Int,¬a<=b↔b<a)/\((!true)=false)/\((!false)=true):=
 ⟨λ _ _=>dTt,λ _ _=>dFn,λ _ _ _ _ _=>bne_iff_ne,λ _ _ _ _ _=>beq_iff_eq,λ _ _ _ _=>bne_self_eq_false _,λ _ _ _ _=>beq_self_eq_true _,λ _ _ _=>rfl,λ b=>by cases b<;>simp,λ b=>by cases b<;>simp,Bool.not_not,λ _ _ _ _ _=>bne_eq_false_iff_eq,λ _ _ _ _ _=>beq_eq_false_iff_ne,aO,bM,λ _ _=>Int.not_lt,λ _ _=>Int.not_le,rfl,rfl⟩
theorem QH:(∀(p:Prop) [Decidable p],(decide p=true)=p)/\(∀(p:Prop) [Decidable p],decide p=false↔¬p)/\(∀b:Bool,((!b)=true)=(b=false))/\(∀b:Bool,((!b)=false)=(b=true))/\(∀b:Bool,(!!b)=b)/\((!true)=false)/\((!false)=true):=
 ⟨λ _ _=>dTt,λ _ _=>dFn,λ b=>by cases b<;>simp,λ b=>by cases b<;>simp,Bool.not_not,rfl,rfl⟩
theorem QG:(∀(α:Type) [BEq α] [LawfulBEq α] (a b:α),(a==b)=true↔a=b)/\(∀(α:Type) [BEq α] [LawfulBEq α] (a b:α),(a==b)=false↔a≠b)/\(∀(α:Type) [BEq α] [LawfulBEq α] (a b:α),(a !=b)=true↔a≠b)/\(∀(α:Type) [BEq α] [LawfulBEq α] (a b:α),(a !=b)=false↔a=b)/\(∀(α:Type) (a b:α),(a≠b)=¬(a=b))/\((false=true)=False)/\((true=false)=False):=
 ⟨λ _ _ _ _ _=>beq_iff_eq,λ _ _ _ _ _=>beq_eq_false_iff_ne,λ _ _ _ _ _=>bne_iff_ne,λ _ _ _ _ _=>bne_eq_false_iff_eq,λ _ _ _=>rfl,aO,bM⟩
attribute [go_sem] List.getD_cons_zero List.getD_cons_succ List.length_range aF lA gX bP bQ ne_eq fS List.range_zero Nat.lt_add_right_iff_pos Nat.add_lt_add_iff_left Nat.add_le_add_iff_left Nat.le_add_right Nat.left_eq_add Nat.add_eq_left Nat.add_left_cancel_iff Nat.lt_add_one reduceCtorEq Nat.reduceEqDiff Nat.reduceAdd Nat.reduceSub Nat.reduceMul Nat.reduceLeDiff Nat.reduceLT Nat.reduceBEq Int.reduceLT Int.reduceLE Int.reduceEq Int.reduceToNat Int.reduceNeg Int.reduceBEq Int.reduceAdd Int.reduceSub Int.reduceMul Nat.reduceMod Nat.reduceDiv
end Go.AM
end
