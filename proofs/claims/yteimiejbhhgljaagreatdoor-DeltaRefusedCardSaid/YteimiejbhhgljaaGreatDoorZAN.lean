import Derived.Test.YteimiejbhhgljaaGreatDoorZAM
import Derived.Shelf.Strconv.Itoa3
import Derived.Shelf.Strconv.AtoiAll
import Derived.Shelf.Strings.Split
import Derived.Shelf.Strings.Cut
import Derived.Shelf.Strings.Search3
import Derived.Shelf.Pu.ParseUintPublic10
import Derived.Test.YteimiejbhhgljaaGreatDoorProg
import Derived.Lib.Walk
import Derived.Lib.ItoaMem
import Derived.WalkKit
import Derived.BigCall
import Derived.BigGuard
import Derived.KernelRfl
import Derived.Lib.ParseIntB
import Derived.HandedShaped
import Derived.Stop.LaidErr
import Derived.LaidSub
import Derived.Shelf.Vars
import Derived.Test.YteimiejbhhgljaaGreatDoorRows
import Derived.ChangeMaps5
import Derived.Lay
import Derived.MakeChecks
import Derived.JoinedOf
import Derived.Carry
set_option linter.unusedVariables false
set_option linter.defProp false
set_option linter.unusedSimpArgs false
set_option maxHeartbeats 0
set_option maxRecDepth 100000
open Go.AM.AVal renaming lit->aD
open Array renaming ext->aJX,ext'->bJL,getD_eq_getD_getElem?->aM,getElem?_append_left->fH,getElem?_eq_getElem->aW,getElem?_eq_some_iff->dK,replicate->xL,size_replicate->aFC
open Bool renaming and_eq_true->aO,eq_false_iff->dY,eq_iff_iff->eY,false->aF,false_eq_true->bP,false_or->BP,not_eq_true'->dV,true->aB
open Int renaming natCast_nonneg->tC,toNat_of_nonneg->gY
open Go.IntKind renaming i64->aH,u32->aT,u64->aI,u8->bM
open List renaming all_eq_true->aY,getD->oZ,getD_eq_getElem?_getD->aU,getElem?_map->aV,getElem_mem->zY,map->tB,map_append->aQ,map_cons->bN,map_map->kT,map_nil->bV,mem_cons->fO,mem_cons_of_mem->dZ,range->aR
open Nat renaming add_assoc->gM,add_sub_cancel->a7O,add_sub_cancel_left->kJ,beq->tY,eq_of_beq_eq_true->cN,le_of_ble_eq_true->rU,le_refl->aJ,le_succ->mG,lt_irrefl->oX,lt_succ_self->cY,mul_one->JK,sub_self->TT,zero_le->bF
open Option renaming bind_eq_some_iff->cJ,bind_some->bVF,isSome_none->sZ,map_eq_some_iff->aK,none->aC,some->aA
open Or renaming inr->dP
open Go.Result renaming andThen_ok->bJ
open Go.Sem renaming run_bind->bS,run_pure->dO
open Go.Proofs.Tryz renaming f13->aNX,f7->lI,prog->aG,underlying3->aNW,underlying5->gX,underlying9->aNV
open Go.Value renaming bool->bC,int->aE,slice->aP,string->dN
section
namespace Go.Proofs
open Go.Shelf
def Tryz.layItoa_ren:Go.Shelf.Ren:=⟨λ |171=>216|243=>258|246=>290|283=>293|284=>294|285=>295|286=>296|129=>207|317=>311|318=>312|319=>313|320=>314|337=>319|338=>320|n=>n,λ |3=>3|9=>9|2=>2|4=>4|171=>333|0=>0|53=>22|37=>238|5=>5|173=>335|212=>351|51=>50|20=>20|213=>352|46=>189|232=>363|233=>364|n=>n,λ |17=>3|18=>6|19=>7|n=>n⟩
def Tryz.layItoa:Go.Proofs.LaysM.n171 aG Tryz.layItoa_ren:=by repeat' first|kernel_rfl|constructor|intro _
def Tryz.layAtoi_ren:Go.Shelf.Ren:=⟨λ |172=>150|244=>220|245=>221|247=>263|279=>264|280=>265|281=>266|282=>267|287=>222|316=>297|171=>216|205=>298|321=>268|322=>269|243=>258|246=>290|283=>293|284=>294|285=>295|286=>296|129=>207|317=>311|318=>312|319=>313|320=>314|337=>319|338=>320|n=>n,λ |9=>9|3=>3|75=>216|76=>217|4=>4|5=>5|167=>313|37=>238|0=>0|85=>314|2=>2|168=>316|53=>22|175=>219|46=>189|210=>339|127=>332|145=>355|143=>353|21=>21|171=>333|173=>335|212=>351|51=>50|20=>20|213=>352|232=>363|233=>364|80=>312|n=>n,λ |15=>0|16=>1|17=>3|18=>6|19=>7|n=>n⟩
def Tryz.layAtoi:Go.Proofs.LaysC.n172 aG Tryz.layAtoi_ren:=by repeat' first|kernel_rfl|constructor|intro _
def Tryz.laySplit_ren:Go.Shelf.Ren:=⟨λ |146=>144|221=>215|268=>255|138=>256|143=>257|195=>286|197=>287|218=>288|219=>289|260=>304|217=>305|225=>306|224=>307|267=>308|266=>317|314=>318|n=>n,λ |9=>9|31=>37|3=>3|4=>4|0=>0|105=>328|21=>21|5=>5|46=>189|119=>357|139=>360|138=>359|146=>361|51=>50|n=>n,λ |1=>2|3=>4|4=>5|n=>n⟩
def Tryz.laySplit:Go.Proofs.Lays.n146 aG Tryz.laySplit_ren:=by repeat' first|kernel_rfl|constructor|intro _
def Tryz.layCut_ren:Go.Shelf.Ren:=⟨λ |145=>224|220=>270|219=>289|217=>305|225=>306|224=>307|267=>308|266=>317|314=>318|n=>n,λ |9=>9|4=>4|59=>277|3=>3|5=>5|46=>189|146=>361|51=>50|n=>n,λ |1=>2|n=>n⟩
def Tryz.layCut:Go.Proofs.Lays.n145 aG Tryz.layCut_ren:=by repeat' first|kernel_rfl|constructor|intro _
def Tryz.layContains_ren:Go.Shelf.Ren:=⟨λ |144=>225|143=>257|219=>289|217=>305|225=>306|224=>307|267=>308|266=>317|314=>318|n=>n,λ |9=>9|4=>4|3=>3|5=>5|46=>189|146=>361|51=>50|n=>n,λ |1=>2|n=>n⟩
def Tryz.layContains:Go.Proofs.Lays.n144 aG Tryz.layContains_ren:=by repeat' first|kernel_rfl|constructor|intro _
def Tryz.layPu_ren:Go.Shelf.Ren:=⟨λ |14=>152|16=>222|17=>221|19=>268|20=>269|21=>264|22=>265|23=>266|24=>267|25=>297|27=>216|26=>298|28=>258|29=>290|30=>293|31=>294|32=>295|33=>296|35=>207|34=>311|36=>312|37=>313|38=>314|39=>319|40=>320|n=>n,λ |9=>9|3=>3|22=>22|24=>216|25=>219|4=>4|34=>313|5=>5|36=>189|37=>238|0=>0|39=>316|21=>21|44=>339|47=>332|50=>355|48=>353|2=>2|52=>333|55=>335|59=>351|60=>50|20=>20|61=>352|65=>363|66=>364|67=>312|n=>n,λ |0=>0|1=>1|2=>3|3=>6|4=>7|n=>n⟩
def Tryz.layPu:Go.Proofs.LaysPu.n14 aG Tryz.layPu_ren:=by repeat' first|kernel_rfl|constructor|intro _
end Go.Proofs
end
section
namespace Go.AM
open Go
variable{all ops:Array Oper}{B:Blk}{n:Int}{q:IntKind}{e:Int×Value×Nat}{args:List AVal}{r:List Oper}{c k':Nat}{m x:Operand}{P:Program}{H':aS}{l:mR}
structure Xt where
 op:Oper->(Operand->Option AVal)->(Nat->Option Blk)->Nat->Option Out
 nx:Oper->(Operand->Option AVal)->(Nat->Option Blk)->Nat->Option Out
 tab:FuncId->Nat->List AVal->aS->Option (Nat×AVal×aS)
structure XtOk (P:Program) (Γ:dW) (x:Xt):Prop where
 op:∀o ev get k out,x.op o ev get k=aA out->Good P Γ o ev get k out
 nx:∀o ev get k out,x.nx o ev get k=aA out->∃rds,GoodN P Γ o ev get k rds (λ out'=>out'=out)
 tab:∀f k args H k' v H',x.tab f k args H=aA (k',v,H')->Tr P Γ f k args H (λ k1 r1 H1=>k1=k'/\r1=v/\H1=H')
def GH(x:Xt)(e:Ev)(P:Program)(Γ:dW)(all:Array Oper):List Oper->Nat->Fr->aS->Option (List Foot×Nat×Fr×aS)
 |[],k,fr,H=>aA ([],k,fr,H)
 | o::r,k,fr,H=>match nJ all fr o with
   |none=>aC
   | some aF=>match GH x e P Γ all r k (jM fr o.dst (.lit undef)) H with
     |none=>aC
     |some (tr,y)=>aA (⟨[],[],k,k⟩::tr,y)
   | some aB=>match(match wF o with|true=>YW e P o (lN Γ fr) H k|false=>match x.op o (lN Γ fr) (look H) k with|some out=>aA out|none=>CH P Γ o (lN Γ fr) (look H) k)with
     |none=>aC
     | some out=>match GH x e P Γ all r out.k (jM fr o.dst out.v) (mE H out.upd)with
       |none=>aC
       |some (tr,y)=>aA (⟨out.rds,out.upd.map (·.1),k,out.k⟩::tr,y)
def bAV(x:Xt)(Γ:dW)(ops:Array Oper)(d:Bool)(k:Nat)(fr:Fr)(H:aS):Option (Oper×List Oper×Out):=
 match d,ops.toList with
 | false,o::r=>match o.guard,x.nx o (lN Γ fr) (look H) k with
   |none,aA out=>aA (o,r,out)
   |_,_=>aC
 |_,_=>aC
def fV(x:Xt)(e:Ev)(P:Program)(Γ:dW)(nt:Nat):Code->Nat->Fr->aS->Option (Exit×Nat×Fr×aS)
 | .skip,k,fr,H=>aA (.normal,k,fr,H)
 | .ret,k,fr,H=>aA (.ret,k,fr,H)
 | .exit id,k,fr,H=>aA (.exit id,k,fr,H)
 | .seq a b,k,fr,H=>match fV x e P Γ nt a k fr H with
   |some (.normal,k1,fr1,H1)=>fV x e P Γ nt b k1 fr1 H1
   |r=>r
 | .cond c a b,k,fr,H=>match lN Γ fr c with
   |some (.lit (.bool aB))=>fV x e P Γ nt a k fr H
   |some (.lit (.bool aF))=>fV x e P Γ nt b k fr H
   |_=>aC
 | .block id c,k,fr,H=>match fV x e P Γ nt c k fr H with
   | some (.exit id',k1,fr1,H1)=>match tY id' id with
     |true=>aA (.normal,k1,fr1,H1)
     |false=>aA (.exit id',k1,fr1,H1)
   |r=>r
 | .loop c,k,fr,H=>match fV x e P Γ nt c k fr H with
   |some (.normal,k1,fr1,H1)=>e.loop nt c k1 fr1 H1
   |r=>r
 | .region _ ops d,k,fr,H=>match nL nt ops with
   |false=>aC
   | true=>match bAV x Γ ops d k fr H with
     | some (o,r,out)=>match GH x e P Γ ops r k (jM fr o.dst out.v) (mE H out.upd)with
       |none=>aC
       |some (_,k1,fr1,H1)=>aA (.normal,k1,fr1,H1)
     | none=>match GH x e P Γ ops ops.toList k fr H with
       |none=>aC
       | some (tr,k1,fr1,H1)=>match(!d)||(P.follows .mixedOrders&&lE ops tr)with
         |true=>aA (.normal,k1,fr1,H1)
         |false=>aC
 |_,_,_,_=>aC
def YV(x:Xt)(e:Ev)(P:Program)(Γ:dW)(f:FuncId)(k:Nat)(args:List AVal)(H:aS):Option (Nat×AVal×aS):=
 match x.tab f k args H with
 |some r=>aA r
 | none=>match P.funcs[f]? with
   |none=>aC
   | some fn=>match fn.body with
     |none=>aC
     | some c=>match Nat.ble args.length fn.ntmps with
       |false=>aC
       | true=>match fV x e P Γ fn.ntmps c k (tU 0 args) H with
         | some (.normal,k1,fr1,H1)=>match MS P fn fr1 H1 with
           |some r=>aA (k1,r,xH (qN H1 100000 (nm2 r++aCJ k H1) []) H1)
           |none=>aC
         | some (.ret,k1,fr1,H1)=>match MS P fn fr1 H1 with
           |some r=>aA (k1,r,xH (qN H1 100000 (nm2 r++aCJ k H1) []) H1)
           |none=>aC
         |_=>aC
def YU(x:Xt)(e:Ev)(P:Program)(Γ:dW)(nt:Nat)(c:Code)(k:Nat)(fr:Fr)(H:aS):Option (Exit×Nat×Fr×aS):=
 match fV x e P Γ nt c k fr H with
 |some (.normal,k1,fr1,H1)=>e.loop nt c k1 fr1 H1
 |r=>r
def VS(x:Xt)(P:Program)(Γ:dW):Nat->Ev
 |0=>⟨λ _ _ _ _=>aC,λ _ _ _ _ _=>aC⟩
 |n+1=>⟨λ f k args H=>YV x (VS x P Γ n) P Γ f k args H,λ nt c k fr H=>YU x (VS x P Γ n) P Γ nt c k fr H⟩
section
variable{P:Program}{Γ:dW}{nt kb:Nat}{k:Nat}{fr:Fr}{H:aS}{e:Ev}{x:Xt}
def GG(hx:XtOk P Γ x)(he:EvOk P Γ e):∀(l:List Oper) (k:Nat) (fr:Fr) (H:aS) (tr:List Foot) (k':Nat) (fr':Fr) (H':aS) (K:List Foot->Nat->Fr->aS->Prop),GH x e P Γ all l k fr H=aA (tr,k',fr',H')->K tr k' fr' H'->Run P Γ all l k fr H K:=by
 intro l
 induction l with
 |nil=>intro k fr H tr k' fr' H' K h hK;simp only[GH]at h;cases h;exact hK
 |cons o r ih=>
  intro k fr H tr k' fr' H' K h hK;simp only[GH]at h;split at h;.cases h
  .rename_i hg;split at h;.cases h
   rename_i tr1 y hy;obtain⟨k1,fr1,H1⟩:=y;cases h;exact .inl ⟨hg,ih _ _ _ _ _ _ _ _ hy hK⟩
  rename_i hg;split at h;.cases h
  rename_i out ho;split at h;.cases h
  rename_i tr1 y hy;obtain⟨k1,fr1,H1⟩:=y;cases h;refine .inr ⟨hg,out,?_,ih _ _ _ _ _ _ _ _ hy hK⟩;split at ho;.exact LZ he ho
  split at ho;.rename_i ho';cases ho;exact hx.op _ _ _ _ _ ho'
  exact tV ho
def aPV{d:Bool}{o:Oper}{out:Out}(h:bAV x Γ ops d k fr H=aA (o,r,out)):d=aF/\ops.toList=o::r/\o.guard=aC/\x.nx o (lN Γ fr) (look H) k=aA out:=by
 unfold bAV at h;split at h
 .rename_i o' r' hl;split at h;.rename_i h1 h2;cases h;exact⟨rfl,hl,h1,h2⟩
  cases h
 cases h
def AU(hX:XtOk P Γ x)(he:EvOk P Γ e):∀(c:Code) (k:Nat) (fr:Fr) (H:aS) (ex:Exit) (k':Nat) (fr':Fr) (H':aS),fV x e P Γ nt c k fr H=aA (ex,k',fr',H')->W P Γ nt kb c (isQ ex k' fr' H') k fr H:=by
 intro c
 induction c with
 |skip=>intro k fr H ex k' fr' H' h;simp only[fV]at h;cases h;exact aJL ⟨rfl,rfl,rfl,rfl⟩
 |ret=>intro k fr H ex k' fr' H' h;simp only[fV]at h;cases h;exact a0Q ⟨rfl,rfl,rfl,rfl⟩
 |exit id=>intro k fr H ex k' fr' H' h;simp only[fV]at h;cases h;exact aJM ⟨rfl,rfl,rfl,rfl⟩
 |seq a b iha ihb=>
  intro k fr H ex k' fr' H' h;simp only[fV]at h
  cases hx:fV x e P Γ nt a k fr H with
  |none=>rw[hx]at h;cases h
  |some r=>
   obtain⟨e1,k1,fr1,H1⟩:=r;rw[hx]at h;refine a0P (mD (iha _ _ _ _ _ _ _ hx) ?_);rintro e2 k2 fr2 H2 ⟨rfl,rfl,rfl,rfl⟩
   cases e2 with
   |normal=>exact ihb _ _ _ _ _ _ _ h
   |_=>cases h;exact⟨rfl,rfl,rfl,rfl⟩
 |cond c a b iha ihb=>
  intro k fr H ex k' fr' H' h;simp only[fV]at h;split at h;.rename_i hc;exact SK aB hc (λ _=>iha _ _ _ _ _ _ _ h) (λ hh=>by cases hh)
  .rename_i hc;exact SK aF hc (λ hh=>by cases hh) (λ _=>ihb _ _ _ _ _ _ _ h)
  cases h
 |block id c ih=>
  intro k fr H ex k' fr' H' h;simp only[fV]at h
  cases hx:fV x e P Γ nt c k fr H with
  |none=>rw[hx]at h;cases h
  |some r=>
   obtain⟨e1,k1,fr1,H1⟩:=r;rw[hx]at h;refine ZW (mD (ih _ _ _ _ _ _ _ hx) ?_);rintro e2 k2 fr2 H2 ⟨rfl,rfl,rfl,rfl⟩
   cases e2 with
   |exit id'=>
    simp only[GN];by_cases hid:id'=id;.subst hid;simp only[Nat.beq_refl]at h;cases h;rw[iP rfl];exact⟨rfl,rfl,rfl,rfl⟩
    have hb:tY id' id=aF:=by rw[dY];exact λ hb=>hid (cN hb)
    simp only[hb]at h;cases h;rw[iN hid];exact⟨rfl,rfl,rfl,rfl⟩
   |_=>cases h;exact⟨rfl,rfl,rfl,rfl⟩
 |loop c ih=>
  intro k fr H ex k' fr' H' h;simp only[fV]at h
  cases hx:fV x e P Γ nt c k fr H with
  |none=>rw[hx]at h;cases h
  |some r=>
   obtain⟨e1,k1,fr1,H1⟩:=r;rw[hx]at h
   cases e1 with
   |normal=>obtain⟨n,hn⟩:=he.loop _ _ _ _ _ _ _ _ _ h kb;refine JH (n+1) (mD (ih _ _ _ _ _ _ _ hx) ?_);rintro e2 k2 fr2 H2 ⟨rfl,rfl,rfl,rfl⟩;exact hn
   |_=>cases h;refine JH 1 (mD (ih _ _ _ _ _ _ _ hx) ?_);rintro e2 k2 fr2 H2 ⟨rfl,rfl,rfl,rfl⟩;exact⟨rfl,rfl,rfl,rfl⟩
 |region id ops d=>
  intro k fr H ex k' fr' H' h;simp only[fV]at h;split at h;.cases h
  rename_i hd;split at h
  .rename_i o r out hnx;obtain⟨rfl,h1,h2,h3⟩:=aPV hnx;obtain⟨rds,h4⟩:=hX.nx _ _ _ _ _ h3;split at h;.cases h
   rename_i tr k1 fr1 H1 hx;cases h;refine WN h1 hd h2 h4 λ out' ho'=>?_;subst ho';exact GG hX he _ _ _ _ _ _ _ _ _ hx (λ _=>⟨rfl,rfl,rfl,rfl⟩)
  split at h;.cases h
  rename_i tr k1 fr1 H1 hx;split at h
  .rename_i hdr;cases h
   cases d with
   |false=>exact SJ hd (GG hX he _ _ _ _ _ _ _ _ _ hx (λ _=>⟨rfl,rfl,rfl,rfl⟩))
   |true=>simp only[Bool.not_true,BP,aO]at hdr;exact aJN hdr.1 hd (GG hX he _ _ _ _ _ _ _ _ _ hx ⟨hdr.2,λ _=>⟨rfl,rfl,rfl,rfl⟩⟩)
  cases h
 |_=>intro k fr H ex k' fr' H' h;simp[fV]at h
def aHW(hX:XtOk P Γ x)(he:EvOk P Γ e){c:Code}{ex:Exit}{fr':Fr}(h:YU x e P Γ nt c k fr H=aA (ex,k',fr',H')):∃n,sU P Γ nt kb c (isQ ex k' fr' H') n k fr H:=by
 unfold YU at h
 cases hx:fV x e P Γ nt c k fr H with
 |none=>rw[hx]at h;cases h
 |some r=>
  obtain⟨e1,k1,fr1,H1⟩:=r;rw[hx]at h
  cases e1 with
  |normal=>obtain⟨n,hn⟩:=he.loop _ _ _ _ _ _ _ _ _ h kb;refine⟨n+1,mD (AU hX he c _ _ _ _ _ _ _ hx) ?_⟩;rintro e2 k2 fr2 H2 ⟨rfl,rfl,rfl,rfl⟩;exact hn
  |_=>cases h;refine⟨1,mD (AU hX he c _ _ _ _ _ _ _ hx) ?_⟩;rintro e2 k2 fr2 H2 ⟨rfl,rfl,rfl,rfl⟩;exact⟨rfl,rfl,rfl,rfl⟩
def aHY(hX:XtOk P Γ x)(he:EvOk P Γ e){f:FuncId}{v:AVal}(h:YV x e P Γ f k args H=aA (k',v,H')):Tr P Γ f k args H (λ k1 r1 H1=>k1=k'/\r1=v/\H1=H'):=by
 unfold YV at h;split at h;.rename_i r hr;cases h;exact hX.tab _ _ _ _ _ _ _ hr
 split at h;.cases h
 rename_i fn hfn;split at h;.cases h
 rename_i c hc;split at h;.cases h
 rename_i hn
 have main:∀ex k1 fr1 H1 r,(ex= .normal\/ex= .ret)->fV x e P Γ fn.ntmps c k (tU 0 args) H=aA (ex,k1,fr1,H1)->MS P fn fr1 H1=aA r→
  aA (k1,r,xH (qN H1 100000 (nm2 r++aCJ k H1) []) H1)=aA (k',v,H')->Tr P Γ f k args H (λ k1 r1 H1=>k1=k'/\r1=v/\H1=H'):=by
  intro ex k1 fr1 H1 r hex hev hr hq
  cases hq
  refine(OO (Q:=λ k2 r2 H2=>k2=k'/\r2=v/\H2=H1) hfn hc (rU hn) (mD (AU hX he c _ _ _ _ _ _ _ hev) ?_)).weaken ?_
  · rintro e2 k2 fr2 H2 ⟨rfl,rfl,rfl,rfl⟩
    rcases hex with rfl|rfl
    · exact⟨_,hr,rfl,rfl,rfl⟩
    · exact⟨_,hr,rfl,rfl,rfl⟩
  · rintro k2 r2 H2 hk ⟨rfl,rfl,rfl⟩
    exact⟨_,_,_,hk,bL _,λ id B hB=>⟨B,yV _ _ _ _ hB,nN B⟩,.inl rfl,rfl,rfl,rfl⟩
 split at h
 .rename_i k1 fr1 H1 hev;split at h;.rename_i r hr;exact main _ _ _ _ _ (.inl rfl) hev hr h
  cases h
 .rename_i k1 fr1 H1 hev;split at h;.rename_i r hr;exact main _ _ _ _ _ (.inr rfl) hev hr h
  cases h
 cases h
def aHV(hX:XtOk P Γ x):∀n,EvOk P Γ (VS x P Γ n)
 |0=>⟨λ _ _ _ _ _ _ _ h=>(by simp[VS]at h),λ _ _ _ _ _ _ _ _ _ h=>(by simp[VS]at h)⟩
 |n+1=>⟨λ _ _ _ _ _ _ _ h=>aHY hX (aHV hX n) h,λ _ _ _ _ _ _ _ _ _ h _=>aHW hX (aHV hX n) h⟩
end
def bCK(q:IntKind):List AVal->Option (Int×Value×Nat)
 |[.lit (.int q' n),.lit v,.lit (.int .i64 s)]=>if q'=q/\0<=s then aA (n,v,s.toNat)else aC
 |_=>aC
def a5W{r:List AVal}(h:bCK q r=aA e):r=aQX q e:=by
 unfold bCK at h;split at h
 .split at h;.rename_i hc;cases h;obtain⟨rfl,h2⟩:=hc;simp[aQX,gY h2]
  cases h
 cases h
def aND(q:IntKind):List (List AVal)->Option mR
 |[]=>aA []
 | r::l=>match bCK q r,aND q l with
   |some e,aA m=>aA (e::m)
   |_,_=>aC
def aDV{q:IntKind}:∀ {rs:List (List AVal)} {l:mR},aND q rs=aA l->rs=l.map (aQX q)
 |[],l,h=>by cases h;rfl
 |r::rs,l,h=>by
  simp only[aND]at h;split at h;.rename_i e m h1 h2;cases h;rw[bN,<-a5W h1,<-aDV h2]
  cases h
def aYN(q:IntKind)(B:Blk):Option (mR×Nat):=
 match B.rows with
 | [.lit (.int .i64 c),.lit (.int .i64 n),.lit (.int .i64 m)]::rs=>match aND q rs with
   |some l=>if tY B.sz 3=aB/\B.pure=aB/\0<=c/\n=l.length/\m=1 then aA (l,c.toNat)else aC
   |none=>aC
 |_=>aC
def ZE(h:aYN q B=aA (l,c)):B=nO q l c:=by
 unfold aYN at h;split at h
 .rename_i c' n m rs hr;split at h
  .rename_i l' hl;split at h;.rename_i hc;cases h;obtain⟨h1,h2,h3,h4,h5⟩:=hc;cases B;simp only at hr h1 h2;rw[hr,h2,cN h1,aDV hl];simp[nO,gY h3,h4,h5]
   cases h
  cases h
 cases h
def QC(P:Program)(t:TypeId):Option (TypeId×IntKind×Value):=
 match P.underlying t with
 | some (.map kt et)=>match P.underlying kt,(P.info? et).bind (·.zero)with
   |some (.int q),aA z=>aA (kt,q,z)
   |_,_=>aC
 |_=>aC
def HW{t kt:TypeId}{z:Value}(h:QC P t=aA (kt,q,z)):∃et,MapT P t kt et q z:=by
 unfold QC at h;split at h
 .rename_i kt' et h1;split at h;.rename_i q' z' h2 h3;cases h;exact⟨et,h1,h2,h3⟩
  cases h
 cases h
def QH(q:IntKind)(n:Int)(l:mR):Bool:=wfK q n&&l.all (λ e=>wfK q e.1)
def ukB:List Int->Bool
 |[]=>aB
 |a::l=>l.all (λ b=> !(b==a))&&ukB l
def aFI:∀ {l:List Int},ukB l=aB->l.Nodup
 |[],_=>List.nodup_nil
 |a::l,h=>by simp only[ukB,aO,aY,dV,beq_eq_false_iff_ne]at h;exact List.nodup_cons.2 ⟨λ hm=>h.1 a hm rfl,aFI h.2⟩
def aCS(ev:Operand->Option AVal)(q:IntKind)(x:Operand):Option Int:=
 match ev x with
 |some (.lit (.int q' n))=>if q'=q then aA n else aC
 |_=>aC
def QI{ev:Operand->Option AVal}(h:aCS ev q x=aA n):ev x=aA (.lit (.int q n)):=by
 unfold aCS at h;split at h
 .rename_i h1;split at h;.rename_i h2;cases h;rw[<-h2];exact h1
  cases h
 cases h
def UU(ev:Operand->Option AVal)(get:Nat->Option Blk)(q:IntKind)(m:Operand):Option (Nat×mR×Nat):=
 match ev m with
 | some (.mp id)=>match get id with
   | some B=>match aYN q B with
     |some (l,c)=>aA (id,l,c)
     |none=>aC
   |none=>aC
 |_=>aC
def HX{ev:Operand->Option AVal}{get:Nat->Option Blk}{id:Nat}(h:UU ev get q m=aA (id,l,c)):ev m=aA (.mp id)/\get id=aA (nO q l c):=by
 unfold UU at h;split at h
 .rename_i i h1;split at h
  .rename_i B h2;split at h;.rename_i h3;cases h;exact⟨h1,by rw[h2,ZE h3]⟩
   cases h
  cases h
 cases h
def a5V(B:Blk):Option (Nat×Nat×List Nat×Nat):=
 match B.rows with
 | [.lit (.int .i64 c),.lit (.int .i64 n),.lit (.int .i64 m)]::[.mp mid,.lit (.int .i64 s),.lit (.int .i64 z)]::rs=>
   match rs with
   |[]=>if tY B.sz 3=aB/\B.pure=aF/\0<=c/\n=0/\m=2/\0<=s/\z=0 then aA (mid,s.toNat,[],c.toNat)else aC
   |[[.lit (.int .i64 y),.lit (.int .i64 z1),.lit (.int .i64 z2)]]=>if tY B.sz 3=aB/\B.pure=aF/\0<=c/\n=1/\m=2/\0<=s/\z=0/\0<=y/\z1=0/\z2=0 then aA (mid,s.toNat,[y.toNat],c.toNat)else aC
   |_=>aC
 |_=>aC
def aNC{mid s:Nat}{l:List Nat}(h:a5V B=aA (mid,s,l,c)):B=lB mid s l c:=by
 unfold a5V at h;split at h
 .rename_i c' n m mid' s' z rs hr;split at h
  .split at h;.rename_i hc;cases h;obtain⟨h1,h2,h3,h4,h5,h6,h7⟩:=hc;cases B;simp only at hr h1 h2;rw[hr,h2,cN h1];simp[lB,gY h3,gY h6,h4,h5,h7]
   cases h
  .split at h;.rename_i hc;cases h;obtain⟨h1,h2,h3,h4,h5,h6,h7,h8,h9,h10⟩:=hc;cases B;simp only at hr h1 h2;rw[hr,h2,cN h1];simp[lB,gY h3,gY h6,gY h8,h4,h5,h7,h9,h10]
   cases h
  cases h
 cases h
def aVT(P:Program)(o:Oper)(ev:Operand->Option AVal)(get:Nat->Option Blk)(k:Nat):Option Out:=
 match o.op with
 | .makeMap t aC=>match QC P t with
   |some (_,q,_)=>aA ⟨.mp k,k+1,[(k,aA (nO q [] 0))],[]⟩
   |none=>aC
 | .lookup t m x aB=>match QC P t with
   | some (_,q,z)=>match aCS ev q x,UU ev get q m with
     | some n,aA (id,l,_)=>match QH q n l&&ukB (l.map (·.1))with
       |true=>aA ⟨.tup [unl ((BV l n).getD z),.lit (.bool (BV l n).isSome)],k,[],[id]⟩
       |false=>aC
     |_,_=>aC
   |none=>aC
 | .mapUpdate t m x y=>match QC P t with
   | some (_,q,_)=>match aCS ev q x,UU ev get q m,(ev y).bind WM with
     | some n,aA (id,l,c),aA v=>match QH q n l&&l.all (λ e=> !(e.1==n))with
       |true=>aA ⟨.junk,k,[(id,aA (nO q (l++[(n,v,c)]) (c+1)))],[id]⟩
       |false=>aC
     |_,_,_=>aC
   |none=>aC
 | .call {callee:= .builtin .delete,args:=args,argTypes:=ty}=>match args.toList,ty.toList with
   | [m,x],[t,kt]=>match QC P t with
     | some (kt',q,_)=>match aCS ev q x,UU ev get q m with
       | some n,aA (id,l,c)=>match tY kt kt'&&(QH q n l&&ukB (l.map (·.1)))with
         |true=>aA ⟨.lit (.tuple #[]),k,[(id,aA (nO q (RJ l n) c))],[id]⟩
         |false=>aC
       |_,_=>aC
     |none=>aC
   |_,_=>aC
 | .range t m=>match QC P t with
   | some (_,q,_)=>match UU ev get q m with
     |some (id,_,c)=>aA ⟨.it k,k+1,[(k,aA (lB id c [] c))],[id]⟩
     |none=>aC
   |none=>aC
 | .entry x=>match ev x with
   | some (.it it)=>match(get it).bind a5V with
     | some (mid,_,[s],c0)=>match(get mid).bind (aYN .i64)with
       | some ([e],c)=>match tY c c0&&tY e.2.2 s with
         |true=>aA ⟨.tup [.lit (.int .i64 e.1),.lit e.2.1],k,[],[it,mid]⟩
         |false=>aC
       |_=>aC
     |_=>aC
   |_=>aC
 |_=>aC
def KL(h:QH q n l=aB):wfK q n=aB/\∀e∈l,wfK q e.1=aB:=by simpa [QH,aY]using h
section
variable{P:Program}{Γ:dW}{o:Oper}{ev:Operand->Option AVal}{get:Nat->Option Blk}{k:Nat}
def aGT{out:Out}(h:aVT P o ev get k=aA out):Good P Γ o ev get k out:=by
 unfold aVT at h;split at h
 .rename_i t ho;split at h;.rename_i kt q z ht;cases h;exact QD q ho
  cases h
 .rename_i t m x ho;split at h
  .rename_i kt q z ht;obtain⟨et,hT⟩:=HW ht;split at h
   .rename_i n id l c h1 h2;split at h
    .rename_i hc;cases h;simp only[aO]at hc;obtain⟨h3,h4⟩:=HX h2;obtain⟨h5,h6⟩:=KL hc.1;refine(UY ho hT h3 (QI h1) h4 h6 h5 (aFI hc.2)).outV λ w G ρ A cv hV=>?_
     cases hV with
     |tup hl hv=>
      refine .tup hl λ j v hj=>?_
      match j,hj with
      | 0,hj=>
        cases hj
        have:=hv 0 _ rfl
        generalize Array.getD _ 0 undef=cv at this⊢
        cases this
        exact a9D _
      |1,hj=>cases hj;exact hv 1 _ rfl
      |j+2,hj=>simp at hj
    cases h
   cases h
  cases h
 .rename_i t m x y ho;split at h
  .rename_i kt q z ht;obtain⟨et,hT⟩:=HW ht;split at h
   .rename_i n id l c v h1 h2 h3;split at h;.rename_i hc;cases h;simp only[aO,aY,dV,beq_eq_false_iff_ne]at hc;obtain⟨h4,h5⟩:=HX h2;obtain⟨h6,h7⟩:=KL hc.1;obtain⟨av,h8,h9⟩:=cJ.1 h3;exact aBK ho hT h4 (QI h1) h8 h9 h5 h7 h6 hc.2
    cases h
   cases h
  cases h
 .rename_i args ty ho;split at h
  .rename_i m x t kt ha hty;split at h
   .rename_i kt' q z ht;obtain⟨et,hT⟩:=HW ht;split at h
    .rename_i n id l c h1 h2;split at h;.rename_i hc;cases h;simp only[aO]at hc;obtain⟨h3,h4⟩:=HX h2;obtain⟨h5,h6⟩:=KL hc.2.1;obtain rfl:=cN hc.1;obtain rfl:args= #[m,x]:=bJL ha;obtain rfl:ty= #[t,kt]:=bJL hty;exact aDT ho hT h3 (QI h1) h4 h6 h5 (aFI hc.2.2)
     cases h
    cases h
   cases h
  cases h
 .rename_i t m ho;split at h
  .rename_i kt q z ht;obtain⟨et,hT⟩:=HW ht;split at h;.rename_i id l c h2;cases h;obtain⟨h3,h4⟩:=HX h2;exact PO ho hT h3 h4
   cases h
  cases h
 .rename_i x ho;split at h
  .rename_i it hx;split at h
   .rename_i mid since s c0 h1;obtain⟨B,h2,h3⟩:=cJ.1 h1;obtain rfl:=aNC h3;split at h
    .rename_i e c h4;obtain⟨B',h5,h6⟩:=cJ.1 h4;obtain rfl:=ZE h6;split at h;.rename_i hc;cases h;simp only[aO]at hc;obtain rfl:=cN hc.1;obtain rfl:=cN hc.2;exact RB (seen:=[]) ho hx h2 h5 sS sS
     cases h
    cases h
   cases h
  cases h
 cases h
def aVU(o:Oper)(ev:Operand->Option AVal)(get:Nat->Option Blk)(k:Nat):Option Out:=
 match o.op with
 | .next x aF=>match ev x with
   | some (.it it)=>match(get it).bind a5V with
     | some (mid,since,seen,c0)=>match(get mid).bind (aYN .i64)with
       | some (l,clock)=>match l.all (λ e=>Nat.blt e.2.2 since)&&Nat.ble since c0 with
         | true=>match mJ l seen with
           |[]=>aA ⟨.tup [.lit (.bool aF)],k,[],[it,mid]⟩
           |[e]=>aA ⟨.tup [.lit (.bool aB),.lit (.int .i64 e.1),.lit e.2.1],k,[(it,aA (lB mid since (seen++[e.2.2]) clock))],[it,mid]⟩
           |_=>aC
         |false=>aC
       |none=>aC
     |none=>aC
   |_=>aC
 |_=>aC
def aGU{out:Out}(h:aVU o ev get k=aA out):∃rds,GoodN P Γ o ev get k rds (λ out'=>out'=out):=by
 unfold aVU at h;split at h
 .rename_i x ho;split at h
  .rename_i it hx;split at h
   .rename_i mid since seen c0 h1;obtain⟨B,h2,h3⟩:=cJ.1 h1;obtain rfl:=aNC h3;split at h
    .rename_i l clock h4;obtain⟨B',h5,h6⟩:=cJ.1 h4;obtain rfl:=ZE h6;split at h
     .rename_i hc;simp only[aO,aY,Nat.blt_eq]at hc;have key:=UQ (P:=P) (Γ:=Γ) (k:=k) ho hx h2 h5 hc.1 (rU hc.2);refine⟨_,⟨λ w G ρ H A a hr hA hrd hop next Q hN=>key.ok w G ρ H A a hr hA hrd hop next Q λ out' ho'=>hN out' ?_,key.rds,λ out' ho'=>?_⟩⟩
      .split at h
       .rename_i ht;cases h;rcases ho' with⟨_,rfl⟩|⟨e,he,rfl⟩;.rfl
        rw[ht]at he;simp at he
       .rename_i e0 ht;cases h;rcases ho' with⟨h7,rfl⟩|⟨e,he,rfl⟩;.rw[ht]at h7;cases h7
        rw[ht]at he;obtain rfl:e=e0:=by simpa using he
        rfl
       cases h
      subst ho';split at h;.cases h;rfl
      .cases h;rfl
      cases h
     cases h
    cases h
   cases h
  cases h
 cases h
end
end Go.AM
end
section
namespace Go.Proofs.T
open Go Go.Proofs Go.Shelf Go.RowKit Go.Sort Go.Lib
def bEN(w:World)(T:TypeId)(nd:Nat)(hs:nd<=24):Holds (λ(b:UInt8)=>aE .u8 (b.toNat:Int)) (w.alloc (.cells zeros24 T)) w.heap.size 0 (xL nd (0:UInt8)):=λ j hj=>by
 have hj':j<nd:=by simpa using hj
 refine⟨?_,World.frozen?_alloc_new _ _ _ _⟩;rw[World.cell?_alloc_new,zeros24_at _ oO,getElem!_pos _ j hj];simp
def bNB(w:World)(o:Obj)(dk:Array UInt8)(k:Nat):∃os,(putRow (λ(b:UInt8)=>aE .u8 (b.toNat:Int)) (w.alloc o) w.heap.size 0 dk).drewN k=grow (w.drewN k) os:=by rw[alloc_eq_grow];obtain⟨os',_,e⟩:=putRow_grow_new (λ(b:UInt8)=>aE .u8 (b.toNat:Int)) w #[o] w.heap.size 0 dk (aJ _);exact⟨os',by rw[e];rfl⟩
def a5C(u:Nat)(hu64:u<18446744073709551616)(w:World)(htab:Lib.TabIs aG w "internal/strconv.uint64pow10" .u64 Lib.pow10Tab):
 Calls aG 262 #[.int .u64 u,.int .i64 10] w λ e w'=>e= .returned (.string ⟨(Lib.decDigits u).toArray⟩)/\∃k os,w'=grow (w.drewN k) os:=by
 have L:=Tryz.layItoa;have e293:∀args w,(callFunc 293 args).run aG w= .ok (.enter 293 args) w:=enters_of Tryz.func293 kRf rfl;have e294:∀args w,(callFunc 294 args).run aG w= .ok (.enter 294 args) w:=enters_of Tryz.func294 kRf rfl;have e295:∀args w,(callFunc 295 args).run aG w= .ok (.enter 295 args) w:=enters_of Tryz.func295 kRf rfl;by_cases hs:u<100
 .go_enter Tryz.func262,Tryz.ntmps262
  go_wp2_with (go_at_fn 293;refine(Any.internal_strconv_small {L with} u hs _).mono ?_;rintro e w' ⟨rfl,rfl⟩)
  go_ret
  exact⟨rfl,0,#[],by simp[World.drewN_zero]⟩
 have hu1:1<=u:=oO;have hnd20:Lib.nDigits u<=20:=by have:=Lib.numDigits_eq u hu1 hu64;split at this<;>omega
 have hal:aG.arrayLen 333=24:=by simp[Program.arrayLen,Tryz.underlying333]
 have hsl1:∀W,(Instr.sliceAt 333 (.pointer (aA ⟨w.heap.size,0,aC⟩)) aC (aA (.int .i64 (Lib.nDigits u:Int))) aC).run aG W= .ok (.slice (aA ⟨w.heap.size,0,aC⟩) (Lib.nDigits u) 24) W:=λ W=>by
  rw[run_sliceAt_array_h W 333 ⟨w.heap.size,0,aC⟩ (by simp[Program.arrayLen,Program.elem,Tryz.underlying333]) .i64 (Lib.nDigits u:Int) oO (by rw[hal];omega)];go_simp
  try omega
 have hH0:=bEN w 333 (Lib.nDigits u) oO;have hfmt:=Any.internal_strconv_formatBase10 {L with} w.heap.size 0 24 u (xL (Lib.nDigits u) 0) (w.alloc (.cells Lib.zeros24 333)) hH0 (by rw[aFC];exact Lib.lt_pow_nDigits u) hu64 (by rw[aFC];omega);rw[aFC]at hfmt;have HH0:=Lib.hid hH0;clear hH0 hal;go_enter Tryz.func262,Tryz.ntmps262
 go_wp2_with (first
  |(go_at_fn 294;refine(Any.internal_strconv_numDigits {L with} u hu1 hu64 _ (Lib.tabIs_alloc htab _)).mono ?_;rintro e w' ⟨rfl,rfl⟩))
 go_at_fn 295
 refine hfmt.mono ?_;rintro e w' ⟨rfl,k,v',dk,rfl,hF⟩
 have hcv:(convert 238 9 (.slice (aA ⟨w.heap.size,0,aC⟩) (Lib.nDigits u) 24)).run aG ((putRow (λ(b:UInt8)=>aE .u8 (b.toNat:Int)) (w.alloc (.cells Lib.zeros24 333)) w.heap.size 0 dk).drewN k)= .ok (.string ⟨(Lib.decDigits u).toArray⟩) ((putRow (λ(b:UInt8)=>aE .u8 (b.toNat:Int)) (w.alloc (.cells Lib.zeros24 333)) w.heap.size 0 dk).drewN k):=by
  have h:=run_convert_bytes_back (P:=aG) ((putRow (λ(b:UInt8)=>aE .u8 (b.toNat:Int)) (w.alloc (.cells Lib.zeros24 333)) w.heap.size 0 dk).drewN k) 238 9 5 ⟨w.heap.size,0,aC⟩ 24 (Lib.decDigits u) Tryz.underlying238 gX aNV (λ j hj=>by rw[Lib.row_is_numeral hF j hj,Lib.add_plain,World.cell?_drewN];exact cell?_putRow (λ(b:UInt8)=>aE .u8 (b.toNat:Int)) _ w.heap.size 0 _ dk HH0.out (by rw[hF.size,aFC]) j (by rw[hF.size];rw[Lib.decDigits_length]at hj;exact hj))
  rw[Lib.decDigits_length]at h;exact h
 go_wp2
 go_ret
 obtain⟨os,eo⟩:=bNB w (.cells Lib.zeros24 333) dk k;exact⟨rfl,k,os,eo⟩
end Go.Proofs.T
end
section
namespace Go.Proofs.T
open Go Go.AM Go.Proofs Go.Lib
variable{Γ:dW}
structure GT (Γ:dW):Prop where
 pow:AM.look Γ 3=aA (Lib.pow10Tab.map λ z=>aD (aE aI z))
 errS:∃te pe,AM.look Γ 0=aA [.lit (.iface te pe)]
 errR:∃te pe,AM.look Γ 1=aA [.lit (.iface te pe)]
 maxL:∃m,AM.look Γ 2=aA [aD (aE aH m)]
def bBG(hG:GT Γ)(n:Int)(h0: -9223372036854775808<=n)(h1:n<=9223372036854775807):Pure aG Γ 216 [n] (aD (dN (ByteArray.mk (itoa n).toArray))):=
 aSB (g:=3) Tryz.layItoa kRf hG.pow n h0 h1
def bDB(hG:GT Γ)(l:List UInt8)(hl:l.length<=281474976710656):Pure aG Γ 150 [aD (dN (ByteArray.mk l.toArray))] (.tup [(RX l),.junk]):=by obtain⟨te,pe,h1⟩:=hG.errS;obtain⟨te',pe',h2⟩:=hG.errR;exact aSC Tryz.layAtoi h1 h2 l hl
def a2L(hG:GT Γ)(l:List UInt8)(hl:l.length<4294967281):Pure aG Γ 144 [aD (dN (ByteArray.mk l.toArray)),aD (dN (ByteArray.mk [(32:UInt8)].toArray))] (a2J (split l [32])):=by obtain⟨m,h1⟩:=hG.maxL;exact aJV Tryz.laySplit kRf h1 l [32] hl sS
end Go.Proofs.T
end
section
namespace Go.AM
open Go
variable{zrow:List AVal}{p:List Nat}{k:Nat}{P:Program}{Γ:dW}
def aDQ:Nat->Nat->List UInt8
 |0,_=>[]
 | f+1,u=>match Nat.blt u 10 with
   |true=>[UInt8.ofNat (48+u)]
   |false=>aDQ f (u/10)++[UInt8.ofNat (48+u%10)]
def IT:∀(f u:Nat),u<10^(f+1)->aDQ (f+1) u=Lib.decDigits u
 |f,u,h=>by
  rw[aDQ,Lib.decDigits];by_cases hu:u<10;.rw[dif_pos hu,show Nat.blt u 10=aB from by rw[Nat.blt_eq];exact hu]
  rw[dif_neg hu,show Nat.blt u 10=aF from by rw[dY,ne_eq,Nat.blt_eq];exact hu];simp only
  cases f with
  |zero=>simp at h;omega
  |succ f=>rw[IT f (u/10) (by rw[Nat.pow_succ]at h;omega)]
def bFW(n:Int):List UInt8:=match n with
 | .ofNat u=>aDQ 20 u
 | .negSucc u=>45::aDQ 20 (u+1)
def vO:List UInt8->List (List UInt8)
 |[]=>[[]]
 | c::r=>match c.toNat==32,vO r with
   |true,ws=>[]::ws
   |false,w::ws=>(c::w)::ws
   |false,[]=>[[c]]
section
variable{P:Program}{Γ:dW}{o:Oper}{ev ev':Operand->Option AVal}{get:Nat->Option Blk}{k:Nat}
def a7V {out:Out}(h:∀x v,ev' x=aA v->∃u,ev x=aA u/\VLe u v)(hg:Good P Γ o ev' get k out):Good P Γ o ev get k out:=
 ⟨λ w G ρ H A a hr hA hf hrd hop=>hg.ok w G ρ H A a hr hA hf hrd (λ x hx v hv=>by obtain⟨u,hu,hl⟩:=h x v hv;exact hl _ _ _ _ _ (hop x hx u hu)),hg.rds,hg.le⟩
def bCL(v:AVal):VLe v (deS v):=λ w G ρ A cv h=>IV h
def aRK{t s by':Nat}(ho:o.op= .buildSlice t 0 #[])(hz:iD P t=aA (s,by',zrow)):Good P Γ o ev get k ⟨.slc k 0 0 0,k+1,[(k,aA ⟨s,aB,[]⟩)],[]⟩:=by
 refine⟨λ w G ρ H A a hr hA hf hrd hop next Q hn=>?_,λ i hi=>by simp at hi,mG _⟩
 obtain⟨e,i,hu,hi⟩:∃e i,P.underlying t=aA (.slice e)/\P.info? e=aA i:=by
  unfold iD at hz;split at hz
  .rename_i e hu;split at hz;.rename_i i hi;exact⟨e,i,hu,hi⟩
   cases hz
  cases hz
 have hrun:(execOp a.eval o).run P w= .ok (.value (.slice (aA ⟨w.heap.size,0,aC⟩) 0 0)) (w.alloc (.cells #[] e)):=by simp[execOp,ho,Instr.buildSlice,underlying,hu,sizeOf,typeInfo,hi,newRow,Instr.fill];congr 2;exact aJX sS (λ i h1 h2=>by simp at h2)
 have hkA:¬A k:=λ hk=>oX _ (hA k hk);obtain⟨hρ,hfr⟩:=hf k (aJ _) (cY _);have hrel:=hr.alloc k hρ hfr ⟨s,aB,[]⟩ #[] e A (λ i=>A i\/(k<=i/\i<k+1)) hkA (λ _ h=> .inl h) (.inr ⟨aJ _,cY _⟩) (λ r row h=>by simp at h) (λ r row c v h=>by simp at h) w rfl rfl rfl rfl;have hst:=mB (w:=w) (G:=G) (ρ:=ρ) k s (.cells #[] e) w rfl rfl rfl rfl;unfold Oper.wp;rw[hrun];refine hn _ G _ _ hrel (.slc (b:=w.heap.size) (s:=s) (ty:=e) (m:=0) (.inr ⟨aJ _,cY _⟩) (by simp[fQ]) ?_ sS (aJ _) (by unfold maxLen;omega) (.inl rfl)) ⟨hst.size,hst.keep,hst.shape,hst.g,hst.g',hst.own,λ id hid=>hst.ids id (λ he=>hid (oO:k<=id/\id<k+1)),hst.os,hst.tape,hst.output⟩;have:=jD w (.cells #[] e);unfold World.shape?;rw[this];rfl
end
def aTI(get:Nat->Option Blk):AVal->Option (List Nat)
 | .sl id r 0=>match get id with
   | some B=>match Nat.ble r B.rows.length with
     |true=>aA [id]
     |false=>aC
   |none=>aC
 | .rd _ 0 _=>aA []
 | .lit (.slice aC 0 0)=>aA []
 |_=>aC
def aTP(P:Program)(Γ:dW)(o:Oper)(ev:Operand->Option AVal)(get:Nat->Option Blk)(k:Nat):Option Out:=
 match(match o.op with
 | .buildSlice t 0 parts=>match parts.toList,iD P t with
   |[],aA (s,_,_)=>aA ⟨.slc k 0 0 0,k+1,[(k,aA ⟨s,aB,[]⟩)],[]⟩
   |_,_=>aC
 | .binOp .eql t x y _=>match ev x,ev y,P.underlying t with
   | some (.slc id _ _ _),aA (.lit (.slice aC 0 0)),aA (.slice _)=>match get id with
     |some _=>aA ⟨.lit (.bool aF),k,[],[id]⟩
     |none=>aC
   |_,_,_=>aC
 | .call {callee:= .builtin .append,args:=args,argTypes:=ty}=>match args.toList,ty.toList with
   | [x,y],[t,t']=>match tY t t',iD P t,ev x,ev y with
     | true,aA _,aA (.slc id r n c),aA v=>match get id,aTI get (deS v)with
       |some _,aA ids=>aA ⟨.slc id r n c,k,[],id::ids⟩
       |_,_=>aC
     |_,_,_,_=>aC
   |_,_=>aC
 |_=>(aC:Option Out))with
 |some out=>aA out
 | none=>match CH P Γ o ev get k with
   |some out=>aA out
   |none=>CH P Γ o (λ x=>(ev x).map deS) get k
section
variable{P:Program}{Γ:dW}{o:Oper}{ev:Operand->Option AVal}{get:Nat->Option Blk}{k:Nat}
def aTH{v:AVal}{ids:List Nat}(h:aTI get v=aA ids):∃s rows p,SrcA get v s 0 rows p ids:=by
 unfold aTI at h;split at h
 .rename_i id r;split at h
  .rename_i B hB;split at h;.rename_i hr;cases h;exact⟨_,_,_,.sl hB (rU hr)⟩
   cases h
  cases h
 .cases h;exact⟨_,_,_,.rd⟩
 .cases h;exact⟨_,_,_,.nil⟩
 cases h
def aFV{out:Out}(h:aTP P Γ o ev get k=aA out):Good P Γ o ev get k out:=by
 unfold aTP at h;split at h
 .rename_i out' h1;cases h;split at h1
  .rename_i t parts ho;split at h1;.rename_i s b z hp hz;cases h1;obtain rfl:parts= #[]:=bJL hp;exact aRK ho hz
   cases h1
  .rename_i t x y ty ho;split at h1
   .rename_i id r n c e hx hy hu;split at h1;.rename_i B hB;cases h1;exact LI ho hu hx hB hy
    cases h1
   cases h1
  .rename_i args ty ho;split at h1
   .rename_i x y t t' ha ht;split at h1
    .rename_i z id r n c v hb hz hx hy;split at h1;.rename_i B ids hB hs;cases h1;obtain⟨s',rows,p,hsrc⟩:=aTH hs;obtain rfl:args= #[x,y]:=bJL ha;obtain rfl:ty= #[t,t']:=bJL ht;obtain rfl:=cN hb;obtain⟨s,b,zr⟩:=z;exact WJ ho hz hx hB hy hsrc
     cases h1
    cases h1
   cases h1
  cases h1
 split at h;.rename_i h2;cases h;exact tV h2
 refine a7V (λ x v hv=>?_) (tV h);simp only[aK]at hv;obtain⟨u,hu,rfl⟩:=hv;exact⟨u,hu,bCL u⟩
end
section
variable{P:Program}{Γ:dW}{o:Oper}{ev:Operand->Option AVal}{get:Nat->Option Blk}{k:Nat}
def aXX(P:Program)(o:Oper)(ev:Operand->Option AVal)(k:Nat):Option Out:=
 match o.op with
 | .binOp op t x y _=>match yX op,ev x,ev y,P.underlying t with
   | some neg,aA (.agg xc),aA (.agg yc),aA (.struct fs)=>match nY xc,nY yc,fs.toList.mapM (aMQ P),P.stoodInHeld t,P.eqGuardType P.depth t,fs.any (·.name== "_")with
     | some xs,aA ys,aA offs,aF,aF,aF=>match MB xs ys offs with
       |some p=>aA ⟨.lit (.bool (if neg then !p else p)),k,[],[]⟩
       |none=>aC
     |_,_,_,_,_,_=>aC
   |_,_,_,_=>aC
 |_=>aC
def aIE{out:Out}(h:aXX P o ev k=aA out):Good P Γ o ev get k out:=by
 unfold aXX at h;split at h
 .rename_i op t x y ty ho;split at h
  .rename_i neg xc yc fs hn hx hy hu;split at h
   .rename_i xs ys offs h1 h2 h3 h4 h5 h6;split at h
    .rename_i p hp;cases h
     have ho':o.op= .binOp (if neg then .neq else .eql) t x y ty:=by
      cases op<;>simp[yX]at hn;.subst hn;exact ho
      subst hn;exact ho
     exact aDO ho' hu h4 h5 h6 h3 hx hy h1 h2 hp
    cases h
   cases h
  cases h
 cases h
end
section
variable{P:Program}{Γ:dW}{o:Oper}{ev:Operand->Option AVal}{get:Nat->Option Blk}{k:Nat}
def aVB(P:Program)(o:Oper)(ev:Operand->Option AVal)(k:Nat):Option Out:=
 match o.op with
 | .binOp op t x (.const .nilIface) _=>match yX op,ev x,P.underlying t with
   |some neg,aA (.lit .nilIface),aA (.interface _)=>aA ⟨.lit (.bool (if neg then aF else aB)),k,[],[]⟩
   |_,_,_=>aC
 |_=>aC
def aGH{out:Out}(h:aVB P o ev k=aA out):Good P Γ o ev get k out:=by
 unfold aVB at h;split at h
 .rename_i op t x ty ho;split at h
  .rename_i neg ms hn hx hu;cases h;refine .quiet (cL λ w G ρ H A a hr hrd hop=>⟨.bool (if neg then aF else aB),?_,.lit⟩);have ex:a.eval x= .nilIface:=by have hv:=hop x (by cases op<;>simp[ho,Op.operands]) _ hx;exact V_lit hv
   have ey:a.eval (.const .nilIface)= .nilIface:=rfl;have hg:∀op,eqGuard op t x (.const .nilIface) .nilIface .nilIface=pure ():=λ op=>by cases op<;>cases x<;>rfl
   have he':∀d,(Op.equalIn (d+1) t .nilIface .nilIface).run P w= .ok aB w:=λ d=>by simp[Op.equalIn,run_underlying hu]
   have he:(Op.equal t .nilIface .nilIface).run P w= .ok aB w:=he' 9999;have h1:(binOp .eql t .nilIface .nilIface).run P w= .ok (.bool aB) w:=by have e:binOp .eql t .nilIface .nilIface=(do pure (.bool (←Op.equal t .nilIface .nilIface))):=rfl;rw[e,bS,he];rfl
   have h2:(binOp .neq t .nilIface .nilIface).run P w= .ok (.bool aF) w:=by have e:binOp .neq t .nilIface .nilIface=(do pure (.bool (!(←Op.equal t .nilIface .nilIface)))):=rfl;rw[e,bS,he];rfl
   cases op<;>simp[yX]at hn;.subst hn;simp only[execOp,ho,ex,ey,bS,hg,dO,bJ,h1];rfl
   subst hn;simp only[execOp,ho,ex,ey,bS,hg,dO,bJ,h2];rfl
  cases h
 cases h
end
def opD(P:Program)(Γ:dW)(o:Oper)(ev:Operand->Option AVal)(get:Nat->Option Blk)(k:Nat):Option Out:=
 match aVT P o ev get k with
 |some out=>aA out
 | none=>match aTP P Γ o ev get k with
   |some out=>aA out
   | none=>match aXX P o ev k with
     |some out=>aA out
     |none=>aVB P o ev k
def aUZ{o:Oper}{ev:Operand->Option AVal}{get:Nat->Option Blk}{out:Out}(h:opD P Γ o ev get k=aA out):Good P Γ o ev get k out:=by
 unfold opD at h;split at h;.rename_i h1;cases h;exact aGT h1
 split at h;.rename_i h1;cases h;exact aFV h1
 split at h;.rename_i h1;cases h;exact aIE h1
 exact aGH h
def aXW:Value->Value->Bool
 | .int k a,.int k' b=>decide (k=k')&&decide (a=b)
 | .bool a,.bool b=>a==b
 | .string a,.string b=>decide (a.data.toList=b.data.toList)
 | .slice aC 0 0,.slice aC 0 0=>aB
 |_,_=>aF
def aXV{a b:Value}(h:aXW a b=aB):a=b:=by
 unfold aXW at h;split at h;.simp only[aO,dTt]at h;rw[h.1,h.2]
 .simp only[beq_iff_eq]at h;rw[h]
 .rename_i a b;have h:=of_decide_eq_true h;congr 1;cases a;cases b;simp only at h;congr 1;exact bJL h
 .rfl
 cases h
def a5H:AVal->AVal->Bool
 | .lit a,.lit b=>aXW a b
 | .ptr i r c,.ptr i' r' c'=>tY i i'&&(tY r r'&&tY c c')
 | .sl i r c,.sl i' r' c'=>tY i i'&&(tY r r'&&tY c c')
 | .slc i r n c,.slc i' r' n' c'=>tY i i'&&(tY r r'&&(tY n n'&&tY c c'))
 |_,_=>aF
def aMY{a b:AVal}(h:a5H a b=aB):a=b:=by
 unfold a5H at h;split at h;.rw[aXV h]
 .simp only[aO]at h;rw[cN h.1,cN h.2.1,cN h.2.2]
 .simp only[aO]at h;rw[cN h.1,cN h.2.1,cN h.2.2]
 .simp only[aO]at h;rw[cN h.1,cN h.2.1,cN h.2.2.1,cN h.2.2.2]
 cases h
def bBQ(B C:Blk):Bool:=(B.pure==C.pure)&&(tY B.sz C.sz&&HK (HK a5H) B.rows C.rows)
def a5G{B C:Blk}(h:bBQ B C=aB):B=C:=by simp only[bBQ,aO,beq_iff_eq]at h;obtain⟨h1,h2,h3⟩:=h;cases B;cases C;simp only at h1 h2 h3;rw[h1,cN h2,CQ (λ a b h=>CQ (λ _ _=>aMY) h) h3]
def holdsF(fr:Fr):Fr->Bool
 |[]=>aB
 | (t,v)::r=>match LR fr t with
   |some u=>a5H u v&&holdsF fr r
   |none=>aF
def YN(H:aS):aS->Bool
 |[]=>aB
 | (t,v)::r=>match LR H t with
   |some u=>bBQ u v&&YN H r
   |none=>aF
def VJ{fr:Fr}:∀ {fr1:Fr},holdsF fr fr1=aB->leF fr fr1
 |[],_=>trivial
 |(t,v)::r,h=>by
  simp only[holdsF]at h;split at h;.rename_i u hu;simp only[aO]at h;rw[DI]at hu;exact⟨by rw[hu,aMY h.1],VJ h.2⟩
  cases h
def VI{H:aS}:∀ {H1:aS},YN H H1=aB->IA H H1
 |[],_=>trivial
 |(t,v)::r,h=>by
  simp only[YN]at h;split at h;.rename_i u hu;simp only[aO]at h;rw[DI]at hu;exact⟨by rw[hu,a5G h.1],VI h.2⟩
  cases h
def FE(r:Option (Exit×Nat×Fr×aS))(k:Nat)(fr:Fr)(H:aS):Bool:=match r with
 |some (.normal,_,fr1,H1)=>holdsF fr1 fr&&(YN H1 H&&(bdF (λ i=>Nat.blt i k) fr&&oU (λ i=>Nat.blt i k) H))
 |_=>aF
def a7H{nt:Nat}{Q:AQ}{fr:Fr}{H:aS}{c x y:Code}{X:Xt}(hX:XtOk P Γ X)(n:Nat)(hc:gV c p= .seq x y)(k1:Nat)(fr1:Fr)(H1:aS)
 (h:FE (fV X (VS X P Γ n) P Γ nt x k fr H) k1 fr1 H1=aB) (hr:W P Γ nt 0 (gV c (1::p)) Q k1 fr1 H1):W P Γ nt 0 (gV c p) Q k fr H:=by
 have hx:gV c (0::p)=x:=by simp[gV,hc,MD]
 refine iG hc ?_;rw[hx];unfold FE at h;split at h
 .rename_i k2 fr2 H2 he;simp only[aO]at h;obtain⟨h1,h2,h3,h4⟩:=h;have hlt:(λ i=>Nat.blt i k1)=kC k1:=funext λ i=>by rw[eY];simp only[kC,dTt];rw[Nat.blt_eq]
  rw[hlt]at h3 h4;refine mD (AU (kb:=0) hX (aHV hX n) x _ _ _ _ _ _ _ he) ?_;rintro e2 k3 fr3 H3 ⟨rfl,rfl,rfl,rfl⟩;exact gW (nC (sA (bF _) (VJ h1) (VI h2) h3 h4)) hr
 cases h
end Go.AM
end
section
namespace Go.Proofs.T
open Go Go.AM Go.Proofs Go.Lib Go.RowKit Go.Shelf
variable{cs:Array Value}{G:Nat->Prop}{x:Value}{w:World}{A:cF}{ρ:dH}
variable{Γ:dW}
def aEW{u v:Value}(h:Vs w G ρ A [.lit u,.lit v,.lit x] cs):cs= #[u,v,x]:=by
 obtain⟨h1,h2⟩:=h;have hs:cs.size=3:=by simpa using h1.symm
 have e0:=AM.V_lit (h2 0 _ rfl);have e1:=AM.V_lit (h2 1 _ rfl);have e2:=AM.V_lit (h2 2 _ rfl);rw[aM]at e0 e1 e2;refine aJX (by simp[hs]) λ i hi hj=>?_;have:i=0\/i=1\/i=2:=oO;rcases this with rfl|rfl|rfl;.rw[aW hi]at e0;simpa using e0
 .rw[aW hi]at e1;simpa using e1
 rw[aW hi]at e2;simpa using e2
def aHE(w:World)(k:Nat)(os:Array Obj):Below w.heap.size w (Sort.grow (w.drewN k) os):=
 ⟨rfl,rfl,rfl,by first|(simp[Sort.grow];done)|(simp[Sort.grow];omega),λ i hi=>by show((w.drewN k).heap++os)[i]? =_;rw[fH (by show i<w.heap.size;omega)];rfl⟩
def bNA(u:Nat)(hu64:u<18446744073709551616)(w:World)(htab:Lib.TabIs aG w "internal/strconv.uint64pow10" .u64 Lib.pow10Tab):
 Calls aG 219 #[.int .u64 u,.int .i64 10] w λ e w'=>e= .returned (.string ⟨(Lib.decDigits u).toArray⟩)/\∃k os,w'=Sort.grow (w.drewN k) os:=by
 have e262:∀args w,(callFunc 262 args).run aG w= .ok (.enter 262 args) w:=enters_of Tryz.func262 kRf rfl;go_enter Tryz.func219,Tryz.ntmps219
 go_wp2_with (go_at_fn 262;refine(a5C u hu64 _ htab).mono ?_;rintro e w' ⟨rfl,k,os,rfl⟩)
 go_ret
 exact⟨rfl,k,os,rfl⟩
def bGD(hG:GT Γ)(u:Nat)(hu:u<18446744073709551616):AM.Pure aG Γ 219 [aD (aE aI (u:Int)),(10:Int)] (aD (dN (str (decDigits u)))):=
 mV rfl λ w G args hg hv=>by rw[ZX hv];refine(bNA u hu w ((hg _ _ hG.pow).tab kRf)).mono ?_;rintro e w' ⟨rfl,k,os,rfl⟩;exact⟨_,rfl,aHE _ _ _,.lit⟩
def bIO(hG:GT Γ)(l sep:List UInt8)(hl:l.length<4294967281):AM.Pure aG Γ 224 [aD (dN (str l)),aD (dN (str sep))] (.tup [aD (dN (str (Lib.cut l sep).1)),aD (dN (str (Lib.cut l sep).2.1)),aD (bC (Lib.cut l sep).2.2)]):=by
 obtain⟨m,h1⟩:=hG.maxL
 exact mV rfl λ w G args hg hv=>by
  rw[ZX hv];have hs:(str l).size<4294967281:=by simpa [ByteArray.size]using hl
  refine(Any.strings_Cut Tryz.layCut (str l) (str sep) m w hs ((hg _ _ h1).cell rfl)).mono ?_;rintro e w' ⟨rfl,n,rfl⟩;refine⟨_,rfl,⟨rfl,rfl,rfl,aJ _,λ i hi=>rfl⟩,.tup rfl λ j v hj=>?_⟩
  match j,hj with
  |0,hj=>cases hj;exact .lit
  |1,hj=>cases hj;exact .lit
  |2,hj=>cases hj;exact .lit
  |j+3,hj=>simp at hj
def aIQ(hG:GT Γ)(l sub:List UInt8)(hl:l.length<4294967281):AM.Pure aG Γ 225 [aD (dN (str l)),aD (dN (str sub))] (Lib.contains l sub):=by
 obtain⟨m,h1⟩:=hG.maxL
 exact mV rfl λ w G args hg hv=>by
  rw[ZX hv];have hs:(str l).size<4294967281:=by simpa [ByteArray.size]using hl
  refine(Any.strings_Contains Tryz.layContains (str l) (str sub) m w hs ((hg _ _ h1).cell rfl)).mono ?_;rintro e w' ⟨rfl,rfl⟩;exact⟨_,rfl,Below.refl _ _,.lit⟩
def aRY{n:Int}:V w G ρ A (.tup [aD (aE aI n),.junk]) (.tuple #[.int .u64 n,x]):=by
 refine .tup rfl λ j v hj=>?_
 match j with
 |0=>cases hj;exact .lit
 |1=>cases hj;exact .junk
 |j+2=>simp at hj
def bAL(hG:GT Γ)(l:List UInt8)(hl:l.length<=281474976710656):AM.Pure aG Γ 152 [aD (dN (str l)),(10:Int),(64:Int)] (.tup [aD (aE aI (puV 64 l)),.junk]):=by
 obtain⟨te,pe,hS⟩:=hG.errS;obtain⟨te',pe',hR⟩:=hG.errR
 exact mV rfl λ w G args hg hv=>by
  rw[aEW hv];have hs:(str l).size<=281474976710656:=by simpa [ByteArray.size]using hl
  have hd:(str l).data.toList=l:=by simp
  cases h:parseUintB 64 l
  .rename_i v;refine(Any.strconv_ParseUint_10_at64_ok Tryz.layPu (str l) oO v (by rw[hd];exact h) w).mono ?_;rintro e w' ⟨rfl,hw⟩;refine⟨_,rfl,?_,by rw[puV,h];exact aRY⟩;rcases hw with rfl|rfl;.exact Below.refl _ _
   exact Lib.bytesWorld_below _ _ _
  .refine(Any.strconv_ParseUint_10_at64_syntax Tryz.layPu (str l) hs (by rw[hd];exact h) (.iface te pe) w ((hg _ _ hS).cell rfl) (dP ⟨_,_,rfl⟩)).mono ?_;rintro e w' ⟨N,rfl,_,_,hb⟩;exact⟨_,rfl,hb,by rw[puV,h];exact aRY⟩
  refine(Any.strconv_ParseUint_10_at64_range Tryz.layPu (str l) hs (by rw[hd];exact h) (.iface te' pe') w ((hg _ _ hR).cell rfl) (dP ⟨_,_,rfl⟩)).mono ?_;rintro e w' ⟨N,rfl,_,_,hb⟩;exact⟨_,rfl,hb,by rw[puV,h];exact aRY⟩
def bAM(hG:GT Γ)(l:List UInt8)(hl:l.length<=281474976710656):AM.Pure aG Γ 152 [aD (dN (str l)),(10:Int),(32:Int)] (.tup [aD (aE aI (puV 32 l)),.junk]):=by
 obtain⟨te,pe,hS⟩:=hG.errS;obtain⟨te',pe',hR⟩:=hG.errR
 exact mV rfl λ w G args hg hv=>by
  rw[aEW hv];have hs:(str l).size<=281474976710656:=by simpa [ByteArray.size]using hl
  have hd:(str l).data.toList=l:=by simp
  cases h:parseUintB 32 l
  .rename_i v;refine(Any.strconv_ParseUint_10_at32_ok Tryz.layPu (str l) oO v (by rw[hd];exact h) w).mono ?_;rintro e w' ⟨rfl,hw⟩;refine⟨_,rfl,?_,by rw[puV,h];exact aRY⟩;rcases hw with rfl|rfl;.exact Below.refl _ _
   exact Lib.bytesWorld_below _ _ _
  .refine(Any.strconv_ParseUint_10_at32_syntax Tryz.layPu (str l) hs (by rw[hd];exact h) (.iface te pe) w ((hg _ _ hS).cell rfl) (dP ⟨_,_,rfl⟩)).mono ?_;rintro e w' ⟨N,rfl,_,_,hb⟩;exact⟨_,rfl,hb,by rw[puV,h];exact aRY⟩
  refine(Any.strconv_ParseUint_10_at32_range Tryz.layPu (str l) hs (by rw[hd];exact h) (.iface te' pe') w ((hg _ _ hR).cell rfl) (dP ⟨_,_,rfl⟩)).mono ?_;rintro e w' ⟨N,rfl,_,_,hb⟩;exact⟨_,rfl,hb,by rw[puV,h];exact aRY⟩
def a6V(hG:GT Γ)(l:List UInt8)(hl:l.length<=281474976710656)(v:Int)(h:atoiAll l= .ok v):AM.Pure aG Γ 150 [aD (dN (str l))] (.tup [v,.lit .nilIface]):=
 mV rfl λ w G args hg hv=>by
  rw[aJO hv];have hs:(str l).size<=281474976710656:=by simpa [ByteArray.size]using hl
  have hd:(str l).data.toList=l:=by simp
  refine(Any.strconv_Atoi_ok Tryz.layAtoi (str l) oO v (by rw[hd];exact h) w).mono ?_;rintro e w' ⟨rfl,hw⟩;refine⟨_,rfl,?_,.tup rfl λ j u hj=>?_⟩
  .rcases hw with rfl|⟨t,rfl⟩;.exact Below.refl _ _
   exact Lib.bytesWorld_below _ _ _
  match j,hj with
  |0,hj=>cases hj;exact .lit
  |1,hj=>cases hj;exact .lit
  |j+2,hj=>simp at hj
end Go.Proofs.T
end
section
namespace Go.Proofs.T
open Go Go.AM Go.Proofs Go.Lib
variable{Γ:dW}
def a4P(n:Int)(h0: -9223372036854775808<=n)(h1:n<=9223372036854775807):bFW n=Lib.itoa n:=by
 cases n with
 |ofNat u=>
  have hu:u<10^20:=by have h2:u<=9223372036854775807:=Int.ofNat_le.1 h1;clear h1 h0;omega
  show aDQ 20 u=_;rw[IT 19 u hu,Lib.itoa,iN (show ¬(Int.ofNat u<0)from Int.not_lt.2 (tC u))];rfl
 |negSucc u=>
  have hu:u+1<10^20:=by have: -((u:Int)+1)≥ -9223372036854775808:=by rw[<-Int.negSucc_eq];exact h0
                        omega
  show 45::aDQ 20 (u+1)=_;rw[IT 19 (u+1) hu,Lib.itoa,iP (Int.negSucc_lt_zero u)];rfl
def ED:∀l,vO l≠[]
 |[]=>by simp[vO]
 |c::r=>by
  rw[vO];split;.simp
  .simp
  simp
def TY:∀l,∀w∈vO l,(32:UInt8)∉w
 |[]=>by simp[vO]
 |c::r=>by
  have ih:=TY r;rw[vO];split
  .intro w hw;rcases fO.1 hw with rfl|hw;.simp
   exact ih w hw
  .rename_i w ws h1 h2;intro x hx;rcases fO.1 hx with rfl|hx
   .intro hm;rcases fO.1 hm with e|hm;.rw[<-e]at h1;simp at h1
    exact ih w (by rw[h2];simp) hm
   exact ih x (by rw[h2];exact dZ _ hx)
  rename_i h1 h2;exact absurd h2 (ED r)
def a4O(c:UInt8)(w:List UInt8)(ws:List (List UInt8)):jn ((c::w)::ws)=c::jn (w::ws):=by
 cases ws with
 |nil=>rfl
 |cons x r=>rfl
def TX:∀l,jn (vO l)=l
 |[]=>rfl
 |c::r=>by
  have ih:=TX r;rw[vO];split
  .rename_i ws h1;rw[aMG (ED r),ih]
   have:c=32:=by
    have h:c.toNat=32:=by simpa using h1
    exact UInt8.toNat_inj.1 (by rw[h];rfl)
   rw[this];rfl
  .rename_i w ws h1 h2;rw[a4O,<-h2,ih]
  rename_i h1 h2;exact absurd h2 (ED r)
def WT(l:List UInt8):Lib.split l [32]=vO l:=by have:=aBA (ED l) (TY l);rw[TX]at this;exact this
def KA(s:ByteArray):Bool:=Nat.ble s.data.toList.length 4294967280
def a9R(f:FuncId)(k:Nat)(args:List AVal)(H:aS):Option (Nat×AVal×aS):=
 match H with
 | []=>match f,args with
   | 216,[.lit (.int .i64 n)]=>match decide (-9223372036854775808<=n),decide (n<=9223372036854775807)with
     |true,aB=>aA (k,.lit (.string (str (bFW n))),[])
     |_,_=>aC
   | 219,[.lit (.int .u64 (.ofNat u)),.lit (.int .i64 10)]=>match Nat.blt u 18446744073709551616 with
     |true=>aA (k,.lit (.string (str (aDQ 20 u))),[])
     |false=>aC
   | 144,[.lit (.string s),.lit (.string p)]=>match KA s,decide (p.data.toList=[32])with
     |true,aB=>aA (k,a2J (vO s.data.toList),[])
     |_,_=>aC
   | 150,[.lit (.string s)]=>match KA s with
     | true=>match atoiAll s.data.toList with
       | .ok v=>aA (k,.tup [.lit (.int .i64 v),.lit .nilIface],[])
       |_=>aA (k,.tup [.lit (.int .i64 (RX s.data.toList)),.junk],[])
     |false=>aC
   | 152,[.lit (.string s),.lit (.int .i64 10),.lit (.int .i64 b)]=>match KA s with
     | true=>match b with
       |64=>aA (k,.tup [.lit (.int .u64 (puV 64 s.data.toList)),.junk],[])
       |32=>aA (k,.tup [.lit (.int .u64 (puV 32 s.data.toList)),.junk],[])
       |_=>aC
     |false=>aC
   | 224,[.lit (.string s),.lit (.string p)]=>match KA s with
     |true=>aA (k,.tup [.lit (.string (str (Lib.cut s.data.toList p.data.toList).1)),.lit (.string (str (Lib.cut s.data.toList p.data.toList).2.1)),.lit (.bool (Lib.cut s.data.toList p.data.toList).2.2)],[])
     |false=>aC
   | 225,[.lit (.string s),.lit (.string p)]=>match KA s with
     |true=>aA (k,.lit (.bool (Lib.contains s.data.toList p.data.toList)),[])
     |false=>aC
   |_,_=>aC
 |_::_=>aC
def JS(P:Program)(Γ:dW):Xt:=⟨opD P Γ,aVU,a9R⟩
def yK{s:ByteArray}(h:KA s=aB):s.data.toList.length<4294967281:=by have:=rU h;omega
def a1Z(hG:GT Γ){f:FuncId}{k:Nat}{args:List AVal}{H:aS}{k':Nat}{v:AVal}{H':aS}(h:a9R f k args H=aA (k',v,H')):Tr aG Γ f k args H (λ k1 r1 H1=>k1=k'/\r1=v/\H1=H'):=by
 unfold a9R at h;split at h
 .split at h
  .rename_i n;split at h;.rename_i h1 h2;cases h;have h1:=of_decide_eq_true h1;have h2:=of_decide_eq_true h2;rw[a4P n h1 h2];exact bBG hG n h1 h2 k
   cases h
  .rename_i u;split at h
   .rename_i h1;cases h;have hu:u<18446744073709551616:=by rw[Nat.blt_eq]at h1;exact h1
    rw[IT 19 u oO];exact bGD hG u hu k
   cases h
  .rename_i s p;split at h
   .rename_i h1 h2;cases h;have h2:=of_decide_eq_true h2;have e:p=str [32]:=by rw[<-aTE p,h2]
    rw[<-WT,e];have:=a2L hG s.data.toList (yK h1) k;exact this
   cases h
  .rename_i s;split at h
   .rename_i h1;have hl:s.data.toList.length<=281474976710656:=by have:=yK h1;omega
    split at h;.rename_i v hv;cases h;have:=a6V hG s.data.toList hl v hv k;exact this
    cases h;have:=bDB hG s.data.toList hl k;exact this
   cases h
  .rename_i s b;split at h
   .rename_i h1;have hl:s.data.toList.length<=281474976710656:=by have:=yK h1;omega
    split at h;.cases h;have:=bAL hG s.data.toList hl k;exact this
    .cases h;have:=bAM hG s.data.toList hl k;exact this
    cases h
   cases h
  .rename_i s p;split at h;.rename_i h1;cases h;have:=bIO hG s.data.toList p.data.toList (yK h1) k;exact this
   cases h
  .rename_i s p;split at h;.rename_i h1;cases h;have:=aIQ hG s.data.toList p.data.toList (yK h1) k;exact this
   cases h
  cases h
 cases h
def rZ(hG:GT Γ):XtOk aG Γ (JS aG Γ):=⟨λ _ _ _ _ _ h=>aUZ h,λ _ _ _ _ _ h=>aGU h,λ _ _ _ _ _ _ _ h=>a1Z hG h⟩
end Go.Proofs.T
end
section
namespace Go.Proofs.T
open Go Go.AM Go.Proofs
variable{Γ:dW}
def vF:Nat×AVal:=(0,aD (bC aF))
def xA:Nat×AVal:=(1,.ptr 37 0 0)
def wZ:Nat×AVal:=(2,.ptr 38 0 0)
def wY:Nat×AVal:=(3,.sl 35 0 4)
def wT:Nat×AVal:=(4,.sl 36 0 4)
def wR:Nat×Blk:=(10,⟨2,aB,[[aD (aE aH 0),aD (aE aH 1)]]⟩)
def wQ:Nat×Blk:=(12,⟨1,aB,[[aD (aE aH 0)],[aD (aE aH 0)]]⟩)
def wP:Nat×Blk:=(14,⟨1,aB,[[aD (aE aH 0)],[aD (aE aH 0)]]⟩)
def wO:Nat×Blk:=(15,⟨8,aB,[]⟩)
def wN:Nat×Blk:=(17,⟨3,aB,[[aD (aE aI 0),aD (aE aT 0),aD (aE aI 0)],[aD (aE aI 0),aD (aE aT 0),aD (aE aI 0)]]⟩)
def oQ:Nat×Blk:=(19,⟨1,aF,[[.sl 17 0 2]]⟩)
def oP:Nat×Blk:=(23,⟨3,aB,[[aD (aE aI 0),aD (aE aT 0),aD (aE aI 3072)],[aD (aE aI 0),aD (aE aT 0),aD (aE aI 0)]]⟩)
def oN:Nat×Blk:=(25,⟨1,aF,[[.sl 23 0 2]]⟩)
def oM:Nat×Blk:=(28,⟨2,aB,[[aD (aE aH 0),aD (aE aH 1)]]⟩)
def oL:Nat×Blk:=(32,⟨1,aB,[[aD (aE aH 3)],[aD (aE aH 0)]]⟩)
def oK:Nat×Blk:=(33,⟨1,aB,[[aD (aE aH 5)],[aD (aE aH 0)]]⟩)
def oJ:Nat×Blk:=(34,⟨8,aB,[[aD (aE aH 5),aD (aE aH 0),aD (aE aH 1024),aD (aE aH 0),aD (aE aI 1),aD (bC aB),aD (aE aI 3072),aD (aE aT 0)]]⟩)
def oI:Nat×Blk:=(35,⟨1,aB,[[aD (dN ⟨#[99,108,111,99,107,32,48,32,51]⟩)],[aD (dN ⟨#[99,117,114,114,101,110,116,32,48,32,53]⟩)],[aD (dN ⟨#[116,97,115,107,32,53,32,48,32,49,48,50,52,32,48,32,48,32,114,101,97,100,121,32,51,48,55,50,32,48]⟩)],[aD (dN ⟨#[115,112,111,116,32,48,32,48,32,48,32,48,32,51,48,55,50]⟩)]]⟩)
def oH:Nat×Blk:=(36,⟨1,aB,[[aD (dN ⟨#[99,108,111,99,107,32,48,32,48]⟩)],[aD (dN ⟨#[99,117,114,114,101,110,116,32,48,32,48]⟩)],[aD (dN ⟨#[103,111,110,101,32,53]⟩)],[aD (dN ⟨#[115,112,111,116,32,48,32,48,32,48,32,48,32,48]⟩)]]⟩)
def oG:Nat×Blk:=(37,⟨7,aF,[[aD (aE aH 2),aD (aE aI 0),.sl 10 0 1,.sl 12 0 2,.sl 14 0 2,.slc 15 0 0 0,.sl 19 0 1]]⟩)
def oE:Nat×Blk:=(38,⟨7,aF,[[aD (aE aH 2),aD (aE aI 0),.sl 28 0 1,.sl 32 0 2,.sl 33 0 2,.sl 34 0 1,.sl 25 0 1]]⟩)
def pV:Nat×AVal:=(5,.ptr 113 0 0)
def pU:Nat×AVal:=(6,aD (aE aH 0))
def pT:Nat×Blk:=(97,⟨2,aB,[[aD (aE aH 0),aD (aE aH 3)]]⟩)
def pQ:Nat×Blk:=(99,⟨2,aB,[[aD (aE aH 0),aD (aE aH 5)]]⟩)
def BZ:Nat×Blk:=(105,⟨8,aB,[[aD (aE aH 5),aD (aE aH 0),aD (aE aH 1024),aD (aE aH 0),aD (aE aI 1),aD (bC aB),aD (aE aI 3072),aD (aE aT 0)]]⟩)
def pP:Nat×Blk:=(111,⟨5,aB,[[aD (aE aH 0),aD (aE aH 0),aD (aE aI 0),aD (aE aT 0),aD (aE aI 3072)]]⟩)
def BY:Nat×Blk:=(113,⟨6,aF,[[.sl 97 0 1,.sl 99 0 1,aD (aP aC 0 0),aD (aP aC 0 0),.sl 105 0 1,.sl 111 0 1]]⟩)
def rN:Nat×AVal:=(7,.ptr 197 0 0)
def rM:Nat×AVal:=(8,aD (aE aH 0))
def rL:Nat×Blk:=(182,⟨2,aB,[[aD (aE aH 0),aD (aE aH 0)]]⟩)
def rK:Nat×Blk:=(184,⟨2,aB,[[aD (aE aH 0),aD (aE aH 0)]]⟩)
def rJ:Nat×Blk:=(190,⟨1,aB,[[aD (aE aH 5)]]⟩)
def rI:Nat×Blk:=(195,⟨5,aB,[[aD (aE aH 0),aD (aE aH 0),aD (aE aI 0),aD (aE aT 0),aD (aE aI 0)]]⟩)
def rH:Nat×Blk:=(197,⟨6,aF,[[.sl 182 0 1,.sl 184 0 1,aD (aP aC 0 0),.sl 190 0 1,aD (aP aC 0 0),.sl 195 0 1]]⟩)
def tT:Nat×AVal:=(9,.sl 239 0 4)
def tQ:Nat×AVal:=(10,aD (aE aH 0))
def tP:Nat×Blk:=(239,⟨1,aB,[[aD (dN ⟨#[99,108,111,99,107,32,48,32,51]⟩)],[aD (dN ⟨#[99,117,114,114,101,110,116,32,48,32,53]⟩)],[aD (dN ⟨#[116,97,115,107,32,53,32,48,32,49,48,50,52,32,48,32,48,32,114,101,97,100,121,32,51,48,55,50,32,48]⟩)],[aD (dN ⟨#[115,112,111,116,32,48,32,48,32,48,32,48,32,51,48,55,50]⟩)]]⟩)
def wX:Nat×AVal:=(11,.sl 275 0 4)
def wU:Nat×AVal:=(12,aD (aE aH 0))
def wS:Nat×Blk:=(275,⟨1,aB,[[aD (dN ⟨#[99,108,111,99,107,32,48,32,48]⟩)],[aD (dN ⟨#[99,117,114,114,101,110,116,32,48,32,48]⟩)],[aD (dN ⟨#[103,111,110,101,32,53]⟩)],[aD (dN ⟨#[115,112,111,116,32,48,32,48,32,48,32,48,32,48]⟩)]]⟩)
def zU:Nat×AVal:=(13,.ptr 392 0 0)
def zR:Nat×AVal:=(14,aD (aE aH 0))
def zQ:Nat×Blk:=(300,⟨2,aB,[[aD (aE aH 0),aD (aE aH 1)]]⟩)
def zP:Nat×Blk:=(302,⟨1,aB,[[aD (aE aH 3)],[aD (aE aH 0)]]⟩)
def zO:Nat×Blk:=(304,⟨1,aB,[[aD (aE aH 5)],[aD (aE aH 0)]]⟩)
def zL:Nat×Blk:=(307,⟨1,aF,[[.sl 309 0 2]]⟩)
def zJ:Nat×Blk:=(309,⟨3,aB,[[aD (aE aI 0),aD (aE aT 0),aD (aE aI 3072)],[aD (aE aI 0),aD (aE aT 0),aD (aE aI 0)]]⟩)
def zH:Nat×Blk:=(313,⟨8,aB,[[aD (aE aH 5),aD (aE aH 0),aD (aE aH 1024),aD (aE aH 0),aD (aE aI 1),aD (bC aB),aD (aE aI 3072),aD (aE aT 0)]]⟩)
def zG:Nat×Blk:=(392,⟨7,aF,[[aD (aE aH 2),aD (aE aI 0),.sl 300 0 1,.sl 302 0 2,.sl 304 0 2,.sl 313 0 1,.sl 307 0 1]]⟩)
def DY:Nat×AVal:=(84,aD (bC aF))
def JE:Nat×Blk:=(113,⟨6,aF,[[.sl 97 0 1,.sl 99 0 1,aD (aP aC 0 0),aD (aP aC 0 0),aD (aP aC 0 0),.sl 111 0 1]]⟩)
def RW:Nat×AVal:=(16,aD (aE aH 352))
def aEK:Nat×AVal:=(18,aD (aE aH 0))
def aEJ:Nat×AVal:=(19,aD (aE aH 353))
def aw0:FE (fV (JS aG Γ) (VS (JS aG Γ) aG Γ 400) aG Γ 125 (gV (gD aNX) [0]) 0 [] []) 0 [vF] []=aB:=by kernel_rfl
def aw1:FE (fV (JS aG Γ) (VS (JS aG Γ) aG Γ 400) aG Γ 125 (gV (gD aNX) [0,1]) 0 [vF] []) 39 [vF,xA,wZ,wY,wT] [wR,wQ,wP,wO,wN,oQ,oP,oN,oM,oL,oK,oJ,oI,oH,oG,oE]=aB:=by kernel_rfl
def aw2:FE (fV (JS aG Γ) (VS (JS aG Γ) aG Γ 400) aG Γ 125 (gV (gD aNX) [0,1,1]) 39 [vF,xA,wZ,wY,wT] [wR,wQ,wP,wO,wN,oQ,oP,oN,oM,oL,oK,oJ,oI,oH,oG,oE]) 114 [wT,wY,wZ,xA,vF,pV,pU] [wR,wQ,wP,wO,wN,oQ,oP,oN,oM,oL,oK,oJ,oI,oH,oG,oE,pT,pQ,BZ,pP,BY]=aB:=by kernel_rfl
def aw3:FE (fV (JS aG Γ) (VS (JS aG Γ) aG Γ 400) aG Γ 125 (gV (gD aNX) [0,1,1,1]) 114 [wT,wY,wZ,xA,vF,pV,pU] [wR,wQ,wP,wO,wN,oQ,oP,oN,oM,oL,oK,oJ,oI,oH,oG,oE,pT,pQ,BZ,pP,BY]) 198 [pU,pV,vF,xA,wZ,wY,wT,rN,rM] [wR,wQ,wP,wO,wN,oQ,oP,oN,oM,oL,oK,oJ,oI,oH,oG,oE,pT,pQ,BZ,pP,BY,rL,rK,rJ,rI,rH]=aB:=by kernel_rfl
def aw4:FE (fV (JS aG Γ) (VS (JS aG Γ) aG Γ 400) aG Γ 125 (gV (gD aNX) [0,1,1,1,1]) 198 [pU,pV,vF,xA,wZ,wY,wT,rN,rM] [wR,wQ,wP,wO,wN,oQ,oP,oN,oM,oL,oK,oJ,oI,oH,oG,oE,pT,pQ,BZ,pP,BY,rL,rK,rJ,rI,rH]) 240 [rM,rN,wT,wY,wZ,xA,vF,pV,pU,tT,tQ] [wR,wQ,wP,wO,wN,oQ,oP,oN,oM,oL,oK,oJ,oI,oH,oG,oE,pT,pQ,BZ,pP,BY,rL,rK,rJ,rI,rH,tP]=aB:=by kernel_rfl
def aw5:FE (fV (JS aG Γ) (VS (JS aG Γ) aG Γ 400) aG Γ 125 (gV (gD aNX) [0,1,1,1,1,1]) 240 [rM,rN,wT,wY,wZ,xA,vF,pV,pU,tT,tQ] [wR,wQ,wP,wO,wN,oQ,oP,oN,oM,oL,oK,oJ,oI,oH,oG,oE,pT,pQ,BZ,pP,BY,rL,rK,rJ,rI,rH,tP]) 276 [tQ,tT,pU,pV,vF,xA,wZ,wY,wT,rN,rM,wX,wU] [wR,wQ,wP,wO,wN,oQ,oP,oN,oM,oL,oK,oJ,oI,oH,oG,oE,pT,pQ,BZ,pP,BY,rL,rK,rJ,rI,rH,tP,wS]=aB:=by kernel_rfl
def aw6:FE (fV (JS aG Γ) (VS (JS aG Γ) aG Γ 400) aG Γ 125 (gV (gD aNX) [0,1,1,1,1,1,1]) 276 [tQ,tT,pU,pV,vF,xA,wZ,wY,wT,rN,rM,wX,wU] [wR,wQ,wP,wO,wN,oQ,oP,oN,oM,oL,oK,oJ,oI,oH,oG,oE,pT,pQ,BZ,pP,BY,rL,rK,rJ,rI,rH,tP,wS]) 393 [wU,wX,rM,rN,wT,wY,wZ,xA,vF,pV,pU,tT,tQ,zU,zR] [wR,wQ,wP,wO,wN,oQ,oP,oN,oM,oL,oK,oJ,oI,oH,oG,oE,pT,pQ,BZ,pP,BY,rL,rK,rJ,rI,rH,tP,wS,zQ,zP,zO,zL,zJ,zH,zG]=aB:=by kernel_rfl
def aw7:FE (fV (JS aG Γ) (VS (JS aG Γ) aG Γ 400) aG Γ 125 (gV (gD aNX) [0,1,1,1,1,1,1,1]) 393 [wU,wX,rM,rN,wT,wY,wZ,xA,vF,pV,pU,tT,tQ,zU,zR] [wR,wQ,wP,wO,wN,oQ,oP,oN,oM,oL,oK,oJ,oI,oH,oG,oE,pT,pQ,BZ,pP,BY,rL,rK,rJ,rI,rH,tP,wS,zQ,zP,zO,zL,zJ,zH,zG]) 397 [zR,zU,tQ,tT,pU,pV,vF,xA,wZ,wY,wT,rN,rM,wX,wU,DY] [wR,wQ,wP,wO,wN,oQ,oP,oN,oM,oL,oK,oJ,oI,oH,oG,oE,pT,pQ,BZ,pP,BY,rL,rK,rJ,rI,rH,tP,wS,zQ,zP,zO,zL,zJ,zH,zG]=aB:=by kernel_rfl
def aw8:FE (fV (JS aG Γ) (VS (JS aG Γ) aG Γ 400) aG Γ 125 (gV (gD aNX) [0,1,1,1,1,1,1,1,1]) 397 [zR,zU,tQ,tT,pU,pV,vF,xA,wZ,wY,wT,rN,rM,wX,wU,DY] [wR,wQ,wP,wO,wN,oQ,oP,oN,oM,oL,oK,oJ,oI,oH,oG,oE,pT,pQ,BZ,pP,BY,rL,rK,rJ,rI,rH,tP,wS,zQ,zP,zO,zL,zJ,zH,zG]) 397 [DY,wU,wX,rM,rN,wT,wY,wZ,xA,vF,pV,pU,tT,tQ,zU,zR] [wR,wQ,wP,wO,wN,oQ,oP,oN,oM,oL,oK,oJ,oI,oH,oG,oE,pT,pQ,pP,JE,rL,rK,rJ,rI,rH,tP,wS,zQ,zP,zO,zL,zJ,zH,zG]=aB:=by kernel_rfl
def aw9:FE (fV (JS aG Γ) (VS (JS aG Γ) aG Γ 400) aG Γ 125 (gV (gD aNX) [0,1,1,1,1,1,1,1,1,1]) 397 [DY,wU,wX,rM,rN,wT,wY,wZ,xA,vF,pV,pU,tT,tQ,zU,zR] [wR,wQ,wP,wO,wN,oQ,oP,oN,oM,oL,oK,oJ,oI,oH,oG,oE,pT,pQ,pP,JE,rL,rK,rJ,rI,rH,tP,wS,zQ,zP,zO,zL,zJ,zH,zG]) 476 [zR,zU,tQ,tT,pU,pV,vF,xA,wZ,wY,wT,rN,rM,wX,wU,DY,RW] [wR,wQ,wP,wO,wN,oQ,oP,oN,oM,oL,oK,oJ,oI,oH,oG,oE,pT,pQ,pP,JE,rL,rK,rJ,rI,rH,tP,wS,zQ,zP,zO,zL,zJ,zH,zG]=aB:=by kernel_rfl
def bQK:FE (fV (JS aG Γ) (VS (JS aG Γ) aG Γ 400) aG Γ 125 (gV (gD aNX) [0,1,1,1,1,1,1,1,1,1,1]) 476 [zR,zU,tQ,tT,pU,pV,vF,xA,wZ,wY,wT,rN,rM,wX,wU,DY,RW] [wR,wQ,wP,wO,wN,oQ,oP,oN,oM,oL,oK,oJ,oI,oH,oG,oE,pT,pQ,pP,JE,rL,rK,rJ,rI,rH,tP,wS,zQ,zP,zO,zL,zJ,zH,zG]) 508 [RW,DY,wU,wX,rM,rN,wT,wY,wZ,xA,vF,pV,pU,tT,tQ,zU,zR,aEK,aEJ] [wR,wQ,wP,wO,wN,oQ,oP,oN,oM,oL,oK,oJ,oI,oH,oG,oE,pT,pQ,pP,JE,rL,rK,rJ,rI,rH,tP,wS,zQ,zP,zO,zL,zJ,zH,zG]=aB:=by kernel_rfl
def bQJ:FE (fV (JS aG Γ) (VS (JS aG Γ) aG Γ 400) aG Γ 125 (gV (gD aNX) [0,1,1,1,1,1,1,1,1,1,1,1]) 508 [RW,DY,wU,wX,rM,rN,wT,wY,wZ,xA,vF,pV,pU,tT,tQ,zU,zR,aEK,aEJ] [wR,wQ,wP,wO,wN,oQ,oP,oN,oM,oL,oK,oJ,oI,oH,oG,oE,pT,pQ,pP,JE,rL,rK,rJ,rI,rH,tP,wS,zQ,zP,zO,zL,zJ,zH,zG]) 559 [aEJ,aEK,zR,zU,tQ,tT,pU,pV,vF,xA,wZ,wY,wT,rN,rM,wX,wU,DY,RW,(21,(1:Int)),(22,(353:Int))] [wR,wQ,wP,wO,wN,oQ,oP,oN,oM,oL,oK,oJ,oI,oH,oG,oE,pT,pQ,pP,JE,rL,rK,rJ,rI,rH,tP,wS,zQ,zP,zO,zL,zJ,zH,zG]=aB:=by kernel_rfl
def bQI:FE (fV (JS aG Γ) (VS (JS aG Γ) aG Γ 400) aG Γ 125 (gV (gD aNX) [0,1,1,1,1,1,1,1,1,1,1,1,1]) 559 [aEJ,aEK,zR,zU,tQ,tT,pU,pV,vF,xA,wZ,wY,wT,rN,rM,wX,wU,DY,RW,(21,(1:Int)),(22,(353:Int))] [wR,wQ,wP,wO,wN,oQ,oP,oN,oM,oL,oK,oJ,oI,oH,oG,oE,pT,pQ,pP,JE,rL,rK,rJ,rI,rH,tP,wS,zQ,zP,zO,zL,zJ,zH,zG]) 559 [(22,(353:Int)),(21,(1:Int)),RW,DY,wU,wX,rM,rN,wT,wY,wZ,xA,pV,pU,tT,tQ,zU,zR,aEK,aEJ,(0,aB)] [wR,wQ,wP,wO,wN,oQ,oP,oN,oM,oL,oK,oJ,oI,oH,oG,oE,pT,pQ,pP,JE,rL,rK,rJ,rI,rH,tP,wS,zQ,zP,zO,zL,zJ,zH,zG]=aB:=by kernel_rfl
def mN{P:Program}{Γ:dW}{nt:Nat}{Q:AQ}{k:Nat}{fr:Fr}{H:aS}{c:Code}{p:List Nat}{X:Xt}(hX:XtOk P Γ X)(n:Nat)(hc:gV c p= .seq (gV c (0::p)) (gV c (1::p))){k1:Nat}{fr1:Fr}{H1:aS}
 (h:FE (fV X (VS X P Γ n) P Γ nt (gV c (0::p)) k fr H) k1 fr1 H1=aB) (hr:W P Γ nt 0 (gV c (1::p)) Q k1 fr1 H1):W P Γ nt 0 (gV c p) Q k fr H:=a7H hX n hc k1 fr1 H1 h hr
def a6U(hG:GT Γ):AM.Pure aG Γ 13 [] aB:=by exact a0W Tryz.func13 rfl 125 rfl bB rfl rfl (mN (rZ hG) 400 rfl (aw0 (Γ:=Γ)) (mN (rZ hG) 400 rfl (aw1 (Γ:=Γ)) (mN (rZ hG) 400 rfl (aw2 (Γ:=Γ)) (mN (rZ hG) 400 rfl (aw3 (Γ:=Γ)) (mN (rZ hG) 400 rfl (aw4 (Γ:=Γ)) (mN (rZ hG) 400 rfl (aw5 (Γ:=Γ)) (mN (rZ hG) 400 rfl (aw6 (Γ:=Γ)) (mN (rZ hG) 400 rfl (aw7 (Γ:=Γ)) (mN (rZ hG) 400 rfl (aw8 (Γ:=Γ)) (mN (rZ hG) 400 rfl (aw9 (Γ:=Γ)) (mN (rZ hG) 400 rfl (bQK (Γ:=Γ)) (mN (rZ hG) 400 rfl (bQJ (Γ:=Γ)) (mN (rZ hG) 400 rfl (bQI (Γ:=Γ)) (cB rfl ⟨_,rfl,bL _⟩))))))))))))))
end Go.Proofs.T
end
section
namespace Go.AM
open Go Go.RowKit
variable{args:Array Value}{a:Assume}{s:ChangeSpec}{C:Checked}{k:IntKind}{vs:List AVal}{conds:List PathCond}{cs:List Value}{g:Nat}{x:Nat×Nat}{P:Program}{name:String}{t ty:TypeId}{X:World->Array Value->Prop}
def VN{W:World}(h:W.heap[g]? =aA (.cells cs.toArray ty x)):GlobIs W (λ b=>b<W.heap.size) g (cs.map .lit):=by
 have hg:g<W.heap.size:=(dK.1 h).1;refine⟨.rp (λ j=>cs.getD j undef) hg (λ j v hj=>?_) (λ j v hj=>?_),hg,_,_,_,h,sS⟩;.simp only[aV,aK]at hj;obtain⟨u,hu,rfl⟩:=hj;unfold World.cell?;simp[h,hu,oZ]
 simp only[aV,aK]at hj;obtain⟨u,hu,rfl⟩:=hj;have e:cs.getD j undef=u:=by simp[oZ,hu]
 simp only[e];exact .lit
def GE{W:World}(hg:P.globalNamed name=aA g)(h:W.var? P name=aA cs.toArray):GlobIs W (λ b=>b<W.heap.size) g (cs.map .lit):=by
 unfold World.var? at h;rw[hg,bVF]at h;split at h;.rename_i c t x hh;cases h;exact VN hh
 cases h
def aHH{W:World}{zero:Array Value}(h:W.ShapedOpen P)(hg:g<P.globals.size)
 (h0:((begin P (λ _ _=>0) default).world.heap[g]?).bind Obj.row? =aA (zero,t)) (hz:zero.size=1)
 (hb:P.buildable t=aB) (hc:P.cellTypes P.depth t=aA [t]) (hu:P.underlying t=aA (.int k)):∃m,GlobIs W (λ b=>b<W.heap.size) g [.lit (.int k m)]:=by
 obtain⟨m,hm⟩:=Go.Proofs.cell_of_shapedOpen_int h hg h0 hz hb hc hu;obtain⟨cs,hh,hs,_⟩:=h.1 g zero t hg h0
 have e:cs=[aE k m].toArray:=by
  unfold World.cell? at hm;simp only[hh,sZ,bP,if_false]at hm;refine aJX (by simp[hs,hz]) λ i h1 h2=>?_;have:i=0:=by simp at h2;exact h2
  subst this;rw[aW h1]at hm;simpa using hm
 rw[e]at hh;exact⟨m,VN hh⟩
def aPH{Γ:dW}{f:FuncId}{b:Bool}{W:World}(hΓ:∀g cells,look Γ g=aA cells->GlobIs W (λ b=>b<W.heap.size) g cells)(h:Pure P Γ f vs (.lit (.bool b)))
 (hv:Vs W (λ b=>b<W.heap.size) bX cQ vs args):Calls P f args W λ e W'=>e= .returned (.bool b)/\Below W.heap.size W W':=by
 refine(h 0 cQ (λ _ h=>h.elim) W _ bX args ⟨λ _ _=>rfl,λ id B A' hid=>(by simp[bK,look]at hid),λ i j b s t h=>(by cases h),λ b hb=>hb,hΓ⟩ hv).mono ?_;rintro e W' ⟨cv,G',ρ',k',r,H',rfl,⟨rfl,rfl,rfl⟩,_,_,hvr,hst⟩;have e1:cv= .bool b:=by cases hvr;rfl
 subst e1;exact⟨rfl,hst.os,hst.tape,hst.output,hst.size,λ k hk=>hst.keep k hk (λ⟨_,_,h⟩=>by cases h)⟩
def aUH{H:Type}{enc:TypeId×Value->H}{os:Go.Os}{f:FuncId}{fn:Func}{apart fresh handsOn again:Bool}
 (hX:∀(w w':World) (args:Array Value),w.heap=w'.heap->X w args->X w' args)
 (own:ownKnob C.prog.godebug=aC) (started:os.Started) (noInit:C.prog.inits.idxOf? f=aC) (hfn:C.prog.funcs[f]? =aA fn)
 (witness:∃(w:World) (tape:Tape) (i:Input),w.os=os/\(w.forCall tape i).Shaped C.prog/\i.vars=[]/\Input.okWide C.prog (w.forCall tape i) .any w.heap.size f i∧
   ((s.pre enc C.prog fn conds apart (w.forCall tape i).memory i.args/\X (w.forCall tape i).memory i.args)/\sizedMet enc C.prog fn (OpenSpec.ofChange s) apart (w.forCall tape i).memory i.args)/\a.holds C.prog (lone (Frame.enter C.prog f i.args .normal) [] (w.forCall tape i)))
 (contract:∀(W:World) (base:Nat) (args:Array Value) (ds gs:List (DataW H)) (before:List MemPlace),
   (∀(j:Nat) t v,fn.params[j]? =aA t->args[j]? =aA v->Value.okWide C.prog W .any base t v)→
   DataW.Whole enc C.prog fn.params.toList s.vars apart W args.toList ds gs before->W.ShapedOpen C.prog->X W args→
   Calls C.prog f args W λ e W'=>∃v,e= .returned v/\s.post enc C.prog fn apart fresh handsOn again W args v W'):
 ReturnsInHanded a C os f .any (λ w args=>(s.pre enc C.prog fn conds apart w args/\X w args)/\sizedMet enc C.prog fn (OpenSpec.ofChange s) apart w args) (s.post enc C.prog fn apart fresh handsOn again):=by refine returnsInHanded_of_calls own started noInit witness λ w tape i _ hsh _ hok hpre hholds=>?_;obtain⟨_,_,_,fn',hfn',_,_,_,_,hval⟩:=hok;have e:fn'=fn:=aA.inj (hfn'.symm.trans hfn);subst e;obtain⟨⟨⟨ds,gs,before,hw,hc⟩,hx⟩,hz⟩:=hpre;have hw':=DataW.Whole.of_heap (w':=w.forCall tape i) (by rfl) hw;refine(contract (w.forCall tape i) w.heap.size i.args ds gs before hval hw' hsh (hX _ _ _ (by rfl) hx)).mono λ e W' ⟨v,he,hp⟩=>?_;subst he;exact ChangeSpec.post_blind hp
end Go.AM
end
section
namespace Go.Proofs.T
open Go Go.AM Go.Proofs Go.ChangeMaps Go.ChangeShapes Go.WideShapes Go.ChangeAt Go.WideMaps Go.WideElems Go.RowKit Go.Proofs.YteimiejbhhgljaaGreatDoor
def ZC{Γ:dW}(hG:GT Γ)(x:Nums)(hx:NumsOk x)(f:Nat->Sm)(hf:∀i,SmOk (f i))(nl:Nat)(hnl:nl<=9223372036854775807)(z:Int)(hz0:0<=z)(hz1:z<=255)(y:Int)(hy0:0<=y)(hy1:y<=255):AM.Pure aG Γ 7 [.agg x.cells,.rd 8 nl (λ i=>smc (f i)),aD (aE bM z),aD (aE bM y)] aB:=TJ (a6U hG) x hx f hf nl hnl z hz0 hz1 y hy0 hy1
def a8G(u:TypeId)(h:aG.typeName? 3 u=aA "*errors.errorString"):u=353:=by
 have star: "*"++ "errors.errorString"= "*errors.errorString":=by decide
 exact typeName_ptr_named (nm:= "errors.errorString") (by rw[star];kernel_rfl) kRf dC u (by rw[star];exact h)
def bGA{W:World}(hL:laidMetH aG Rows.deltaRefusedRow.laid W)(hsh:W.ShapedOpen aG):∃Γ,GT Γ/\∀g cells,AM.look Γ g=aA cells->GlobIs W (λ b=>b<W.heap.size) g cells:=by
 have h1:laidMet aG [("internal/strconv.uint64pow10",Lib.tabData .u64 Lib.pow10Tab)] W:=laidMetH.filter (λ x=>x.1== "internal/strconv.uint64pow10") hL;have h2:laidMet aG [("strconv.ErrSyntax",Rows.laid_strconv_ErrSyntax)] W:=laidMetH.filter (λ x=>x.1== "strconv.ErrSyntax") hL;have h3:laidMet aG [("strconv.ErrRange",Rows.laid_strconv_ErrRange)] W:=laidMetH.filter (λ x=>x.1== "strconv.ErrRange") hL;have t1:=Lib.tabIs_of_head (g:=3) kRf rfl rfl rfl kRf kRf h1;obtain⟨a2,_,v2, -, -, -⟩:=laid_sentinel (g:=0) h2 kRf kRf Tryz.underlying216 a8G Tryz.underlying353 Tryz.underlying355 rfl rfl aNV kRf kRf;obtain⟨a3,_,v3, -, -, -⟩:=laid_sentinel (g:=1) h3 kRf kRf Tryz.underlying216 a8G Tryz.underlying353 Tryz.underlying355 rfl rfl aNV kRf kRf;have g1:GlobIs W (λ b=>b<W.heap.size) 3 (Lib.pow10Tab.map λ z=>aD (aE aI z)):=by have:=GE (g:=3) (cs:=Lib.pow10Tab.map λ z=>aE .u64 z) kRf t1;rw[kT]at this;exact this
 have g2:=GE (g:=0) (cs:=[Value.iface 353 (.pointer (aA a2))]) kRf v2;have g3:=GE (g:=1) (cs:=[Value.iface 353 (.pointer (aA a3))]) kRf v3;obtain⟨m,g4⟩:=aHH (g:=2) (t:=3) (k:= .i64) (zero:= #[.int .i64 0]) hsh (of_decide_eq_true kRf) kRf rfl kRf kRf aNW;refine⟨[(3,Lib.pow10Tab.map λ z=>aD (aE aI z)),(0,[.lit (.iface 353 (.pointer (aA a2)))]),(1,[.lit (.iface 353 (.pointer (aA a3)))]),(2,[m])],⟨rfl,⟨_,_,rfl⟩,⟨_,_,rfl⟩,⟨_,rfl⟩⟩,λ g cells hg=>?_⟩;simp only[AM.look]at hg;split at hg;.rename_i e;subst e;cases hg;exact g1
 split at hg;.rename_i e;subst e;cases hg;exact g2
 split at hg;.rename_i e;subst e;cases hg;exact g3
 split at hg;.rename_i e;subst e;cases hg;exact g4
 cases hg
end Go.Proofs.T
end
section
namespace Go.Proofs.T
open Go Go.Proofs Go.Proofs.YteimiejbhhgljaaGreatDoor
def jf0:(Rows.deltaRefusedRow.wf (OpenSpec.ofChange Rows.deltaRefusedSpec))=aB:=by kernel_rfl
def jf1:(laidOutB aG)=aB:=by kernel_rfl
def jf2:(mapsRowed aG)=aB:=by kernel_rfl
def jf3:(lI.params.all (aG.readableRec ·))=aB:=by kernel_rfl
def jf4:(namedTie aG Rows.deltaRefusedRow.named Rows.deltaRefusedSpec.vars)=aB:=by kernel_rfl
def jf5:((Rows.deltaRefusedRow.stops==[]))=aB:=by kernel_rfl
def jf6:((aG.stops==[]))=aB:=by kernel_rfl
def jf7:((Rows.deltaRefusedRow.knobs==[]))=aB:=by kernel_rfl
def jf8:((aG.stopKnobs==[]))=aB:=by kernel_rfl
def jf9:((Rows.deltaRefusedRow.inPlace==aG.inPlace 7))=aB:=by kernel_rfl
def bMY:((Rows.deltaRefusedRow.unfollowed==aG.unfollowed 7))=aB:=by kernel_rfl
def bMX:((Rows.deltaRefusedRow.recurses==aG.recurses 7))=aB:=by kernel_rfl
def bMW:((Rows.deltaRefusedRow.named==aG.varsNamed 7))=aB:=by kernel_rfl
def bMV:((Rows.deltaRefusedRow.maps==(lI.params.toList++Rows.deltaRefusedSpec.plain.varTypes aG).any (aG.mapsRec ·)))=aB:=by kernel_rfl
def bMU:((Rows.deltaRefusedRow.ifaces==(lI.params.toList++Rows.deltaRefusedSpec.plain.varTypes aG).any (aG.ifacesRec ·)))=aB:=by kernel_rfl
def bMT:((Rows.deltaRefusedRow.mapsOut==aG.mapsAmong lI.resultTypes.toList))=aB:=by kernel_rfl
def bMS:((Rows.deltaRefusedRow.loops==(lI.params.toList++Rows.deltaRefusedSpec.plain.varTypes aG).any (aG.loopsFrom ·)))=aB:=by kernel_rfl
def bMR:((Rows.deltaRefusedRow.wideKeys==(lI.params.toList++Rows.deltaRefusedSpec.plain.varTypes aG++lI.resultTypes.toList).any (aG.wideKeysFrom ·)))=aB:=by kernel_rfl
def bMQ:(Rows.deltaRefusedSpec.vars.all (aG.varReadable ·))=aB:=by kernel_rfl
def bMP:(lI.resultTypes.all (λ t=>aG.readableRec t&&decide (t<aG.types.size)))=aB:=by kernel_rfl
def bMO:((Rows.deltaRefusedRow.ifacesOut==lI.resultTypes.toList.any (aG.ifacesRec ·)))=aB:=by kernel_rfl
def bMN:((Rows.deltaRefusedRow.loopsOut==lI.resultTypes.toList.any (aG.loopsFrom ·)))=aB:=by kernel_rfl
def bMM:((Rows.deltaRefusedRow.plainKeys==aG.plainKeys))=aB:=by kernel_rfl
def bML:(Rows.deltaRefusedRow.shortTexts.isNone)=aB:=by kernel_rfl
def bMK:(aG.stopsHeard)=aB:=by kernel_rfl
def bMJ:(aG.mayEnter)=aB:=by kernel_rfl
def bMI:((Rows.deltaRefusedRow.lifted==aG.liftsFinal))=aB:=by kernel_rfl
def bMH:((aG.make==aA Rows.deltaRefusedRow.make))=aB:=by kernel_rfl
def bMG:((Rows.deltaRefusedRow.kinds==(if Rows.deltaRefusedRow.domain.isEmpty then []else lI.params.toList.map λ t=>match aG.underlying t with|some (.int k)=>aA k|_=>aC)))=aB:=by kernel_rfl
def bMF:((Rows.deltaRefusedRow.pinned==Rows.deltaRefusedRow.pinnedBy))=aB:=by kernel_rfl
def bME:((Rows.deltaRefusedRow.veiled==(lI.params.toList++Rows.deltaRefusedSpec.plain.varTypes aG++lI.resultTypes.toList).any (aG.veiledRec ·)))=aB:=by kernel_rfl
def bMD:(Rows.deltaRefusedRow.veiledFits aG lI.params.toList (lI.params.toList++Rows.deltaRefusedSpec.plain.varTypes aG++lI.resultTypes.toList))=aB:=by kernel_rfl
def jf:joinedFacts aG 7 lI Rows.deltaRefusedSpec Rows.deltaRefusedRow=aB:=by unfold joinedFacts;simp only[aO];exact⟨⟨⟨⟨⟨⟨⟨⟨⟨⟨⟨⟨⟨⟨⟨⟨⟨⟨⟨⟨⟨⟨⟨⟨⟨⟨⟨⟨⟨⟨⟨jf0,jf1⟩,jf2⟩,jf3⟩,jf4⟩,jf5⟩,jf6⟩,jf7⟩,jf8⟩,jf9⟩,bMY⟩,bMX⟩,bMW⟩,bMV⟩,bMU⟩,bMT⟩,bMS⟩,bMR⟩,bMQ⟩,bMP⟩,bMO⟩,bMN⟩,bMM⟩,bML⟩,bMK⟩,bMJ⟩,bMI⟩,bMH⟩,bMG⟩,bMF⟩,bME⟩,bMD⟩
end Go.Proofs.T
end
section
namespace Go.Proofs.T
open Go Go.AM Go.Proofs Go.ChangeMaps Go.ChangeShapes Go.WideShapes Go.ChangeAt Go.WideMaps Go.WideElems Go.RowKit Go.Proofs.YteimiejbhhgljaaGreatDoor
def aSP:Value:= .agg #[.int .u8 0,.int .u8 0,.int .u32 0,.int .u8 0,.int .u8 0,.int .u8 0,.int .u8 0,.int .u8 0,.int .u16 0,.int .u16 0,.int .u16 0,.int .u16 0,.int .u16 0]
def a1U{W:World}{G:Nat->Prop}{ρ:dH}{A:cF}{a b c d:AVal}{x y z u:Value}(h:V W G ρ A a x)(h':V W G ρ A b y)(h'':V W G ρ A c z)(h3:V W G ρ A d u):Vs W G ρ A [a,b,c,d] #[x,y,z,u]:=
 ⟨rfl,λ j w hj=>by
  match j with
  |0=>cases hj;exact h
  |1=>cases hj;exact h'
  |2=>cases hj;exact h''
  |3=>cases hj;exact h3
  |j+4=>simp at hj⟩
def aWE(os:Os)(started:os.Started)(H:Type)(enc:TypeId×Value->H):
 ReturnsInHanded {} Tryz.checked os 7 .any (λ w args=>(Rows.deltaRefusedSpec.pre enc aG lI [] aF w args/\laidMetH aG Rows.deltaRefusedRow.laid w)/\sizedMet enc aG lI (OpenSpec.ofChange Rows.deltaRefusedSpec) aF w args)
  (Rows.deltaRefusedSpec.post enc aG lI aF aB aF aF):=by
 refine aUH (C:=Tryz.checked) (X:=λ w _=>laidMetH aG Rows.deltaRefusedRow.laid w) (λ _ _ _ hh h=>h.of_heap hh) bLR started kRf Tryz.func7
  (ChangeSpec.witness_shaped (enc:=enc) (C:=Tryz.checked) (os:=os) (X:=λ w _=>laidMetH aG Rows.deltaRefusedRow.laid w) aF (World.laidAll aG os Rows.deltaRefusedRow.laid) #[aSP,.slice aC 0 0,.int .u8 0,.int .u8 0] 8 (World.laidAll_os _ _ _) (World.shaped_of_ZipB kRf kRf) kRf kRf kRf
    (by rw[MakeChecks.laidMetH_plain _ _ _ kRf];exact laidMet_laidAll _ kRf kRf)) ?_
 intro W base args ds gs before hval0 hW hsh hL;have hval:∀(j:Nat) t v,lI.params[j]? =aA t->args[j]? =aA v->Value.okWide aG W .any base t v:=hval0;have hW':=hW;obtain⟨p,q,hA0,hV,rfl,hfz,hnd⟩:=hW;have hA:DataW.TrodAll enc aG W 0 (λ _=>aB) aB lI.params.toList args.toList ds p:=hA0;rw[Tryz.params7]at hA hval;obtain⟨v0,v1,v2,v3,d0,d1,d2,d3,p0,p1,p2,p3,rfl,rfl,rfl,h0,h1,h2,h3⟩:=trodAll_four hA;obtain⟨rfl,rfl⟩:=trodVars_none hV;clear hA0 hval0;obtain⟨x,hx,hv0⟩:=a3T (hval 0 55 v0 rfl rfl) h0;obtain⟨n,f,hn,hf,hv1⟩:=aOT (hval 1 56 v1 rfl rfl) h1;obtain⟨z,rfl,rfl,rfl,hz⟩:=open_int gX (hval 2 5 v2 rfl rfl) h2;obtain⟨y,rfl,rfl,rfl,hy⟩:=open_int gX (hval 3 5 v3 rfl rfl) h3;have hz':=vR hz;have hy':=vR hy;obtain⟨Γ,hG,hΓ⟩:=bGA hL hsh;refine(aPH hΓ (ZC hG x hx f hf n hn z hz'.1 hz'.2 y hy'.1 hy'.2) (a1U hv0 hv1 (.lit (v:= .int .u8 z)) (.lit (v:= .int .u8 y)))).mono λ e W' ⟨he,hb⟩=>?_;subst he;have hlt0:∀x∈p0,x.block<W.heap.size:=λ x hx=>hW'.lt x (by simp[hx]);have hlt1:∀x∈p1,x.block<W.heap.size:=λ x hx=>hW'.lt x (by simp[hx]);refine⟨_,rfl,_,_,_,[],p0++(p1++[]),[],hW',?_,?_,rfl,TF hb _,λ h=>by cases h⟩;.exact trodAll_mk1 (shut_bool Tryz.underlying4 aB)
 exact trodAll_mk4 (Below.trod aLV kRf (of_decide_eq_true kRf) h0 hb hlt0) (Below.trod aLV kRf (of_decide_eq_true kRf) h1 hb hlt1) (shut_int gX hz) (shut_int gX hy)
def deltaRefused_holds:Rows.DeltaRefusedSaid:=
 OpenClaim.holds_of_wide 7 lI rfl rfl rfl rfl rfl rfl rfl ⟨rfl,rfl,rfl,rfl,rfl⟩ rfl rfl rfl rfl rfl kRf Tryz.func7 jf
  (of_decide_eq_true kRf) (by unfold Func.isWrapper;first|(rw[iP (by decide+kernel)];kernel_rfl)|(rw[iN (by decide+kernel)];exact⟨rfl,rfl⟩))
  (λ os started H enc _=>aWE os started H enc)
end Go.Proofs.T
end
