import Derived.Test.YteimiejbhhgljaaGreatDoorZAS
import Derived.Shelf.Strings.Cut
import Derived.Shelf.Strings.Search3
import Derived.Shelf.Pu.ParseUintPublic10
import Derived.SizedLaws
import Derived.HandedShaped
import Derived.Stop.LaidErr
import Derived.LaidSub
import Derived.Shelf.Vars
import Derived.Test.YteimiejbhhgljaaGreatDoorRows
import Derived.ChangeMaps5
import Derived.Lay
import Derived.MakeChecks
import Derived.JoinedOf
import Derived.Carry
set_option linter.unusedVariables false
set_option linter.unusedSimpArgs false
set_option maxHeartbeats 0
set_option maxRecDepth 100000
open Array renaming ext->aFB,getD_eq_getD_getElem?->aD,getElem?_append_left->gR,getElem?_eq_getElem->aP,getElem?_eq_some_iff->cZ,getElem?_toList->bA
open Bool renaming and_eq_true->aC,false_eq_true->aO
open Int renaming natCast_nonneg->KB
open List renaming all_eq_true->aW,getD_eq_getElem?_getD->bD,getElem?_cons_zero->iX,getElem?_eq_getElem->aE,getElem?_map->aQ,getElem_mem->bKH,length_map->bP,map->jL,map_append->aH,map_cons->bG,map_map->jD,map_nil->aV,mem_cons->jK,mem_cons_of_mem->fP,range->aM,range_succ->CI
open Nat renaming add_assoc->fS,add_sub_cancel->rN,add_sub_cancel_left->iW,le_of_ble_eq_true->qU,le_refl->aF,mul_one->bAM,sub_self->PG
open Option renaming bind_some->bKF,isSome_none->lA,map_eq_some_iff->aB,map_some->cB,some->mB
open Go.Proofs.Tryz renaming f13->aHP,f5->vJ,prog->aA,underlying216->a0P,underlying26->bAI,underlying3->dB,underlying33->CH,underlying353->a0N,underlying355->a0M,underlying36->bAH,underlying4->lW,underlying9->kC
open Go.Value renaming int->bC,okWide->bFS,slice->dK
section
namespace Go.Proofs.T
open Go Go.AM Go.Proofs Go.Lib Go.RowKit Go.Shelf
variable{Γ:List (Nat×List AVal)}
theorem ZW{w:World}{G:Nat->Prop}{ρ:cM}{A:bU}{u v x:Value}{cs:Array Value}(h:Vs w G ρ A [.lit u,.lit v,.lit x] cs):cs= #[u,v,x]:=by
 obtain⟨h1,h2⟩:=h;have hs:cs.size=3:=by simpa using h1.symm
 have e0:=AM.V_lit (h2 0 _ rfl);have e1:=AM.V_lit (h2 1 _ rfl);have e2:=AM.V_lit (h2 2 _ rfl);rw[aD]at e0 e1 e2;refine aFB (by simp[hs]) λ i hi hj=>?_;have:i=0\/i=1\/i=2:=oO;rcases this with rfl|rfl|rfl;.rw[aP hi]at e0;simpa using e0
 .rw[aP hi]at e1;simpa using e1
 rw[aP hi]at e2;simpa using e2
theorem aCF(w:World)(k:Nat)(os:Array Obj):Below w.heap.size w (Sort.grow (w.drewN k) os):=
 ⟨rfl,rfl,rfl,by first|(simp[Sort.grow];done)|(simp[Sort.grow];omega),λ i hi=>by show((w.drewN k).heap++os)[i]? =_;rw[gR (by show i<w.heap.size;omega)];rfl⟩
theorem bDE(u:Nat)(hu64:u<18446744073709551616)(w:World)(htab:Lib.TabIs aA w "internal/strconv.uint64pow10" .u64 Lib.pow10Tab):
 Calls aA 219 #[.int .u64 u,.int .i64 10] w λ e w'=>e= .returned (.string ⟨(Lib.decDigits u).toArray⟩)/\∃k os,w'=Sort.grow (w.drewN k) os:=by
 have e262:∀args w,(callFunc 262 args).run aA w= .ok (.enter 262 args) w:=enters_of Tryz.func262 (by kernel_rfl) rfl;go_enter Tryz.func219,Tryz.ntmps219
 go_wp2_with (go_at_fn 262;refine(aYG u hu64 _ htab).mono ?_;rintro e w' ⟨rfl,k,os,rfl⟩)
 go_ret
 exact⟨rfl,k,os,rfl⟩
theorem a7M(hG:GT Γ)(u:Nat)(hu:u<18446744073709551616):AM.Pure aA Γ 219 [.lit (.int .u64 (u:Int)),(10:Int)] (.lit (.string (str (decDigits u)))):=
 lX rfl λ w G args hg hv=>by rw[VI hv];refine(bDE u hu w ((hg _ _ hG.pow).tab (by kernel_rfl))).mono ?_;rintro e w' ⟨rfl,k,os,rfl⟩;exact⟨_,rfl,aCF _ _ _,.lit⟩
theorem a9T(hG:GT Γ)(l sep:List UInt8)(hl:l.length<4294967281):AM.Pure aA Γ 224 [.lit (.string (str l)),.lit (.string (str sep))] (.tup [.lit (.string (str (Lib.cut l sep).1)),.lit (.string (str (Lib.cut l sep).2.1)),.lit (.bool (Lib.cut l sep).2.2)]):=by
 obtain⟨m,h1⟩:=hG.maxL
 exact lX rfl λ w G args hg hv=>by
  rw[VI hv];have hs:(str l).size<4294967281:=by simpa [ByteArray.size]using hl
  refine(Any.strings_Cut Tryz.layCut (str l) (str sep) m w hs ((hg _ _ h1).cell rfl)).mono ?_;rintro e w' ⟨rfl,n,rfl⟩;refine⟨_,rfl,⟨rfl,rfl,rfl,aF _,λ i hi=>rfl⟩,.tup rfl λ j v hj=>?_⟩
  match j,hj with
  |0,hj=>cases hj;exact .lit
  |1,hj=>cases hj;exact .lit
  |2,hj=>cases hj;exact .lit
  |j+3,hj=>simp at hj
theorem aDS(hG:GT Γ)(l sub:List UInt8)(hl:l.length<4294967281):AM.Pure aA Γ 225 [.lit (.string (str l)),.lit (.string (str sub))] (Lib.contains l sub):=by
 obtain⟨m,h1⟩:=hG.maxL
 exact lX rfl λ w G args hg hv=>by
  rw[VI hv];have hs:(str l).size<4294967281:=by simpa [ByteArray.size]using hl
  refine(Any.strings_Contains Tryz.layContains (str l) (str sub) m w hs ((hg _ _ h1).cell rfl)).mono ?_;rintro e w' ⟨rfl,rfl⟩;exact⟨_,rfl,Below.refl _ _,.lit⟩
theorem aMB{w:World}{G:Nat->Prop}{ρ:cM}{A:bU}{n:Int}{x:Value}:V w G ρ A (.tup [.lit (.int .u64 n),.junk]) (.tuple #[.int .u64 n,x]):=by
 refine .tup rfl λ j v hj=>?_
 match j with
 |0=>cases hj;exact .lit
 |1=>cases hj;exact .junk
 |j+2=>simp at hj
theorem a3C(hG:GT Γ)(l:List UInt8)(hl:l.length<=281474976710656):AM.Pure aA Γ 152 [.lit (.string (str l)),(10:Int),(64:Int)] (.tup [.lit (.int .u64 (puV 64 l)),.junk]):=by
 obtain⟨te,pe,hS⟩:=hG.errS;obtain⟨te',pe',hR⟩:=hG.errR
 exact lX rfl λ w G args hg hv=>by
  rw[ZW hv];have hs:(str l).size<=281474976710656:=by simpa [ByteArray.size]using hl
  have hd:(str l).data.toList=l:=by simp
  cases h:parseUintB 64 l
  .rename_i v;refine(Any.strconv_ParseUint_10_at64_ok Tryz.layPu (str l) oO v (by rw[hd];exact h) w).mono ?_;rintro e w' ⟨rfl,hw⟩;refine⟨_,rfl,?_,by rw[puV,h];exact aMB⟩;rcases hw with rfl|rfl;.exact Below.refl _ _
   exact Lib.bytesWorld_below _ _ _
  .refine(Any.strconv_ParseUint_10_at64_syntax Tryz.layPu (str l) hs (by rw[hd];exact h) (.iface te pe) w ((hg _ _ hS).cell rfl) (.inr ⟨_,_,rfl⟩)).mono ?_;rintro e w' ⟨N,rfl,_,_,hb⟩;exact⟨_,rfl,hb,by rw[puV,h];exact aMB⟩
  refine(Any.strconv_ParseUint_10_at64_range Tryz.layPu (str l) hs (by rw[hd];exact h) (.iface te' pe') w ((hg _ _ hR).cell rfl) (.inr ⟨_,_,rfl⟩)).mono ?_;rintro e w' ⟨N,rfl,_,_,hb⟩;exact⟨_,rfl,hb,by rw[puV,h];exact aMB⟩
theorem a3D(hG:GT Γ)(l:List UInt8)(hl:l.length<=281474976710656):AM.Pure aA Γ 152 [.lit (.string (str l)),(10:Int),(32:Int)] (.tup [.lit (.int .u64 (puV 32 l)),.junk]):=by
 obtain⟨te,pe,hS⟩:=hG.errS;obtain⟨te',pe',hR⟩:=hG.errR
 exact lX rfl λ w G args hg hv=>by
  rw[ZW hv];have hs:(str l).size<=281474976710656:=by simpa [ByteArray.size]using hl
  have hd:(str l).data.toList=l:=by simp
  cases h:parseUintB 32 l
  .rename_i v;refine(Any.strconv_ParseUint_10_at32_ok Tryz.layPu (str l) oO v (by rw[hd];exact h) w).mono ?_;rintro e w' ⟨rfl,hw⟩;refine⟨_,rfl,?_,by rw[puV,h];exact aMB⟩;rcases hw with rfl|rfl;.exact Below.refl _ _
   exact Lib.bytesWorld_below _ _ _
  .refine(Any.strconv_ParseUint_10_at32_syntax Tryz.layPu (str l) hs (by rw[hd];exact h) (.iface te pe) w ((hg _ _ hS).cell rfl) (.inr ⟨_,_,rfl⟩)).mono ?_;rintro e w' ⟨N,rfl,_,_,hb⟩;exact⟨_,rfl,hb,by rw[puV,h];exact aMB⟩
  refine(Any.strconv_ParseUint_10_at32_range Tryz.layPu (str l) hs (by rw[hd];exact h) (.iface te' pe') w ((hg _ _ hR).cell rfl) (.inr ⟨_,_,rfl⟩)).mono ?_;rintro e w' ⟨N,rfl,_,_,hb⟩;exact⟨_,rfl,hb,by rw[puV,h];exact aMB⟩
theorem a0A(hG:GT Γ)(l:List UInt8)(hl:l.length<=281474976710656)(v:Int)(h:atoiAll l= .ok v):AM.Pure aA Γ 150 [.lit (.string (str l))] (.tup [v,.lit .nilIface]):=
 lX rfl λ w G args hg hv=>by
  rw[aET hv];have hs:(str l).size<=281474976710656:=by simpa [ByteArray.size]using hl
  have hd:(str l).data.toList=l:=by simp
  refine(Any.strconv_Atoi_ok Tryz.layAtoi (str l) oO v (by rw[hd];exact h) w).mono ?_;rintro e w' ⟨rfl,hw⟩;refine⟨_,rfl,?_,.tup rfl λ j u hj=>?_⟩
  .rcases hw with rfl|⟨t,rfl⟩;.exact Below.refl _ _
   exact Lib.bytesWorld_below _ _ _
  match j,hj with
  |0,hj=>cases hj;exact .lit
  |1,hj=>cases hj;exact .lit
  |j+2,hj=>simp at hj
end Go.Proofs.T
end
section
namespace Go.Proofs.T
open Go Go.AM Go.Proofs Go.Lib
variable{Γ:List (Nat×List AVal)}
theorem aXT(n:Int)(h0: -9223372036854775808<=n)(h1:n<=9223372036854775807):a7G n=Lib.itoa n:=by
 cases n with
 |ofNat u=>
  have hu:u<10^20:=by have h2:u<=9223372036854775807:=Int.ofNat_le.1 h1;clear h1 h0;omega
  show YX 20 u=_;rw[EY 19 u hu,Lib.itoa,if_neg (show ¬(Int.ofNat u<0)from Int.not_lt.2 (KB u))];rfl
 |negSucc u=>
  have hu:u+1<10^20:=by have: -((u:Int)+1)≥ -9223372036854775808:=by rw[<-Int.negSucc_eq];exact h0
                        omega
  show 45::YX 20 (u+1)=_;rw[EY 19 (u+1) hu,Lib.itoa,if_pos (Int.negSucc_lt_zero u)];rfl
theorem AX:∀l,tN l≠[]
 |[]=>by simp[tN]
 |c::r=>by
  rw[tN];split;.simp
  .simp
  simp
theorem PO:∀l,∀w∈tN l,(32:UInt8)∉w
 |[]=>by simp[tN]
 |c::r=>by
  have ih:=PO r;rw[tN];split
  .intro w hw;rcases jK.1 hw with rfl|hw;.simp
   exact ih w hw
  .rename_i w ws h1 h2;intro x hx;rcases jK.1 hx with rfl|hx
   .intro hm;rcases jK.1 hm with e|hm;.rw[<-e]at h1;simp at h1
    exact ih w (by rw[h2];simp) hm
   exact ih x (by rw[h2];exact fP _ hx)
  rename_i h1 h2;exact absurd h2 (AX r)
theorem aXS(c:UInt8)(w:List UInt8)(ws:List (List UInt8)):jn ((c::w)::ws)=c::jn (w::ws):=by
 cases ws with
 |nil=>rfl
 |cons x r=>rfl
theorem PN:∀l,jn (tN l)=l
 |[]=>rfl
 |c::r=>by
  have ih:=PN r;rw[tN];split
  .rename_i ws h1;rw[aGL (AX r),ih]
   have:c=32:=by
    have h:c.toNat=32:=by simpa using h1
    exact UInt8.toNat_inj.1 (by rw[h];rfl)
   rw[this];rfl
  .rename_i w ws h1 h2;rw[aXS,<-h2,ih]
  rename_i h1 h2;exact absurd h2 (AX r)
theorem SH(l:List UInt8):Lib.split l [32]=tN l:=by have:=WJ (AX l) (PO l);rw[PN]at this;exact this
def GF(s:ByteArray):Bool:=Nat.ble s.data.toList.length 4294967280
def a2O(f:FuncId)(k:Nat)(args:List AVal)(H:aS):Option (Nat×AVal×aS):=
 match H with
 | []=>match f,args with
   | 216,[.lit (.int .i64 n)]=>match decide (-9223372036854775808<=n),decide (n<=9223372036854775807)with
     |true,true=>some (k,.lit (.string (str (a7G n))),[])
     |_,_=>none
   | 219,[.lit (.int .u64 (.ofNat u)),.lit (.int .i64 10)]=>match Nat.blt u 18446744073709551616 with
     |true=>some (k,.lit (.string (str (YX 20 u))),[])
     |false=>none
   | 144,[.lit (.string s),.lit (.string p)]=>match GF s,decide (p.data.toList=[32])with
     |true,true=>some (k,aWC (tN s.data.toList),[])
     |_,_=>none
   | 150,[.lit (.string s)]=>match GF s with
     | true=>match atoiAll s.data.toList with
       | .ok v=>some (k,.tup [.lit (.int .i64 v),.lit .nilIface],[])
       |_=>some (k,.tup [.lit (.int .i64 (NQ s.data.toList)),.junk],[])
     |false=>none
   | 152,[.lit (.string s),.lit (.int .i64 10),.lit (.int .i64 b)]=>match GF s with
     | true=>match b with
       |64=>some (k,.tup [.lit (.int .u64 (puV 64 s.data.toList)),.junk],[])
       |32=>some (k,.tup [.lit (.int .u64 (puV 32 s.data.toList)),.junk],[])
       |_=>none
     |false=>none
   | 224,[.lit (.string s),.lit (.string p)]=>match GF s with
     |true=>some (k,.tup [.lit (.string (str (Lib.cut s.data.toList p.data.toList).1)),.lit (.string (str (Lib.cut s.data.toList p.data.toList).2.1)),.lit (.bool (Lib.cut s.data.toList p.data.toList).2.2)],[])
     |false=>none
   | 225,[.lit (.string s),.lit (.string p)]=>match GF s with
     |true=>some (k,.lit (.bool (Lib.contains s.data.toList p.data.toList)),[])
     |false=>none
   |_,_=>none
 |_::_=>none
def FX(P:Program)(Γ:List (Nat×List AVal)):Xt:=⟨opD P Γ,aPV,a2O⟩
theorem wP{s:ByteArray}(h:GF s=true):s.data.toList.length<4294967281:=by have:=qU h;omega
theorem aVT(hG:GT Γ){f:FuncId}{k:Nat}{args:List AVal}{H:aS}{k':Nat}{v:AVal}{H':aS}(h:a2O f k args H=some (k',v,H')):Tr aA Γ f k args H (λ k1 r1 H1=>k1=k'/\r1=v/\H1=H'):=by
 unfold a2O at h;split at h
 .split at h
  .rename_i n;split at h;.rename_i h1 h2;cases h;have h1:=of_decide_eq_true h1;have h2:=of_decide_eq_true h2;rw[aXT n h1 h2];exact a4A hG n h1 h2 k
   cases h
  .rename_i u;split at h
   .rename_i h1;cases h;have hu:u<18446744073709551616:=by rw[Nat.blt_eq]at h1;exact h1
    rw[EY 19 u oO];exact a7M hG u hu k
   cases h
  .rename_i s p;split at h
   .rename_i h1 h2;cases h;have h2:=of_decide_eq_true h2;have e:p=str [32]:=by rw[<-aNK p,h2]
    rw[<-SH,e];have:=aWF hG s.data.toList (wP h1) k;exact this
   cases h
  .rename_i s;split at h
   .rename_i h1;have hl:s.data.toList.length<=281474976710656:=by have:=wP h1;omega
    split at h;.rename_i v hv;cases h;have:=a0A hG s.data.toList hl v hv k;exact this
    cases h;have:=a5H hG s.data.toList hl k;exact this
   cases h
  .rename_i s b;split at h
   .rename_i h1;have hl:s.data.toList.length<=281474976710656:=by have:=wP h1;omega
    split at h;.cases h;have:=a3C hG s.data.toList hl k;exact this
    .cases h;have:=a3D hG s.data.toList hl k;exact this
    cases h
   cases h
  .rename_i s p;split at h;.rename_i h1;cases h;have:=a9T hG s.data.toList p.data.toList (wP h1) k;exact this
   cases h
  .rename_i s p;split at h;.rename_i h1;cases h;have:=aDS hG s.data.toList p.data.toList (wP h1) k;exact this
   cases h
  cases h
 cases h
theorem rA(hG:GT Γ):XtOk aA Γ (FX aA Γ):=⟨λ _ _ _ _ _ h=>aPF h,λ _ _ _ _ _ h=>aBY h,λ _ _ _ _ _ _ _ h=>aVT hG h⟩
end Go.Proofs.T
end
section
namespace Go.Proofs.T
open Go Go.AM Go.Proofs
variable{Γ:List (Nat×List AVal)}
def tB:Nat×AVal:=(0,.lit (.bool false))
def uV:Nat×AVal:=(1,.ptr 37 0 0)
def uT:Nat×AVal:=(2,.ptr 38 0 0)
def uS:Nat×AVal:=(3,.sl 35 0 4)
def uP:Nat×AVal:=(4,.sl 36 0 4)
def uN:Nat×Blk:=(10,⟨2,true,[[.lit (.int .i64 0),.lit (.int .i64 1)]]⟩)
def uM:Nat×Blk:=(12,⟨1,true,[[.lit (.int .i64 0)],[.lit (.int .i64 0)]]⟩)
def uL:Nat×Blk:=(14,⟨1,true,[[.lit (.int .i64 0)],[.lit (.int .i64 0)]]⟩)
def uK:Nat×Blk:=(15,⟨8,true,[]⟩)
def uJ:Nat×Blk:=(17,⟨3,true,[[.lit (.int .u64 0),.lit (.int .u32 0),.lit (.int .u64 0)],[.lit (.int .u64 0),.lit (.int .u32 0),.lit (.int .u64 0)]]⟩)
def nO:Nat×Blk:=(19,⟨1,false,[[.sl 17 0 2]]⟩)
def nN:Nat×Blk:=(23,⟨3,true,[[.lit (.int .u64 0),.lit (.int .u32 0),.lit (.int .u64 3072)],[.lit (.int .u64 0),.lit (.int .u32 0),.lit (.int .u64 0)]]⟩)
def nM:Nat×Blk:=(25,⟨1,false,[[.sl 23 0 2]]⟩)
def nL:Nat×Blk:=(28,⟨2,true,[[.lit (.int .i64 0),.lit (.int .i64 1)]]⟩)
def nK:Nat×Blk:=(32,⟨1,true,[[.lit (.int .i64 3)],[.lit (.int .i64 0)]]⟩)
def nJ:Nat×Blk:=(33,⟨1,true,[[.lit (.int .i64 5)],[.lit (.int .i64 0)]]⟩)
def nI:Nat×Blk:=(34,⟨8,true,[[.lit (.int .i64 5),.lit (.int .i64 0),.lit (.int .i64 1024),.lit (.int .i64 0),.lit (.int .u64 1),.lit (.bool true),.lit (.int .u64 3072),.lit (.int .u32 0)]]⟩)
def nH:Nat×Blk:=(35,⟨1,true,[[.lit (.string ⟨#[99,108,111,99,107,32,48,32,51]⟩)],[.lit (.string ⟨#[99,117,114,114,101,110,116,32,48,32,53]⟩)],[.lit (.string ⟨#[116,97,115,107,32,53,32,48,32,49,48,50,52,32,48,32,48,32,114,101,97,100,121,32,51,48,55,50,32,48]⟩)],[.lit (.string ⟨#[115,112,111,116,32,48,32,48,32,48,32,48,32,51,48,55,50]⟩)]]⟩)
def nG:Nat×Blk:=(36,⟨1,true,[[.lit (.string ⟨#[99,108,111,99,107,32,48,32,48]⟩)],[.lit (.string ⟨#[99,117,114,114,101,110,116,32,48,32,48]⟩)],[.lit (.string ⟨#[103,111,110,101,32,53]⟩)],[.lit (.string ⟨#[115,112,111,116,32,48,32,48,32,48,32,48,32,48]⟩)]]⟩)
def nF:Nat×Blk:=(37,⟨7,false,[[.lit (.int .i64 2),.lit (.int .u64 0),.sl 10 0 1,.sl 12 0 2,.sl 14 0 2,.slc 15 0 0 0,.sl 19 0 1]]⟩)
def nE:Nat×Blk:=(38,⟨7,false,[[.lit (.int .i64 2),.lit (.int .u64 0),.sl 28 0 1,.sl 32 0 2,.sl 33 0 2,.sl 34 0 1,.sl 25 0 1]]⟩)
def oX:Nat×AVal:=(5,.ptr 113 0 0)
def oW:Nat×AVal:=(6,.lit (.int .i64 0))
def oU:Nat×Blk:=(97,⟨2,true,[[.lit (.int .i64 0),.lit (.int .i64 3)]]⟩)
def oT:Nat×Blk:=(99,⟨2,true,[[.lit (.int .i64 0),.lit (.int .i64 5)]]⟩)
def zC:Nat×Blk:=(105,⟨8,true,[[.lit (.int .i64 5),.lit (.int .i64 0),.lit (.int .i64 1024),.lit (.int .i64 0),.lit (.int .u64 1),.lit (.bool true),.lit (.int .u64 3072),.lit (.int .u32 0)]]⟩)
def oS:Nat×Blk:=(111,⟨5,true,[[.lit (.int .i64 0),.lit (.int .i64 0),.lit (.int .u64 0),.lit (.int .u32 0),.lit (.int .u64 3072)]]⟩)
def zB:Nat×Blk:=(113,⟨6,false,[[.sl 97 0 1,.sl 99 0 1,.lit (.slice none 0 0),.lit (.slice none 0 0),.sl 105 0 1,.sl 111 0 1]]⟩)
def qM:Nat×AVal:=(7,.ptr 197 0 0)
def qL:Nat×AVal:=(8,.lit (.int .i64 0))
def qK:Nat×Blk:=(182,⟨2,true,[[.lit (.int .i64 0),.lit (.int .i64 0)]]⟩)
def qJ:Nat×Blk:=(184,⟨2,true,[[.lit (.int .i64 0),.lit (.int .i64 0)]]⟩)
def qI:Nat×Blk:=(190,⟨1,true,[[.lit (.int .i64 5)]]⟩)
def qH:Nat×Blk:=(195,⟨5,true,[[.lit (.int .i64 0),.lit (.int .i64 0),.lit (.int .u64 0),.lit (.int .u32 0),.lit (.int .u64 0)]]⟩)
def qG:Nat×Blk:=(197,⟨6,false,[[.sl 182 0 1,.sl 184 0 1,.lit (.slice none 0 0),.sl 190 0 1,.lit (.slice none 0 0),.sl 195 0 1]]⟩)
def rX:Nat×AVal:=(9,.sl 239 0 4)
def rW:Nat×AVal:=(10,.lit (.int .i64 0))
def rV:Nat×Blk:=(239,⟨1,true,[[.lit (.string ⟨#[99,108,111,99,107,32,48,32,51]⟩)],[.lit (.string ⟨#[99,117,114,114,101,110,116,32,48,32,53]⟩)],[.lit (.string ⟨#[116,97,115,107,32,53,32,48,32,49,48,50,52,32,48,32,48,32,114,101,97,100,121,32,51,48,55,50,32,48]⟩)],[.lit (.string ⟨#[115,112,111,116,32,48,32,48,32,48,32,48,32,51,48,55,50]⟩)]]⟩)
def uR:Nat×AVal:=(11,.sl 275 0 4)
def uQ:Nat×AVal:=(12,.lit (.int .i64 0))
def uO:Nat×Blk:=(275,⟨1,true,[[.lit (.string ⟨#[99,108,111,99,107,32,48,32,48]⟩)],[.lit (.string ⟨#[99,117,114,114,101,110,116,32,48,32,48]⟩)],[.lit (.string ⟨#[103,111,110,101,32,53]⟩)],[.lit (.string ⟨#[115,112,111,116,32,48,32,48,32,48,32,48,32,48]⟩)]]⟩)
def xV:Nat×AVal:=(13,.ptr 392 0 0)
def xU:Nat×AVal:=(14,.lit (.int .i64 0))
def xT:Nat×Blk:=(300,⟨2,true,[[.lit (.int .i64 0),.lit (.int .i64 1)]]⟩)
def xS:Nat×Blk:=(302,⟨1,true,[[.lit (.int .i64 3)],[.lit (.int .i64 0)]]⟩)
def xR:Nat×Blk:=(304,⟨1,true,[[.lit (.int .i64 5)],[.lit (.int .i64 0)]]⟩)
def xQ:Nat×Blk:=(307,⟨1,false,[[.sl 309 0 2]]⟩)
def xP:Nat×Blk:=(309,⟨3,true,[[.lit (.int .u64 0),.lit (.int .u32 0),.lit (.int .u64 3072)],[.lit (.int .u64 0),.lit (.int .u32 0),.lit (.int .u64 0)]]⟩)
def xO:Nat×Blk:=(313,⟨8,true,[[.lit (.int .i64 5),.lit (.int .i64 0),.lit (.int .i64 1024),.lit (.int .i64 0),.lit (.int .u64 1),.lit (.bool true),.lit (.int .u64 3072),.lit (.int .u32 0)]]⟩)
def xN:Nat×Blk:=(392,⟨7,false,[[.lit (.int .i64 2),.lit (.int .u64 0),.sl 300 0 1,.sl 302 0 2,.sl 304 0 2,.sl 313 0 1,.sl 307 0 1]]⟩)
def AS:Nat×AVal:=(84,.lit (.bool false))
def FE:Nat×Blk:=(113,⟨6,false,[[.sl 97 0 1,.sl 99 0 1,.lit (.slice none 0 0),.lit (.slice none 0 0),.lit (.slice none 0 0),.sl 111 0 1]]⟩)
def NP:Nat×AVal:=(16,.lit (.int .i64 352))
def ZP:Nat×AVal:=(18,.lit (.int .i64 0))
def ZO:Nat×AVal:=(19,.lit (.int .i64 353))
theorem aw0:BZ (dU (FX aA Γ) (RI (FX aA Γ) aA Γ 400) aA Γ 125 (fR (dZ aHP) [0]) 0 [] []) 0 [tB] []=true:=by kernel_rfl
theorem aw1:BZ (dU (FX aA Γ) (RI (FX aA Γ) aA Γ 400) aA Γ 125 (fR (dZ aHP) [0,1]) 0 [tB] []) 39 [tB,uV,uT,uS,uP] [uN,uM,uL,uK,uJ,nO,nN,nM,nL,nK,nJ,nI,nH,nG,nF,nE]=true:=by kernel_rfl
theorem aw2:BZ (dU (FX aA Γ) (RI (FX aA Γ) aA Γ 400) aA Γ 125 (fR (dZ aHP) [0,1,1]) 39 [tB,uV,uT,uS,uP] [uN,uM,uL,uK,uJ,nO,nN,nM,nL,nK,nJ,nI,nH,nG,nF,nE]) 114 [uP,uS,uT,uV,tB,oX,oW] [uN,uM,uL,uK,uJ,nO,nN,nM,nL,nK,nJ,nI,nH,nG,nF,nE,oU,oT,zC,oS,zB]=true:=by kernel_rfl
theorem aw3:BZ (dU (FX aA Γ) (RI (FX aA Γ) aA Γ 400) aA Γ 125 (fR (dZ aHP) [0,1,1,1]) 114 [uP,uS,uT,uV,tB,oX,oW] [uN,uM,uL,uK,uJ,nO,nN,nM,nL,nK,nJ,nI,nH,nG,nF,nE,oU,oT,zC,oS,zB]) 198 [oW,oX,tB,uV,uT,uS,uP,qM,qL] [uN,uM,uL,uK,uJ,nO,nN,nM,nL,nK,nJ,nI,nH,nG,nF,nE,oU,oT,zC,oS,zB,qK,qJ,qI,qH,qG]=true:=by kernel_rfl
theorem aw4:BZ (dU (FX aA Γ) (RI (FX aA Γ) aA Γ 400) aA Γ 125 (fR (dZ aHP) [0,1,1,1,1]) 198 [oW,oX,tB,uV,uT,uS,uP,qM,qL] [uN,uM,uL,uK,uJ,nO,nN,nM,nL,nK,nJ,nI,nH,nG,nF,nE,oU,oT,zC,oS,zB,qK,qJ,qI,qH,qG]) 240 [qL,qM,uP,uS,uT,uV,tB,oX,oW,rX,rW] [uN,uM,uL,uK,uJ,nO,nN,nM,nL,nK,nJ,nI,nH,nG,nF,nE,oU,oT,zC,oS,zB,qK,qJ,qI,qH,qG,rV]=true:=by kernel_rfl
theorem aw5:BZ (dU (FX aA Γ) (RI (FX aA Γ) aA Γ 400) aA Γ 125 (fR (dZ aHP) [0,1,1,1,1,1]) 240 [qL,qM,uP,uS,uT,uV,tB,oX,oW,rX,rW] [uN,uM,uL,uK,uJ,nO,nN,nM,nL,nK,nJ,nI,nH,nG,nF,nE,oU,oT,zC,oS,zB,qK,qJ,qI,qH,qG,rV]) 276 [rW,rX,oW,oX,tB,uV,uT,uS,uP,qM,qL,uR,uQ] [uN,uM,uL,uK,uJ,nO,nN,nM,nL,nK,nJ,nI,nH,nG,nF,nE,oU,oT,zC,oS,zB,qK,qJ,qI,qH,qG,rV,uO]=true:=by kernel_rfl
theorem aw6:BZ (dU (FX aA Γ) (RI (FX aA Γ) aA Γ 400) aA Γ 125 (fR (dZ aHP) [0,1,1,1,1,1,1]) 276 [rW,rX,oW,oX,tB,uV,uT,uS,uP,qM,qL,uR,uQ] [uN,uM,uL,uK,uJ,nO,nN,nM,nL,nK,nJ,nI,nH,nG,nF,nE,oU,oT,zC,oS,zB,qK,qJ,qI,qH,qG,rV,uO]) 393 [uQ,uR,qL,qM,uP,uS,uT,uV,tB,oX,oW,rX,rW,xV,xU] [uN,uM,uL,uK,uJ,nO,nN,nM,nL,nK,nJ,nI,nH,nG,nF,nE,oU,oT,zC,oS,zB,qK,qJ,qI,qH,qG,rV,uO,xT,xS,xR,xQ,xP,xO,xN]=true:=by kernel_rfl
theorem aw7:BZ (dU (FX aA Γ) (RI (FX aA Γ) aA Γ 400) aA Γ 125 (fR (dZ aHP) [0,1,1,1,1,1,1,1]) 393 [uQ,uR,qL,qM,uP,uS,uT,uV,tB,oX,oW,rX,rW,xV,xU] [uN,uM,uL,uK,uJ,nO,nN,nM,nL,nK,nJ,nI,nH,nG,nF,nE,oU,oT,zC,oS,zB,qK,qJ,qI,qH,qG,rV,uO,xT,xS,xR,xQ,xP,xO,xN]) 397 [xU,xV,rW,rX,oW,oX,tB,uV,uT,uS,uP,qM,qL,uR,uQ,AS] [uN,uM,uL,uK,uJ,nO,nN,nM,nL,nK,nJ,nI,nH,nG,nF,nE,oU,oT,zC,oS,zB,qK,qJ,qI,qH,qG,rV,uO,xT,xS,xR,xQ,xP,xO,xN]=true:=by kernel_rfl
theorem aw8:BZ (dU (FX aA Γ) (RI (FX aA Γ) aA Γ 400) aA Γ 125 (fR (dZ aHP) [0,1,1,1,1,1,1,1,1]) 397 [xU,xV,rW,rX,oW,oX,tB,uV,uT,uS,uP,qM,qL,uR,uQ,AS] [uN,uM,uL,uK,uJ,nO,nN,nM,nL,nK,nJ,nI,nH,nG,nF,nE,oU,oT,zC,oS,zB,qK,qJ,qI,qH,qG,rV,uO,xT,xS,xR,xQ,xP,xO,xN]) 397 [AS,uQ,uR,qL,qM,uP,uS,uT,uV,tB,oX,oW,rX,rW,xV,xU] [uN,uM,uL,uK,uJ,nO,nN,nM,nL,nK,nJ,nI,nH,nG,nF,nE,oU,oT,oS,FE,qK,qJ,qI,qH,qG,rV,uO,xT,xS,xR,xQ,xP,xO,xN]=true:=by kernel_rfl
theorem aw9:BZ (dU (FX aA Γ) (RI (FX aA Γ) aA Γ 400) aA Γ 125 (fR (dZ aHP) [0,1,1,1,1,1,1,1,1,1]) 397 [AS,uQ,uR,qL,qM,uP,uS,uT,uV,tB,oX,oW,rX,rW,xV,xU] [uN,uM,uL,uK,uJ,nO,nN,nM,nL,nK,nJ,nI,nH,nG,nF,nE,oU,oT,oS,FE,qK,qJ,qI,qH,qG,rV,uO,xT,xS,xR,xQ,xP,xO,xN]) 476 [xU,xV,rW,rX,oW,oX,tB,uV,uT,uS,uP,qM,qL,uR,uQ,AS,NP] [uN,uM,uL,uK,uJ,nO,nN,nM,nL,nK,nJ,nI,nH,nG,nF,nE,oU,oT,oS,FE,qK,qJ,qI,qH,qG,rV,uO,xT,xS,xR,xQ,xP,xO,xN]=true:=by kernel_rfl
theorem bFM:BZ (dU (FX aA Γ) (RI (FX aA Γ) aA Γ 400) aA Γ 125 (fR (dZ aHP) [0,1,1,1,1,1,1,1,1,1,1]) 476 [xU,xV,rW,rX,oW,oX,tB,uV,uT,uS,uP,qM,qL,uR,uQ,AS,NP] [uN,uM,uL,uK,uJ,nO,nN,nM,nL,nK,nJ,nI,nH,nG,nF,nE,oU,oT,oS,FE,qK,qJ,qI,qH,qG,rV,uO,xT,xS,xR,xQ,xP,xO,xN]) 508 [NP,AS,uQ,uR,qL,qM,uP,uS,uT,uV,tB,oX,oW,rX,rW,xV,xU,ZP,ZO] [uN,uM,uL,uK,uJ,nO,nN,nM,nL,nK,nJ,nI,nH,nG,nF,nE,oU,oT,oS,FE,qK,qJ,qI,qH,qG,rV,uO,xT,xS,xR,xQ,xP,xO,xN]=true:=by kernel_rfl
theorem bFL:BZ (dU (FX aA Γ) (RI (FX aA Γ) aA Γ 400) aA Γ 125 (fR (dZ aHP) [0,1,1,1,1,1,1,1,1,1,1,1]) 508 [NP,AS,uQ,uR,qL,qM,uP,uS,uT,uV,tB,oX,oW,rX,rW,xV,xU,ZP,ZO] [uN,uM,uL,uK,uJ,nO,nN,nM,nL,nK,nJ,nI,nH,nG,nF,nE,oU,oT,oS,FE,qK,qJ,qI,qH,qG,rV,uO,xT,xS,xR,xQ,xP,xO,xN]) 559 [ZO,ZP,xU,xV,rW,rX,oW,oX,tB,uV,uT,uS,uP,qM,qL,uR,uQ,AS,NP,(21,(1:Int)),(22,(353:Int))] [uN,uM,uL,uK,uJ,nO,nN,nM,nL,nK,nJ,nI,nH,nG,nF,nE,oU,oT,oS,FE,qK,qJ,qI,qH,qG,rV,uO,xT,xS,xR,xQ,xP,xO,xN]=true:=by kernel_rfl
theorem bFK:BZ (dU (FX aA Γ) (RI (FX aA Γ) aA Γ 400) aA Γ 125 (fR (dZ aHP) [0,1,1,1,1,1,1,1,1,1,1,1,1]) 559 [ZO,ZP,xU,xV,rW,rX,oW,oX,tB,uV,uT,uS,uP,qM,qL,uR,uQ,AS,NP,(21,(1:Int)),(22,(353:Int))] [uN,uM,uL,uK,uJ,nO,nN,nM,nL,nK,nJ,nI,nH,nG,nF,nE,oU,oT,oS,FE,qK,qJ,qI,qH,qG,rV,uO,xT,xS,xR,xQ,xP,xO,xN]) 559 [(22,(353:Int)),(21,(1:Int)),NP,AS,uQ,uR,qL,qM,uP,uS,uT,uV,oX,oW,rX,rW,xV,xU,ZP,ZO,(0,true)] [uN,uM,uL,uK,uJ,nO,nN,nM,nL,nK,nJ,nI,nH,nG,nF,nE,oU,oT,oS,FE,qK,qJ,qI,qH,qG,rV,uO,xT,xS,xR,xQ,xP,xO,xN]=true:=by kernel_rfl
theorem lK{P:Program}{Γ:List (Nat×List AVal)}{nt:Nat}{Q:AQ}{k:Nat}{fr:Fr}{H:aS}{c:Code}{p:List Nat}{X:Xt}(hX:XtOk P Γ X)(n:Nat)(hc:fR c p= .seq (fR c (0::p)) (fR c (1::p))){k1:Nat}{fr1:Fr}{H1:aS}
 (h:BZ (dU X (RI X P Γ n) P Γ nt (fR c (0::p)) k fr H) k1 fr1 H1=true) (hr:W P Γ nt 0 (fR c (1::p)) Q k1 fr1 H1):W P Γ nt 0 (fR c p) Q k fr H:=a0L hX n hc k1 fr1 H1 h hr
theorem aZZ(hG:GT Γ):AM.Pure aA Γ 13 [] true:=by refine aUW Tryz.func13 rfl 125 rfl bB rfl rfl ?_;refine lK (rA hG) 400 rfl (aw0 (Γ:=Γ)) ?_;refine lK (rA hG) 400 rfl (aw1 (Γ:=Γ)) ?_;refine lK (rA hG) 400 rfl (aw2 (Γ:=Γ)) ?_;refine lK (rA hG) 400 rfl (aw3 (Γ:=Γ)) ?_;refine lK (rA hG) 400 rfl (aw4 (Γ:=Γ)) ?_;refine lK (rA hG) 400 rfl (aw5 (Γ:=Γ)) ?_;refine lK (rA hG) 400 rfl (aw6 (Γ:=Γ)) ?_;refine lK (rA hG) 400 rfl (aw7 (Γ:=Γ)) ?_;refine lK (rA hG) 400 rfl (aw8 (Γ:=Γ)) ?_;refine lK (rA hG) 400 rfl (aw9 (Γ:=Γ)) ?_;refine lK (rA hG) 400 rfl (bFM (Γ:=Γ)) ?_;refine lK (rA hG) 400 rfl (bFL (Γ:=Γ)) ?_;refine lK (rA hG) 400 rfl (bFK (Γ:=Γ)) ?_;exact aX rfl ⟨_,rfl,aK _⟩
end Go.Proofs.T
end
section
namespace Go.Proofs.T
open Go Go.AM Go.Proofs Go.Lib
variable{Γ:List (Nat×List AVal)}
theorem OS(hw:AM.Pure aA Γ 13 [] true)(s:St)(hk:KindsW s)(d e:DE)(hr:DRng d)(hr':DRng e)(hd:d.size<9223372036854775808)(he:e.size<9223372036854775808):AM.Pure aA Γ 5 [.agg s.cells,.agg d.cells,.agg e.cells] true:=by
 have h:=aLR (Γ:=Γ) s hk d e hr hr' hd he;refine aZ Tryz.func5 rfl 14 rfl bB rfl λ k=>?_;have kp:=fI k [0,1,2,3,4,5,6];refine wl ?_;refine aU (zs ?_);refine cl [.ret true,.ret true] ?_;refine dD (zs ?_) (zs ?_);all_goals(try(first|exact h|exact hw))
 refine wl ?_;refine aU (zs ?_);exact aX rfl ⟨_,rfl,aK _⟩
end Go.Proofs.T
end
section
namespace Go.AM
open Go
section
variable{H:Type}{qS:TypeId×Value->H}{P:Program}{w:World}{base:Nat}{sp:Nat->Bool}{held:Bool}{fuel:Nat}{t:TypeId}{cs:List Value}{x:DataW H×List MemPlace}{G:Nat->Prop}
theorem a3A{w:World}{G:Nat->Prop}{ρ:cM}{A:bU}{sz n:Nat}{f:Nat->List AVal}{c:Value}(h:V w G ρ A (.rd sz n f) c)(hn:0<n):∃a cap,c= .slice (some a) n cap:=by
 cases h with
 |rd0=>omega
 |rd=>exact⟨_,_,rfl⟩
theorem aNX{e sz n B:Nat}{f:Nat->List AVal}(ht:P.underlying t=some (.slice e))(h:DataW.trod qS P w base sp held fuel t cs=some x)(d:Dec w G [.rd sz n f] cs)(hx:∀elems spare,x.1= .slice elems spare->elems.length<=B):n<=B:=by
 obtain⟨c,hc,hv⟩:=d.2 0 _ rfl;by_cases hn:0<n
 .obtain⟨a,cap,rfl⟩:=a3A hv hn;rcases DataW.trod_slice ht h with⟨rfl,_⟩|⟨a',len,cap',elems,rest,m,_,rfl,rfl,_,_,_,hlen,_⟩;.simp at hc
  simp only[iX,mB.injEq,dK.injEq]at hc;have:=hx _ _ rfl;rw[bP]at this;omega
 omega
theorem GZ{fs:Array Field}{xs:List (DataW H×List MemPlace)}(hW:(DataW.weightsEach P (fs.toList.map (·.type)) (xs.map (·.1))).all (· <=reachBytes)=true)
 (hf:∀(i:Nat) (f:Field),fs[i]? =some f->DataW.trod qS P w base sp held fuel f.type ((cs.drop f.offset).take (P.cellsOf f.type))=xs[i]?)
 {i:Nat} {f:Field} {e sz n:Nat} {F:Nat->List AVal} {c:Value} (hi:fs[i]? =some f) (hlt:i<xs.length) (he:P.underlying f.type=some (.slice e)) (hb:1<=P.bytesOf e) (hc:(cs.drop f.offset).take (P.cellsOf f.type)=[c]) (hd:Dec w G [.rd sz n F] [c]):n<=reachBytes:=by have h1:=hf i f hi;rw[hc,aE hlt]at h1;refine aNX he h1 hd λ elems spare hx=>?_;have h2:=sized_slice hW (j:=i) (t:=f.type) (e:=e) (elems:=elems) (spare:=spare) (by rw[aQ,bA,hi];rfl) (by rw[aQ,aE hlt,cB,hx]) he;have h3:(elems.length+spare.length)*1<=(elems.length+spare.length)*P.bytesOf e:=Nat.mul_le_mul_left _ hb;omega
end
end Go.AM
end
section
namespace Go.Proofs.T
open Go Go.AM Go.Proofs
section
variable{H:Type}{qS:TypeId×Value->H}{w:World}{base:Nat}{sp:Nat->Bool}{held:Bool}{fuel:Nat}{cs:List Value}{x:DataW H×List MemPlace}{G:Nat->Prop}
theorem HG{vs:List AVal}{v:AVal}{c:Value}{j:Nat}(d:Dec w G vs cs)(hv:vs[j]? =some v)(hc:cs[j]? =some c):Dec w G [v] [c]:=by obtain⟨c',h1,h2⟩:=d.2 j v hv;rw[hc]at h1;cases h1;exact .one h2
theorem IM(h:DataW.trod qS aA w base sp held fuel 36 cs=some x)(d:DE)(hd:Dec w G d.cells cs)(hw:(x.1.weights aA 36).all (· <=reachBytes)=true):d.size<9223372036854775808:=by
 obtain⟨xs,n,rfl,rfl,hl,hxl,hf⟩:=DataW.trod_struct bAH h;have hl6:cs.length=6:=hl.trans (by kernel_rfl);have hx6:xs.length=6:=hxl.trans (by kernel_rfl);obtain⟨c0,c1,c2,c3,c4,c5,rfl⟩:=a7E hl6;rw[show(DataW.agg (xs.map (·.1)):DataW H).weights aA 36=_ by rw[DataW.weights,bAH]]at hw;have k0:d.n0<=reachBytes:=GZ hw hf (i:=0) rfl oO CH (by decide+kernel) rfl (HG (j:=0) hd rfl rfl);have k1:d.n1<=reachBytes:=GZ hw hf (i:=1) rfl oO CH (by decide+kernel) rfl (HG (j:=1) hd rfl rfl);have k2:d.n2<=reachBytes:=GZ hw hf (i:=2) rfl oO CH (by decide+kernel) rfl (HG (j:=2) hd rfl rfl);have k3:d.n3<=reachBytes:=GZ hw hf (i:=3) rfl oO bAI (by decide+kernel) rfl (HG (j:=3) hd rfl rfl);have k4:d.n4<=reachBytes:=GZ hw hf (i:=4) rfl oO Tryz.underlying27 (by decide+kernel) rfl (HG (j:=4) hd rfl rfl);have k5:d.n5<=reachBytes:=GZ hw hf (i:=5) rfl oO Tryz.underlying34 (by decide+kernel) rfl (HG (j:=5) hd rfl rfl);have e:d.size=d.n0+d.n1+d.n2+d.n3+d.n4+d.n5:=rfl;have er:reachBytes=140737488351232:=by decide
 rw[er]at k0 k1 k2 k3 k4 k5;omega
end
end Go.Proofs.T
end
section
namespace Go.AM
open Go Go.RowKit
theorem RC{W:World}{g:Nat}{cs:List Value}{ty:TypeId}{x:Nat×Nat}(h:W.heap[g]? =some (.cells cs.toArray ty x)):GlobIs W (λ b=>b<W.heap.size) g (cs.map .lit):=by
 have hg:g<W.heap.size:=(cZ.1 h).1;refine⟨.rp (λ j=>cs.getD j undef) hg (λ j v hj=>?_) (λ j v hj=>?_),hg,_,_,_,h,sS⟩;.simp only[aQ,aB]at hj;obtain⟨u,hu,rfl⟩:=hj;unfold World.cell?;simp[h,hu,List.getD]
 simp only[aQ,aB]at hj;obtain⟨u,hu,rfl⟩:=hj;have e:cs.getD j undef=u:=by simp[List.getD,hu]
 simp only[e];exact .lit
theorem DA{P:Program}{W:World}{g:Nat}{name:String}{cs:List Value}(hg:P.globalNamed name=some g)(h:W.var? P name=some cs.toArray):GlobIs W (λ b=>b<W.heap.size) g (cs.map .lit):=by
 unfold World.var? at h;rw[hg,bKF]at h;split at h;.rename_i c t x hh;cases h;exact RC hh
 cases h
theorem aCJ{P:Program}{W:World}{g:Nat}{t:TypeId}{zero:Array Value}{k:IntKind}(h:W.ShapedOpen P)(hg:g<P.globals.size)
 (h0:((begin P (λ _ _=>0) default).world.heap[g]?).bind Obj.row? =some (zero,t)) (hz:zero.size=1)
 (hb:P.buildable t=true) (hc:P.cellTypes P.depth t=some [t]) (hu:P.underlying t=some (.int k)):∃m,GlobIs W (λ b=>b<W.heap.size) g [.lit (.int k m)]:=by
 obtain⟨m,hm⟩:=Go.Proofs.cell_of_shapedOpen_int h hg h0 hz hb hc hu;obtain⟨cs,hh,hs,_⟩:=h.1 g zero t hg h0
 have e:cs=[bC k m].toArray:=by
  unfold World.cell? at hm;simp only[hh,lA,aO,if_false]at hm;refine aFB (by simp[hs,hz]) λ i h1 h2=>?_;have:i=0:=by simp at h2;exact h2
  subst this;rw[aP h1]at hm;simpa using hm
 rw[e]at hh;exact⟨m,RC hh⟩
theorem aJE{P:Program}{Γ:List (Nat×List AVal)}{f:FuncId}{vs:List AVal}{b:Bool}{args:Array Value}{W:World}(hΓ:∀g cells,look Γ g=some cells->GlobIs W (λ b=>b<W.heap.size) g cells)(h:Pure P Γ f vs (.lit (.bool b)))
 (hv:Vs W (λ b=>b<W.heap.size) bR cF vs args):Calls P f args W λ e W'=>e= .returned (.bool b)/\Below W.heap.size W W':=by
 refine(h 0 cF (λ _ h=>h.elim) W _ bR args ⟨λ _ _=>rfl,λ id B A' hid=>(by simp[bK,look]at hid),λ i j b s t h=>(by cases h),λ b hb=>hb,hΓ⟩ hv).mono ?_;rintro e W' ⟨cv,G',ρ',k',r,H',rfl,⟨rfl,rfl,rfl⟩,_,_,hvr,hst⟩;have e1:cv= .bool b:=by cases hvr;rfl
 subst e1;exact⟨rfl,hst.os,hst.tape,hst.output,hst.size,λ k hk=>hst.keep k hk (λ⟨_,_,h⟩=>by cases h)⟩
end Go.AM
end
section
namespace Go.AM
open Go Go.ChangeMaps Go.ChangeShapes Go.WideShapes Go.ChangeAt Go.WideMaps Go.WideElems Go.RowKit
theorem aJF{H:Type}{qS:TypeId×Value->H}{a:Assume}{C:Checked}{os:Go.Os}{f:FuncId}{fn:Func}{s:ChangeSpec}{conds:List PathCond}{apart fresh handsOn again:Bool}{X:World->Array Value->Prop}
 (hX:∀(w w':World) (args:Array Value),w.heap=w'.heap->X w args->X w' args)
 (own:ownKnob C.prog.godebug=none) (started:os.Started) (noInit:C.prog.inits.idxOf? f=none) (hfn:C.prog.funcs[f]? =some fn)
 (witness:∃(w:World) (tape:Tape) (i:Input),w.os=os/\(w.forCall tape i).Shaped C.prog/\i.vars=[]/\Input.okWide C.prog (w.forCall tape i) .any w.heap.size f i∧
   ((s.pre qS C.prog fn conds apart (w.forCall tape i).memory i.args/\X (w.forCall tape i).memory i.args)/\sizedMet qS C.prog fn (OpenSpec.ofChange s) apart (w.forCall tape i).memory i.args)/\a.holds C.prog (lone (Frame.enter C.prog f i.args .normal) [] (w.forCall tape i)))
 (contract:∀(W:World) (base:Nat) (args:Array Value) (ds gs:List (DataW H)) (before:List MemPlace),
   (∀(j:Nat) t v,fn.params[j]? =some t->args[j]? =some v->bFS C.prog W .any base t v)→
   DataW.Whole qS C.prog fn.params.toList s.vars apart W args.toList ds gs before→
   (DataW.weightsEach C.prog (fn.params.toList++s.plain.varTypes C.prog) (ds++gs)).all (· <=reachBytes)=true->W.ShapedOpen C.prog->X W args→
   Calls C.prog f args W λ e W'=>∃v,e= .returned v/\s.post qS C.prog fn apart fresh handsOn again W args v W'):
 ReturnsInHanded a C os f .any (λ w args=>(s.pre qS C.prog fn conds apart w args/\X w args)/\sizedMet qS C.prog fn (OpenSpec.ofChange s) apart w args) (s.post qS C.prog fn apart fresh handsOn again):=by refine returnsInHanded_of_calls own started noInit witness ?_;intro w tape i _ hsh _ hok hpre hholds;obtain⟨_,_,_,fn',hfn',_,_,_,_,hval⟩:=hok;have e:fn'=fn:=mB.inj (hfn'.symm.trans hfn);subst e;obtain⟨⟨⟨ds,gs,before,hw,hc⟩,hx⟩,hz⟩:=hpre;have hw':=DataW.Whole.of_heap (w':=w.forCall tape i) (by rfl) hw;refine(contract (w.forCall tape i) w.heap.size i.args ds gs before hval hw' (hz.weights hw) hsh (hX _ _ _ (by rfl) hx)).mono λ e W' ⟨v,he,hp⟩=>?_;subst he;exact ChangeSpec.post_blind hp
end Go.AM
end
section
namespace Go.Proofs.T
open Go Go.AM Go.Proofs Go.ChangeMaps Go.ChangeShapes Go.WideShapes Go.ChangeAt Go.WideMaps Go.WideElems Go.RowKit Go.Proofs.YteimiejbhhgljaaGreatDoor
theorem UM{Γ:List (Nat×List AVal)}(hG:GT Γ)(s:St)(hk:KindsW s)(d e:DE)(hr:DRng d)(hr':DRng e)(hd:d.size<9223372036854775808)(he:e.size<9223372036854775808):AM.Pure aA Γ 5 [.agg s.cells,.agg d.cells,.agg e.cells] true:=OS (aZZ hG) s hk d e hr hr' hd he
theorem a1D(u:TypeId)(h:aA.typeName? 3 u=some "*errors.errorString"):u=353:=by
 have star: "*"++ "errors.errorString"= "*errors.errorString":=by decide
 exact typeName_ptr_named (nm:= "errors.errorString") (by rw[star];kernel_rfl) (by kernel_rfl) (by decide) u (by rw[star];exact h)
theorem a7J{W:World}(hL:laidMetH aA Rows.deltaAppliesRow.laid W)(hsh:W.ShapedOpen aA):∃Γ,GT Γ/\∀g cells,AM.look Γ g=some cells->GlobIs W (λ b=>b<W.heap.size) g cells:=by
 have h1:laidMet aA [("internal/strconv.uint64pow10",Lib.tabData .u64 Lib.pow10Tab)] W:=laidMetH.filter (λ x=>x.1== "internal/strconv.uint64pow10") hL;have h2:laidMet aA [("strconv.ErrSyntax",Rows.laid_strconv_ErrSyntax)] W:=laidMetH.filter (λ x=>x.1== "strconv.ErrSyntax") hL;have h3:laidMet aA [("strconv.ErrRange",Rows.laid_strconv_ErrRange)] W:=laidMetH.filter (λ x=>x.1== "strconv.ErrRange") hL;have t1:=Lib.tabIs_of_head (g:=3) (by kernel_rfl) rfl rfl rfl (by kernel_rfl) (by kernel_rfl) h1;obtain⟨a2,_,v2, -, -, -⟩:=laid_sentinel (g:=0) h2 (by kernel_rfl) (by kernel_rfl) a0P a1D a0N a0M rfl rfl kC (by kernel_rfl) (by kernel_rfl);obtain⟨a3,_,v3, -, -, -⟩:=laid_sentinel (g:=1) h3 (by kernel_rfl) (by kernel_rfl) a0P a1D a0N a0M rfl rfl kC (by kernel_rfl) (by kernel_rfl);have g1:GlobIs W (λ b=>b<W.heap.size) 3 (Lib.pow10Tab.map λ z=> .lit (.int .u64 z)):=by have:=DA (g:=3) (cs:=Lib.pow10Tab.map λ z=>bC .u64 z) (by kernel_rfl) t1;rw[jD]at this;exact this
 have g2:=DA (g:=0) (cs:=[Value.iface 353 (.pointer (some a2))]) (by kernel_rfl) v2;have g3:=DA (g:=1) (cs:=[Value.iface 353 (.pointer (some a3))]) (by kernel_rfl) v3;obtain⟨m,g4⟩:=aCJ (g:=2) (t:=3) (k:= .i64) (zero:= #[.int .i64 0]) hsh (of_decide_eq_true (by kernel_rfl)) (by kernel_rfl) rfl (by kernel_rfl) (by kernel_rfl) dB;refine⟨[(3,Lib.pow10Tab.map λ z=> .lit (.int .u64 z)),(0,[.lit (.iface 353 (.pointer (some a2)))]),(1,[.lit (.iface 353 (.pointer (some a3)))]),(2,[m])],⟨rfl,⟨_,_,rfl⟩,⟨_,_,rfl⟩,⟨_,rfl⟩⟩,λ g cells hg=>?_⟩;simp only[AM.look]at hg;split at hg;.rename_i e;subst e;cases hg;exact g1
 split at hg;.rename_i e;subst e;cases hg;exact g2
 split at hg;.rename_i e;subst e;cases hg;exact g3
 split at hg;.rename_i e;subst e;cases hg;exact g4
 cases hg
theorem FH{W:World}{r:Reach}{base:Nat}{v:Value}(h:bFS aA W r base 36 v):∃cs,v= .agg cs:=by unfold bFS at h;rw[bAH]at h;obtain⟨cs,h1,_⟩:=h;exact⟨cs,h1⟩
theorem aIK{H:Type}{qS:TypeId×Value->H}{W:World}{cs:Array Value}{d:DataW H}{p:List MemPlace}(h:DataW.Trod qS aA W 0 (λ _=>true) true 30 (.agg cs) d p):
 ∃s:St,KindsW s/\V W (λ b=>b<W.heap.size) bR cF (.agg s.cells) (.agg cs):=by obtain⟨fuel,h⟩:=h;obtain⟨s,hk,hd⟩:=aDM (G:=λ b=>b<W.heap.size) (λ b hb=>hb) h;exact⟨s,hk,VK hd⟩
end Go.Proofs.T
end
section
namespace Go.Proofs.T
open Go Go.Proofs Go.Proofs.YteimiejbhhgljaaGreatDoor
theorem jf0:(Rows.deltaAppliesRow.wf (OpenSpec.ofChange Rows.deltaAppliesSpec))=true:=by kernel_rfl
theorem jf1:(laidOutB aA)=true:=by kernel_rfl
theorem jf2:(mapsRowed aA)=true:=by kernel_rfl
theorem jf3:(vJ.params.all (aA.readableRec ·))=true:=by kernel_rfl
theorem jf4:(namedTie aA Rows.deltaAppliesRow.named Rows.deltaAppliesSpec.vars)=true:=by kernel_rfl
theorem jf5:((Rows.deltaAppliesRow.stops==[]))=true:=by kernel_rfl
theorem jf6:((aA.stops==[]))=true:=by kernel_rfl
theorem jf7:((Rows.deltaAppliesRow.knobs==[]))=true:=by kernel_rfl
theorem jf8:((aA.stopKnobs==[]))=true:=by kernel_rfl
theorem jf9:((Rows.deltaAppliesRow.inPlace==aA.inPlace 5))=true:=by kernel_rfl
theorem bDC:((Rows.deltaAppliesRow.unfollowed==aA.unfollowed 5))=true:=by kernel_rfl
theorem bDB:((Rows.deltaAppliesRow.recurses==aA.recurses 5))=true:=by kernel_rfl
theorem bDA:((Rows.deltaAppliesRow.named==aA.varsNamed 5))=true:=by kernel_rfl
theorem bCZ:((Rows.deltaAppliesRow.maps==(vJ.params.toList++Rows.deltaAppliesSpec.plain.varTypes aA).any (aA.mapsRec ·)))=true:=by kernel_rfl
theorem bCY:((Rows.deltaAppliesRow.ifaces==(vJ.params.toList++Rows.deltaAppliesSpec.plain.varTypes aA).any (aA.ifacesRec ·)))=true:=by kernel_rfl
theorem bCX:((Rows.deltaAppliesRow.mapsOut==aA.mapsAmong vJ.resultTypes.toList))=true:=by kernel_rfl
theorem bCW:((Rows.deltaAppliesRow.loops==(vJ.params.toList++Rows.deltaAppliesSpec.plain.varTypes aA).any (aA.loopsFrom ·)))=true:=by kernel_rfl
theorem bCV:((Rows.deltaAppliesRow.wideKeys==(vJ.params.toList++Rows.deltaAppliesSpec.plain.varTypes aA++vJ.resultTypes.toList).any (aA.wideKeysFrom ·)))=true:=by kernel_rfl
theorem bCU:(Rows.deltaAppliesSpec.vars.all (aA.varReadable ·))=true:=by kernel_rfl
theorem bCT:(vJ.resultTypes.all (λ t=>aA.readableRec t&&decide (t<aA.types.size)))=true:=by kernel_rfl
theorem bCS:((Rows.deltaAppliesRow.ifacesOut==vJ.resultTypes.toList.any (aA.ifacesRec ·)))=true:=by kernel_rfl
theorem bCR:((Rows.deltaAppliesRow.loopsOut==vJ.resultTypes.toList.any (aA.loopsFrom ·)))=true:=by kernel_rfl
theorem bCQ:((Rows.deltaAppliesRow.plainKeys==aA.plainKeys))=true:=by kernel_rfl
theorem bCP:(Rows.deltaAppliesRow.shortTexts.isNone)=true:=by kernel_rfl
theorem bCO:(aA.stopsHeard)=true:=by kernel_rfl
theorem bCN:(aA.mayEnter)=true:=by kernel_rfl
theorem bCM:((Rows.deltaAppliesRow.lifted==aA.liftsFinal))=true:=by kernel_rfl
theorem bCL:((aA.make==some Rows.deltaAppliesRow.make))=true:=by kernel_rfl
theorem bCK:((Rows.deltaAppliesRow.kinds==(if Rows.deltaAppliesRow.domain.isEmpty then []else vJ.params.toList.map λ t=>match aA.underlying t with|some (.int k)=>some k|_=>none)))=true:=by kernel_rfl
theorem bCJ:((Rows.deltaAppliesRow.pinned==Rows.deltaAppliesRow.pinnedBy))=true:=by kernel_rfl
theorem bCI:((Rows.deltaAppliesRow.veiled==(vJ.params.toList++Rows.deltaAppliesSpec.plain.varTypes aA++vJ.resultTypes.toList).any (aA.veiledRec ·)))=true:=by kernel_rfl
theorem bCH:(Rows.deltaAppliesRow.veiledFits aA vJ.params.toList (vJ.params.toList++Rows.deltaAppliesSpec.plain.varTypes aA++vJ.resultTypes.toList))=true:=by kernel_rfl
theorem jf:joinedFacts aA 5 vJ Rows.deltaAppliesSpec Rows.deltaAppliesRow=true:=by unfold joinedFacts;simp only[aC];exact⟨⟨⟨⟨⟨⟨⟨⟨⟨⟨⟨⟨⟨⟨⟨⟨⟨⟨⟨⟨⟨⟨⟨⟨⟨⟨⟨⟨⟨⟨⟨jf0,jf1⟩,jf2⟩,jf3⟩,jf4⟩,jf5⟩,jf6⟩,jf7⟩,jf8⟩,jf9⟩,bDC⟩,bDB⟩,bDA⟩,bCZ⟩,bCY⟩,bCX⟩,bCW⟩,bCV⟩,bCU⟩,bCT⟩,bCS⟩,bCR⟩,bCQ⟩,bCP⟩,bCO⟩,bCN⟩,bCM⟩,bCL⟩,bCK⟩,bCJ⟩,bCI⟩,bCH⟩
end Go.Proofs.T
end
section
namespace Go.Proofs.T
open Go Go.AM Go.Proofs Go.ChangeMaps Go.ChangeShapes Go.WideShapes Go.ChangeAt Go.WideMaps Go.WideElems Go.RowKit Go.Proofs.YteimiejbhhgljaaGreatDoor
theorem aMU{W:World}{G:Nat->Prop}{ρ:cM}{A:bU}{a b c:AVal}{x y z:Value}(h:V W G ρ A a x)(h':V W G ρ A b y)(h'':V W G ρ A c z):Vs W G ρ A [a,b,c] #[x,y,z]:=
 ⟨rfl,λ j u hj=>by
  match j with
  |0=>cases hj;exact h
  |1=>cases hj;exact h'
  |2=>cases hj;exact h''
  |j+3=>simp at hj⟩
def PM:Value:= .agg #[.slice none 0 0,.slice none 0 0,.slice none 0 0,.slice none 0 0,.slice none 0 0,.slice none 0 0]
theorem aQD(os:Os)(started:os.Started)(H:Type)(qS:TypeId×Value->H):
 ReturnsInHanded {} Tryz.checked os 5 .any (λ w args=>(Rows.deltaAppliesSpec.pre qS aA vJ [] false w args/\laidMetH aA Rows.deltaAppliesRow.laid w)/\sizedMet qS aA vJ (OpenSpec.ofChange Rows.deltaAppliesSpec) false w args)
  (Rows.deltaAppliesSpec.post qS aA vJ false true false false):=by
 refine aJF (C:=Tryz.checked) (X:=λ w _=>laidMetH aA Rows.deltaAppliesRow.laid w) (λ _ _ _ hh h=>h.of_heap hh) bBT started (by kernel_rfl) Tryz.func5
  (ChangeSpec.witness_shaped (enc:=qS) (C:=Tryz.checked) (os:=os) (X:=λ w _=>laidMetH aA Rows.deltaAppliesRow.laid w) false (World.laidAll aA os Rows.deltaAppliesRow.laid) #[aHW,PM,PM] 8 (World.laidAll_os _ _ _) (World.shaped_of_ZipB (by kernel_rfl) (by kernel_rfl)) (by kernel_rfl) (by kernel_rfl) (by kernel_rfl)
    (by rw[MakeChecks.laidMetH_plain _ _ _ (by kernel_rfl)];exact laidMet_laidAll _ (by kernel_rfl) (by kernel_rfl))) ?_
 intro W base args ds gs before hval0 hW hZ hsh hL;have hval:∀(j:Nat) t v,vJ.params[j]? =some t->args[j]? =some v->bFS aA W .any base t v:=hval0;have hW':=hW;obtain⟨p,q,hA0,hV,rfl,hfz,hnd⟩:=hW;have hA:DataW.TrodAll qS aA W 0 (λ _=>true) true vJ.params.toList args.toList ds p:=hA0;rw[Tryz.params5]at hA hval;obtain⟨v0,v1,v2,d0,d1,d2,p0,p1,p2,rfl,rfl,rfl,h0,h1,h2⟩:=trodAll_three hA;obtain⟨rfl,rfl⟩:=trodVars_none hV;clear hA0 hval0;obtain⟨cs,rfl⟩:=aLX (hval 0 30 v0 rfl rfl);obtain⟨ds,rfl⟩:=FH (hval 1 36 v1 rfl rfl);obtain⟨es,rfl⟩:=FH (hval 2 36 v2 rfl rfl);have h1':=h1;have h2':=h2;obtain⟨s,hk,hv⟩:=aIK h0;obtain⟨fu1,q1⟩:=h1;obtain⟨fu2,q2⟩:=h2;obtain⟨d,hr,hd⟩:=RO (G:=λ b=>b<W.heap.size) (λ b hb=>hb) q1;obtain⟨e,hr',he⟩:=RO (G:=λ b=>b<W.heap.size) (λ b hb=>hb) q2;have hv':V W (λ b=>b<W.heap.size) bR cF (.agg d.cells) (.agg ds):=VK hd;have hv'':V W (λ b=>b<W.heap.size) bR cF (.agg e.cells) (.agg es):=VK he;have hsm:=IM q1 d hd (by rw[aW];intro n hn;exact aW.1 hZ n (DataW.weights_mem_each (j:=1) rfl rfl n hn))
 have hsm':=IM q2 e he (by rw[aW];intro n hn;exact aW.1 hZ n (DataW.weights_mem_each (j:=2) rfl rfl n hn))
 obtain⟨Γ,hG,hΓ⟩:=a7J hL hsh;refine(aJE hΓ (UM hG s hk d e hr hr' hsm hsm') (aMU hv hv' hv'')).mono λ e W' ⟨he,hb⟩=>?_;subst he;have hlt0:∀x∈p0,x.block<W.heap.size:=λ x hx=>hW'.lt x (by simp[hx]);have hlt1:∀x∈p1,x.block<W.heap.size:=λ x hx=>hW'.lt x (by simp[hx]);have hlt2:∀x∈p2,x.block<W.heap.size:=λ x hx=>hW'.lt x (by simp[hx]);refine⟨_,rfl,_,_,_,[],p0++(p1++p2),[],hW',?_,?_,rfl,OP hb _,λ h=>by cases h⟩;.exact trodAll_mk1 (shut_bool lW true)
 exact trodAll_mk3 (Below.trod TK (by kernel_rfl) (of_decide_eq_true (by kernel_rfl)) h0 hb hlt0) (Below.trod TK (by kernel_rfl) (of_decide_eq_true (by kernel_rfl)) h1' hb hlt1) (Below.trod TK (by kernel_rfl) (of_decide_eq_true (by kernel_rfl)) h2' hb hlt2)
theorem deltaApplies_holds:Rows.DeltaAppliesSaid:=
 OpenClaim.holds_of_wide 5 vJ rfl rfl rfl rfl rfl rfl rfl ⟨rfl,rfl,rfl,rfl,rfl⟩ rfl rfl rfl rfl rfl (by kernel_rfl) Tryz.func5 jf
  (of_decide_eq_true (by kernel_rfl)) (by unfold Func.isWrapper;first|(rw[if_pos (by decide+kernel)];kernel_rfl)|(rw[if_neg (by decide+kernel)];exact⟨rfl,rfl⟩))
  (λ os started H qS _=>aQD os started H qS)
end Go.Proofs.T
end
