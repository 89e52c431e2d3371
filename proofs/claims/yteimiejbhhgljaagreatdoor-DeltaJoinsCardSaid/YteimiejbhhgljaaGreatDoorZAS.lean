import Derived.Test.YteimiejbhhgljaaGreatDoorZAR
import Derived.Test.YteimiejbhhgljaaGreatDoorRows
import Derived.ChangeMaps5
import Derived.Lay
import Derived.MakeChecks
import Derived.JoinedOf
import Derived.Carry
set_option linter.unusedVariables false
set_option linter.unusedSimpArgs false
set_option maxHeartbeats 0
set_option maxRecDepth 100000
open Bool renaming and_eq_true->aH,false->aE,true->aB
open Int renaming emod_lt_of_pos->rU,emod_nonneg->RZ,toNat_of_nonneg->gA
open Go.IntKind renaming i64->aL
open List renaming getD->oH,getD_eq_getElem?_getD->aR,getElem_mem->JR,length_append->bM,length_cons->gS,map->rS,map_append->aM,map_cons->bI,map_map->jM,map_nil->bQ,mem_append->dC,mem_cons_of_mem->dM,nodup_cons->a5A,range->aN
open Nat renaming add_assoc->gD,add_sub_cancel->a4V,add_sub_cancel_left->lE,mul_one->HW,sub_self->RX,zero_le->aZ
open Option renaming none->aC,some->aA
open Go.Proofs.Tryz renaming checked->bKQ,f10->oA,prog->aD,underlying216->zY,underlying3->jT,underlying353->zX,underlying355->zW,underlying4->mB,underlying5->dH,underlying9->jC
open Go.Value renaming int->bA,okWide->bKN
section
namespace Go.Proofs.T
open Go Go.AM Go.Proofs
theorem WK{α:Type} [DecidableEq α]:∀ {l m:List α},l.Nodup->(∀x∈l,x∈m)->l.length<=m.length
 |[],_,_,_=>aZ _
 |x::l,m,h,hs=>by have hx:=hs x sS;obtain⟨h1,h2⟩:=a5A.1 h;have h3:=WK (l:=l) (m:=m.erase x) h2 λ y hy=>(List.mem_erase_of_ne (by rintro rfl;exact h1 hy)).2 (hs y (dM _ hy));rw[List.length_erase_of_mem hx]at h3;have h4:=List.length_pos_of_mem hx;simp only[gS];omega
theorem DI{α:Type}{f g h:Nat->List α}:∀ {n:Nat},(∀i,i<n->(f i).length<=(g i).length+(h i).length)->(gH f n).length<=(gH g n).length+(gH h n).length
 |0,_=>aZ _
 |n+1,hh=>by have h1:=DI (n:=n) λ i hi=>hh i oO;have h2:=hh n oO;rw[gH,gH,gH];simp only[bM];omega
theorem aKJ{α:Type}{b c d:Bool}{x y z:α}(h:b=aB->c=aB\/d=aB):(DV b x).length<=(DV c y).length+(DV d z).length:=by
 cases b;.exact aZ _
 rcases h rfl with rfl|rfl;.exact Nat.le_add_right _ _
 exact Nat.le_add_left _ _
theorem PL(f g h:Nat->Int)(i:Nat):(kD f h i).length<=(kD f g i).length+(kD g h i).length:=aKJ λ e=>by
 simp only[bne_iff_ne,ne_eq]at e⊢
 by_cases h1:g i=f i;.exact .inr λ h2=>e (h2.trans h1)
 exact .inl h1
theorem aWC(a b c:St)(g i:Nat):(mA a c g i).length<=(mA a b g i).length+(mA b c g i).length:=aKJ λ e=>by
 simp only[aRG,ne_eq]at e⊢
 by_cases h1:a.sp g i=b.sp g i;.exact .inr λ h2=>e (h1.trans h2)
 exact .inl h1
theorem Two.tri {a b c:St}(h:Two a b)(g:Two b c):(tI (T.btw a c)).size<=(tI (T.btw a b)).size+(tI (T.btw b c)).size:=by
 have hz:∀x:Dl,(tI x).size=x.ck.length+x.cu.length+x.wg.length+x.gn.length+x.tk.length+x.sp.length:=λ _=>rfl;have t:=h.trans g;have ka:=h.alk;have kb:=g.alk;have kc:=t.alk;rw[h.btw.1,g.btw.1,t.btw.1,hz,hz,hz];simp only[AS];rw[yV,yV,yV,ER h.ids.1,ER h.ids.1,ER h.ids.2,PN ka.par,PN kb.par,PN kc.par,<-ka.nk,<-ka.ng,<-ka.ns];have l0:=DI (n:=a.nk) λ i _=>PL a.clk b.clk c.clk i;have l1:=DI (n:=a.nk) λ i _=>PL a.cur b.cur c.cur i;have l2:=DI (n:=a.ng) λ i _=>PL a.wt b.wt c.wt i
 have l3:(gnL (mU a) (mU c)).length<=(gnL (mU a) (mU b)++gnL (mU b) (mU c)).length:=by
  refine WK ((WU (tO h.ids.1)).imp λ h e=>oO) λ x hx=>?_;obtain⟨h1,h2⟩:=mem_gnL.1 hx;refine dC.2 ?_;by_cases h3:yT (mU b) x;.exact .inr (mem_gnL.2 ⟨h3,h2⟩)
  exact .inl (mem_gnL.2 ⟨h1,h3⟩)
 have l4:(nwL (mU a) (mU c)).length<=(nwL (mU a) (mU b)++nwL (mU b) (mU c)).length:=by
  refine WK ((WD (tO g.ids.2)).imp λ h e=>by rw[e]at h;omega) λ x hx=>?_;obtain⟨h1,h2⟩:=mem_nwL.1 hx;refine dC.2 ?_;by_cases h3:x∈mU b;.exact .inl (mem_nwL.2 ⟨h3,h2⟩)
  exact .inr (mem_nwL.2 ⟨h1,h3⟩)
 have l5:=DI (n:=a.ns) λ g _=>DI (n:=a.nk) λ i _=>aWC a b c g i;rw[bM]at l3 l4;omega
end Go.Proofs.T
end
section
namespace Go.Proofs.T
open Go Go.AM Go.Proofs
variable{Γ:dL}
attribute [local irreducible] jE del
theorem bCU{a b c:St}(ma:Ms a)(mb:Ms b)(mc:Ms c)(h:Two a b)(g:Two b c):AM.Pure aD Γ 34 [.agg a.cells,.agg (tI (btw a b)).cells,.agg (tI (btw b c)).cells] (.tup [.agg (tI (btw a c)).cells,(0:Int)]):=
 aUK a b c _ _ _ 0 (aXS ma mb h) (aXS mb mc g) (aCN ma mc (h.trans g))
theorem aBZ(hw:AM.Pure aD Γ 13 [] aB)(x:Nums)(hx:NumsOk x)(f:Nat->Sm)(hf:∀i,SmOk (f i))(nl:Nat)(hnl:nl<=9223372036854775807)(z:Int)(hz0:0<=z)(hz1:z<=255)(y:Int)(hy0:0<=y)(hy1:y<=255):
 AM.Pure aD Γ 10 [.agg x.cells,.rd 8 nl (λ i=>smc (f i)),.lit (.int .u8 z),.lit (.int .u8 y)] aB:=by
 obtain⟨n,ng,Ls,hM⟩:=aAO (Γ:=Γ) x hx f hf;obtain⟨q,hq⟩:∃q,q=min nl 40:=⟨_,rfl⟩;have cut:∀z:Int,∃c:Nat,z%((q:Int)+1)=(c:Int)/\c<=q:=λ z=>⟨(z%((q:Int)+1)).toNat,(gA (RZ _ oO)).symm,by have:=rU z (oO:(0:Int)<(q:Int)+1);omega⟩;obtain⟨u,huu⟩:∃u:Int,(if y<z then y else z)=u:=⟨_,rfl⟩;obtain⟨v,hvv⟩:∃v:Int,(if z<y then y else z)=v:=⟨_,rfl⟩;have hu:0<=u/\u<=255:=by rw[<-huu];split<;>omega
 have hv:0<=v/\v<=255:=by rw[<-hvv];split<;>omega
 obtain⟨c,hc,hcq⟩:=cut u;obtain⟨e,he,heq⟩:=cut v;have hmade:=hM.made nl u q c hq hnl hu.1 hu.2 hc;have hmade':=hM.made nl v q e hq hnl hv.1 hv.2 he;have ma:=hM.ms (i:=c) oO;have mb:=hM.ms (i:=e) oO;have mc:=hM.ms (i:=q) oO;have h2:=hM.two (i:=c) (j:=e) oO oO;have h3:=hM.two (i:=e) (j:=q) oO oO;clear hM;obtain⟨a,ea⟩:∃a,a=(Ls c).st:=⟨_,rfl⟩;obtain⟨b,eb⟩:∃b,b=(Ls e).st:=⟨_,rfl⟩;obtain⟨s,es⟩:∃b,b=(Ls q).st:=⟨_,rfl⟩;rw[<-ea]at hmade ma h2;rw[<-eb]at hmade' mb h2 h3;rw[<-es]at hmade hmade' mc h3;clear ea eb es;have hab:=aCN (Γ:=Γ) ma mb h2;have hbc:=aCN (Γ:=Γ) mb mc h3;have hac:=aCN (Γ:=Γ) ma mc (h2.trans h3);have hba:=aCN (Γ:=Γ) mb ma h2.swap;have j1:=bCU (Γ:=Γ) ma mb mc h2 h3;have j2:=bCU (Γ:=Γ) ma mb ma h2 h2.swap;have zab:=yO ma mb;have zbc:=yO mb mc;have zac:=yO ma mc;have zaa:=yO ma ma;have htri:=h2.tri h3;have hn0:(tI (btw a a)).size=0:=(LV ma).zero.2 rfl;obtain⟨D,eD⟩:∃D,D=tI (btw a b):=⟨_,rfl⟩;obtain⟨E,eE⟩:∃D,D=tI (btw b s):=⟨_,rfl⟩;obtain⟨J,eJ⟩:∃D,D=tI (btw a s):=⟨_,rfl⟩;obtain⟨B,eB⟩:∃B,B=tI (btw b a):=⟨_,rfl⟩;obtain⟨N,eN⟩:∃N,N=tI (btw a a):=⟨_,rfl⟩;rw[<-eD]at hab j1 j2 zab htri;rw[<-eE]at hbc j1 zbc htri;rw[<-eJ]at hac j1 zac htri;rw[<-eB]at hba j2;rw[<-eN]at j2 zaa hn0;clear eD eE eJ eB eN;have sD:=IOq (Γ:=Γ) D oO;have sE:=IOq (Γ:=Γ) E oO;have sJ:=IOq (Γ:=Γ) J oO;have sn:=IOq (Γ:=Γ) N oO;rw[hn0]at sn;have qj:=aKW (Γ:=Γ) J J oO oO;rw[PI]at qj;obtain⟨dn,edn⟩:∃y:Int,y=(D.size:Int):=⟨_,rfl⟩;obtain⟨en,een⟩:∃y:Int,y=(E.size:Int):=⟨_,rfl⟩;obtain⟨jn,ejn⟩:∃y:Int,y=(J.size:Int):=⟨_,rfl⟩;rw[<-edn]at sD;rw[<-een]at sE;rw[<-ejn]at sJ;simp only[Nums.cells]at hmade hmade';have h00:((0:Int)!=0)=aE:=rfl;have hwd:aL.wrap (dn+en)=dn+en:=wrap_i64 oO oO;have hle:(jn<=dn+en)=True:=eq_true oO;refine bT Tryz.func10 rfl 125 rfl bB rfl λ k=>?_;have kp:=gZ k [0,1,2,3,4,8,9,10,11,12,14,15,16,17,18,19,20,21,22,23,24,25,26,28,106];have uU:=rA @Nums.cells.eq_1 huu hvv h00 hwd hle;refine wl ?_;refine cA ?_;refine cl [.ret aB] ?_;refine cA ?_;all_goals(try exact hw)
 refine wl ?_;refine dI λ ht=>?_;refine cl [.ret (.tup [.agg a.cells,.agg s.cells,aB])] ?_;refine iE ?_ ?_;all_goals(try exact hmade)
 refine wl ?_;refine cA ?_;refine cl [.ret (.tup [.agg b.cells,.agg s.cells,aB])] ?_;refine iE ?_ ?_;all_goals(try exact hmade')
 refine wl ?_;refine cA ?_;refine cl [.ret (.tup [.agg D.cells,(0:Int)])] ?_;refine iE ?_ ?_;all_goals(try exact hab)
 refine wl ?_;refine cA ?_;refine cl [.ret (.tup [.agg E.cells,(0:Int)])] ?_;refine iE ?_ ?_;all_goals(try exact hbc)
 refine wl ?_;refine cA ?_;refine cl [.ret (.tup [.agg J.cells,(0:Int)])] ?_;refine iE ?_ ?_;all_goals(try exact j1)
 refine wl ?_;refine cA ?_;refine cl [.ret (.tup [.agg J.cells,(0:Int)])] ?_;refine iE ?_ ?_;all_goals(try exact hac)
 refine wl ?_;refine cA ?_;refine cl [.ret (.tup [.agg B.cells,(0:Int)])] ?_;refine iE ?_ ?_;all_goals(try exact hba)
 refine wl ?_;refine cA ?_;refine cl [.ret (.tup [.agg N.cells,(0:Int)])] ?_;refine iE ?_ ?_;all_goals(try exact j2)
 refine wl ?_;refine dI λ ht=>?_;refine dl [.ret aB,.ret jn,.ret dn,.ret en,.ret (0:Int)] ?_;refine zq6 (zs ?_) (zs ?_) (zs ?_) (zs ?_) (zs ?_) (zs ?_);all_goals(try(first|exact qj|exact sJ|exact sD|exact sE|exact sn))
 all_goals(try exact absurd trivial ‹¬True›)
 refine bV rfl ⟨_,rfl,bC ?_⟩;rfl
end Go.Proofs.T
end
section
namespace Go.Proofs.T
open Go Go.AM Go.Proofs Go.ChangeMaps Go.ChangeShapes Go.WideShapes Go.ChangeAt Go.WideMaps Go.WideElems Go.RowKit Go.Proofs.YteimiejbhhgljaaGreatDoor
theorem aGT{Γ:dL}(hG:GT Γ)(x:Nums)(hx:NumsOk x)(f:Nat->Sm)(hf:∀i,SmOk (f i))(nl:Nat)(hnl:nl<=9223372036854775807)(z:Int)(hz0:0<=z)(hz1:z<=255)(y:Int)(hy0:0<=y)(hy1:y<=255):AM.Pure aD Γ 10 [.agg x.cells,.rd 8 nl (λ i=>smc (f i)),.lit (.int .u8 z),.lit (.int .u8 y)] aB:=aBZ (aLM hG) x hx f hf nl hnl z hz0 hz1 y hy0 hy1
theorem rowES(u:TypeId)(h:aD.typeName? 3 u=aA "*errors.errorString"):u=353:=by
 have star: "*"++ "errors.errorString"= "*errors.errorString":=by decide
 exact typeName_ptr_named (nm:= "errors.errorString") (by rw[star];kernel_rfl) iF (by decide) u (by rw[star];exact h)
theorem gt_of{W:World}(hL:laidMetH aD Rows.deltaJoinsRow.laid W)(hsh:W.ShapedOpen aD):∃Γ,GT Γ/\∀g cells,AM.look Γ g=aA cells->GlobIs W (λ b=>b<W.heap.size) g cells:=by
 have h1:laidMet aD [("internal/strconv.uint64pow10",Lib.tabData .u64 Lib.pow10Tab)] W:=laidMetH.filter (λ x=>x.1== "internal/strconv.uint64pow10") hL;have h2:laidMet aD [("strconv.ErrSyntax",Rows.laid_strconv_ErrSyntax)] W:=laidMetH.filter (λ x=>x.1== "strconv.ErrSyntax") hL;have h3:laidMet aD [("strconv.ErrRange",Rows.laid_strconv_ErrRange)] W:=laidMetH.filter (λ x=>x.1== "strconv.ErrRange") hL;have t1:=Lib.tabIs_of_head (g:=3) iF rfl rfl rfl iF iF h1;obtain⟨a2,_,v2, -, -, -⟩:=laid_sentinel (g:=0) h2 iF iF zY rowES zX zW rfl rfl jC iF iF;obtain⟨a3,_,v3, -, -, -⟩:=laid_sentinel (g:=1) h3 iF iF zY rowES zX zW rfl rfl jC iF iF;have g1:GlobIs W (λ b=>b<W.heap.size) 3 (Lib.pow10Tab.map λ z=> .lit (.int .u64 z)):=by have:=rG (g:=3) (cs:=Lib.pow10Tab.map λ z=>bA .u64 z) iF t1;rw[jM]at this;exact this
 have g2:=rG (g:=0) (cs:=[Value.iface 353 (.pointer (aA a2))]) iF v2;have g3:=rG (g:=1) (cs:=[Value.iface 353 (.pointer (aA a3))]) iF v3;obtain⟨m,g4⟩:=OY (g:=2) (t:=3) (k:= .i64) (zero:= #[.int .i64 0]) hsh (of_decide_eq_true iF) iF rfl iF iF jT;refine⟨[(3,Lib.pow10Tab.map λ z=> .lit (.int .u64 z)),(0,[.lit (.iface 353 (.pointer (aA a2)))]),(1,[.lit (.iface 353 (.pointer (aA a3)))]),(2,[m])],⟨rfl,⟨_,_,rfl⟩,⟨_,_,rfl⟩,⟨_,rfl⟩⟩,λ g cells hg=>?_⟩;simp only[AM.look]at hg;split at hg;.rename_i e;subst e;cases hg;exact g1
 split at hg;.rename_i e;subst e;cases hg;exact g2
 split at hg;.rename_i e;subst e;cases hg;exact g3
 split at hg;.rename_i e;subst e;cases hg;exact g4
 cases hg
end Go.Proofs.T
end
section
namespace Go.Proofs.T
open Go Go.Proofs Go.Proofs.YteimiejbhhgljaaGreatDoor
theorem jf0:(Rows.deltaJoinsRow.wf (OpenSpec.ofChange Rows.deltaJoinsSpec))=aB:=by kernel_rfl
theorem jf1:(laidOutB aD)=aB:=by kernel_rfl
theorem jf2:(mapsRowed aD)=aB:=by kernel_rfl
theorem jf3:(oA.params.all (aD.readableRec ·))=aB:=by kernel_rfl
theorem jf4:(namedTie aD Rows.deltaJoinsRow.named Rows.deltaJoinsSpec.vars)=aB:=by kernel_rfl
theorem jf5:((Rows.deltaJoinsRow.stops==[]))=aB:=by kernel_rfl
theorem jf6:((aD.stops==[]))=aB:=by kernel_rfl
theorem jf7:((Rows.deltaJoinsRow.knobs==[]))=aB:=by kernel_rfl
theorem jf8:((aD.stopKnobs==[]))=aB:=by kernel_rfl
theorem jf9:((Rows.deltaJoinsRow.inPlace==aD.inPlace 10))=aB:=by kernel_rfl
theorem jf10:((Rows.deltaJoinsRow.unfollowed==aD.unfollowed 10))=aB:=by kernel_rfl
theorem jf11:((Rows.deltaJoinsRow.recurses==aD.recurses 10))=aB:=by kernel_rfl
theorem jf12:((Rows.deltaJoinsRow.named==aD.varsNamed 10))=aB:=by kernel_rfl
theorem jf13:((Rows.deltaJoinsRow.maps==(oA.params.toList++Rows.deltaJoinsSpec.plain.varTypes aD).any (aD.mapsRec ·)))=aB:=by kernel_rfl
theorem jf14:((Rows.deltaJoinsRow.ifaces==(oA.params.toList++Rows.deltaJoinsSpec.plain.varTypes aD).any (aD.ifacesRec ·)))=aB:=by kernel_rfl
theorem jf15:((Rows.deltaJoinsRow.mapsOut==aD.mapsAmong oA.resultTypes.toList))=aB:=by kernel_rfl
theorem jf16:((Rows.deltaJoinsRow.loops==(oA.params.toList++Rows.deltaJoinsSpec.plain.varTypes aD).any (aD.loopsFrom ·)))=aB:=by kernel_rfl
theorem jf17:((Rows.deltaJoinsRow.wideKeys==(oA.params.toList++Rows.deltaJoinsSpec.plain.varTypes aD++oA.resultTypes.toList).any (aD.wideKeysFrom ·)))=aB:=by kernel_rfl
theorem jf18:(Rows.deltaJoinsSpec.vars.all (aD.varReadable ·))=aB:=by kernel_rfl
theorem jf19:(oA.resultTypes.all (λ t=>aD.readableRec t&&decide (t<aD.types.size)))=aB:=by kernel_rfl
theorem jf20:((Rows.deltaJoinsRow.ifacesOut==oA.resultTypes.toList.any (aD.ifacesRec ·)))=aB:=by kernel_rfl
theorem jf21:((Rows.deltaJoinsRow.loopsOut==oA.resultTypes.toList.any (aD.loopsFrom ·)))=aB:=by kernel_rfl
theorem jf22:((Rows.deltaJoinsRow.plainKeys==aD.plainKeys))=aB:=by kernel_rfl
theorem jf23:(Rows.deltaJoinsRow.shortTexts.isNone)=aB:=by kernel_rfl
theorem jf24:(aD.stopsHeard)=aB:=by kernel_rfl
theorem jf25:(aD.mayEnter)=aB:=by kernel_rfl
theorem jf26:((Rows.deltaJoinsRow.lifted==aD.liftsFinal))=aB:=by kernel_rfl
theorem jf27:((aD.make==aA Rows.deltaJoinsRow.make))=aB:=by kernel_rfl
theorem jf28:((Rows.deltaJoinsRow.kinds==(if Rows.deltaJoinsRow.domain.isEmpty then []else oA.params.toList.map λ t=>match aD.underlying t with|some (.int k)=>aA k|_=>aC)))=aB:=by kernel_rfl
theorem jf29:((Rows.deltaJoinsRow.pinned==Rows.deltaJoinsRow.pinnedBy))=aB:=by kernel_rfl
theorem jf30:((Rows.deltaJoinsRow.veiled==(oA.params.toList++Rows.deltaJoinsSpec.plain.varTypes aD++oA.resultTypes.toList).any (aD.veiledRec ·)))=aB:=by kernel_rfl
theorem jf31:(Rows.deltaJoinsRow.veiledFits aD oA.params.toList (oA.params.toList++Rows.deltaJoinsSpec.plain.varTypes aD++oA.resultTypes.toList))=aB:=by kernel_rfl
theorem jf:joinedFacts aD 10 oA Rows.deltaJoinsSpec Rows.deltaJoinsRow=aB:=by unfold joinedFacts;simp only[aH];exact⟨⟨⟨⟨⟨⟨⟨⟨⟨⟨⟨⟨⟨⟨⟨⟨⟨⟨⟨⟨⟨⟨⟨⟨⟨⟨⟨⟨⟨⟨⟨jf0,jf1⟩,jf2⟩,jf3⟩,jf4⟩,jf5⟩,jf6⟩,jf7⟩,jf8⟩,jf9⟩,jf10⟩,jf11⟩,jf12⟩,jf13⟩,jf14⟩,jf15⟩,jf16⟩,jf17⟩,jf18⟩,jf19⟩,jf20⟩,jf21⟩,jf22⟩,jf23⟩,jf24⟩,jf25⟩,jf26⟩,jf27⟩,jf28⟩,jf29⟩,jf30⟩,jf31⟩
end Go.Proofs.T
end
section
namespace Go.Proofs.T
open Go Go.AM Go.Proofs Go.ChangeMaps Go.ChangeShapes Go.WideShapes Go.ChangeAt Go.WideMaps Go.WideElems Go.RowKit Go.Proofs.YteimiejbhhgljaaGreatDoor
def zeroNums:Value:= .agg #[.int .u8 0,.int .u8 0,.int .u32 0,.int .u8 0,.int .u8 0,.int .u8 0,.int .u8 0,.int .u8 0,.int .u16 0,.int .u16 0,.int .u16 0,.int .u16 0,.int .u16 0]
theorem aZH{W:World}{G:Nat->Prop}{ρ:cY}{A:bZ}{a b c d:AVal}{x y z u:Value}(h:V W G ρ A a x)(h':V W G ρ A b y)(h'':V W G ρ A c z)(h3:V W G ρ A d u):Vs W G ρ A [a,b,c,d] #[x,y,z,u]:=
 ⟨rfl,λ j w hj=>by
  match j with
  |0=>cases hj;exact h
  |1=>cases hj;exact h'
  |2=>cases hj;exact h''
  |3=>cases hj;exact h3
  |j+4=>simp at hj⟩
theorem liftedRw(os:Os)(started:os.Started)(H:Type)(enc:TypeId×Value->H):
 ReturnsInHanded {} bKQ os 10 .any (λ w args=>(Rows.deltaJoinsSpec.pre enc aD oA [] aE w args/\laidMetH aD Rows.deltaJoinsRow.laid w)/\sizedMet enc aD oA (OpenSpec.ofChange Rows.deltaJoinsSpec) aE w args)
  (Rows.deltaJoinsSpec.post enc aD oA aE aB aE aE):=by
 refine ZM (C:=bKQ) (X:=λ w _=>laidMetH aD Rows.deltaJoinsRow.laid w) (λ _ _ _ hh h=>h.of_heap hh) bCJ started iF Tryz.func10
  (ChangeSpec.witness_shaped (enc:=enc) (C:=bKQ) (os:=os) (X:=λ w _=>laidMetH aD Rows.deltaJoinsRow.laid w) aE (World.laidAll aD os Rows.deltaJoinsRow.laid) #[zeroNums,.slice aC 0 0,.int .u8 0,.int .u8 0] 8 (World.laidAll_os _ _ _) (World.shaped_of_ZipB iF iF) iF iF iF
    (by rw[MakeChecks.laidMetH_plain _ _ _ iF];exact laidMet_laidAll _ iF iF)) ?_
 intro W base args ds gs before hval0 hW hsh hL;have hval:∀(j:Nat) t v,oA.params[j]? =aA t->args[j]? =aA v->bKN aD W .any base t v:=hval0;have hW':=hW;obtain⟨p,q,hA0,hV,rfl,hfz,hnd⟩:=hW;have hA:DataW.TrodAll enc aD W 0 (λ _=>aB) aB oA.params.toList args.toList ds p:=hA0;rw[Tryz.params10]at hA hval;obtain⟨v0,v1,v2,v3,d0,d1,d2,d3,p0,p1,p2,p3,rfl,rfl,rfl,h0,h1,h2,h3⟩:=trodAll_four hA;obtain⟨rfl,rfl⟩:=trodVars_none hV;clear hA0 hval0;obtain⟨x,hx,hv0⟩:=aJG (hval 0 55 v0 rfl rfl) h0;obtain⟨n,f,hn,hf,hv1⟩:=SO (hval 1 56 v1 rfl rfl) h1;obtain⟨z,rfl,rfl,rfl,hz⟩:=open_int dH (hval 2 5 v2 rfl rfl) h2;obtain⟨y,rfl,rfl,rfl,hy⟩:=open_int dH (hval 3 5 v3 rfl rfl) h3;have hz':=sZ hz;have hy':=sZ hy;obtain⟨Γ,hG,hΓ⟩:=gt_of hL hsh;refine(ST hΓ (aGT hG x hx f hf n hn z hz'.1 hz'.2 y hy'.1 hy'.2) (aZH hv0 hv1 (.lit (v:= .int .u8 z)) (.lit (v:= .int .u8 y)))).mono λ e W' ⟨he,hb⟩=>?_;subst he;have hlt0:∀x∈p0,x.block<W.heap.size:=λ x hx=>hW'.lt x (by simp[hx]);have hlt1:∀x∈p1,x.block<W.heap.size:=λ x hx=>hW'.lt x (by simp[hx]);refine⟨_,rfl,_,_,_,[],p0++(p1++[]),[],hW',?_,?_,rfl,EI hb _,λ h=>by cases h⟩;.exact trodAll_mk1 (shut_bool mB aB)
 exact trodAll_mk4 (Below.trod MA iF (of_decide_eq_true iF) h0 hb hlt0) (Below.trod MA iF (of_decide_eq_true iF) h1 hb hlt1) (shut_int dH hz) (shut_int dH hy)
theorem deltaJoins_holds:Rows.DeltaJoinsSaid:=
 OpenClaim.holds_of_wide 10 oA rfl rfl rfl rfl rfl rfl rfl ⟨rfl,rfl,rfl,rfl,rfl⟩ rfl rfl rfl rfl rfl iF Tryz.func10 jf
  (of_decide_eq_true iF) (by unfold Func.isWrapper;first|(rw[iP (by decide+kernel)];kernel_rfl)|(rw[iN (by decide+kernel)];exact⟨rfl,rfl⟩))
  (λ os started H enc _=>liftedRw os started H enc)
end Go.Proofs.T
end
